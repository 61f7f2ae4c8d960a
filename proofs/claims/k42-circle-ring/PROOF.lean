import PyProof.Rows.All
import Wide.All
import OpenK.AllK
import Wide.FinOn
import HandS.ForMost
import HandS.Exc
import HandS.ExcOwn
import HandS.TryOnly
import HandS.TryMany
import HandS.CallLocal
import HandS.CallSlots
import HandS.ExcInit
import HandS.ExcSuper
import HandS.IsInst
import HandS.Flow
import HandS.Style
import HandS.Wide
import HandS.WordsExc
import HandS.Defaults
import HandS.TupAny
import HandS.TupMul
import HandS.SortInts
import HandS.Head0
import HandS.Head1
import HandS.Head2
import HandS.HeadEnd
import HandS.HeadHook1
import HandS.HeadHook2
import HandS.HeadHook4
import HandS.ExcField
import HandS.ClsMeth
import HandS.HeadNt
import KE.KStateDown
import HandS.More
import HandS.Words
import PySem.Challenge.RW_primepapers_k42_whole_numbers_with_a_roo
import HandS.Codes
set_option Elab.async false
set_option linter.all false
set_option maxRecDepth 100000
set_option maxHeartbeats 0
/-! Ev, part 1: pure data, the heap of lists, how they lie in the layer's heap. -/
namespace Ev
open PySem PySem.Spec PyProof.Rows L2
abbrev St := L2.St

/-! ### data -/
/-- a value of the programs: tuples are values, so are lists that nobody changes (fro: the script), other lists and dicts stand at places; exn: a caught exception (its class, its field, the field's value) -/
inductive D where
  | non | bl (b : Bool) | int (i : Int) | str (s : Str) | tup (ds : List D) | fro (ds : List D) | loc (l : Nat) | fn (x : Str) | exn (x f : Str) (d : D)
/-- what stands at a place: a list; a dict -/
inductive O where
  | lst (ds : List D) | dk (kvs : List (Key × D))
abbrev Hd := List O
/-- an exception: its class, its field -/
structure Xn where
  cls : Str
  fld : Option (Str × D)
inductive R (α : Type) where
  | ok (a : α) (h : Hd) | ex (e : Xn) (h : Hd) | bad
abbrev M (α : Type) := Hd → R α
abbrev En := List (Option D)

mutual
/-- the places renamed -/
def D.ml (f : Nat → Nat) : D → D
  | .loc l => .loc (f l)
  | .tup ds => .tup (D.mls f ds)
  | .fro ds => .fro (D.mls f ds)
  | .exn x g d => .exn x g (D.ml f d)
  | .non => .non | .bl b => .bl b | .int i => .int i | .str s => .str s | .fn x => .fn x
def D.mls (f : Nat → Nat) : List D → List D
  | [] => []
  | d :: ds => D.ml f d :: D.mls f ds
end
mutual
/-- its places -/
def D.ls : D → List Nat
  | .loc l => [l]
  | .tup ds => D.lss ds
  | .fro ds => D.lss ds
  | .exn _ _ d => D.ls d
  | .non => [] | .bl _ => [] | .int _ => [] | .str _ => [] | .fn _ => []
def D.lss : List D → List Nat
  | [] => []
  | d :: ds => D.ls d ++ D.lss ds
end
mutual
/-- no place and no caught exception in it -/
def D.flat : D → Bool
  | .loc _ => false
  | .tup ds => D.flats ds
  | .fro ds => D.flats ds
  | .exn _ _ _ => false
  | .non => true | .bl _ => true | .int _ => true | .str _ => true | .fn _ => true
def D.flats : List D → Bool
  | [] => true
  | d :: ds => D.flat d && D.flats ds
end
mutual
/-- no caught exception in it -/
def D.nox : D → Bool
  | .tup ds => D.noxs ds
  | .fro ds => D.noxs ds
  | .exn _ _ _ => false
  | .loc _ => true | .non => true | .bl _ => true | .int _ => true | .str _ => true | .fn _ => true
def D.noxs : List D → Bool
  | [] => true
  | d :: ds => D.nox d && D.noxs ds
end
def O.flat : O → Bool
  | .lst ds => D.flats ds
  | .dk kvs => D.flats (kvs.map (·.2))

/-! ### how data lie -/
/-- the written part; the exception that is handled: where it stands, its class, its dict -/
structure Wd where
  K : PySem.W.Frag
  mg : Str → Option Value
  xa : Option (Addr × Addr × Addr)
/-- a list that nobody changes -/
def FroL (K : PySem.W.Frag) (H : Hp) (a : Addr) (vs : List V) : Prop := (∃ o, H a = some (.frz o (.lst vs))) ∨ SqL K (fun _ => none) a vs
theorem FroL.sq {K : PySem.W.Frag} {H : Hp} {a : Addr} {vs : List V} (h : FroL K H a vs) : SqL K H a vs := by
  rcases h with ⟨o, h⟩ | (h | ⟨o, h⟩) | h
  · exact .inl (.inr ⟨o, h⟩)
  · cases h
  · cases h
  · exact .inr h
mutual
def RV (W : Wd) (ρ : List Addr) (H : Hp) : D → V → Prop
  | .non, v => v = .non
  | .bl b, v => v = .bl b
  | .int i, v => v = .int i
  | .str s, v => v = .str s
  | .tup ds, v => ∃ a vs, v = .ref a ∧ SqT W.K H a vs ∧ RVs W ρ H ds vs
  | .fro ds, v => ∃ a vs, v = .ref a ∧ FroL W.K H a vs ∧ RVs W ρ H ds vs
  | .loc l, v => ∃ a, v = .ref a ∧ ρ[l]? = some a
  | .fn x, v => ∃ f, v = .ref f ∧ W.mg x = some (.ref f)
  | .exn x g d, v => ∃ a C dd v', v = .ref a ∧ W.xa = some (a, C, dd) ∧ W.mg x = some (.ref C) ∧ H dd = some (.xd [(g, v')]) ∧ RV W ρ H d v'
def RVs (W : Wd) (ρ : List Addr) (H : Hp) : List D → List V → Prop
  | [], vs => vs = []
  | d :: ds, vs => ∃ v r, vs = v :: r ∧ RV W ρ H d v ∧ RVs W ρ H ds r
end
/-- what never changes -/
def Imm : HO → Prop
  | .tup _ => True
  | .frz _ _ => True
  | .xd _ => True
  | _ => False
/-- the heap goes on: what is not at the places, and what never changes, stays -/
structure Ext (ρ : List Addr) (H : Hp) (ρ' : List Addr) (H' : Hp) : Prop where
  pre : ∃ s, ρ' = ρ ++ s ∧ ∀ a ∈ s, H a = none
  keep : ∀ a o, H a = some o → (a ∉ ρ ∨ Imm o) → H' a = some o
  there : ∀ a o, H a = some o → ∃ o', H' a = some o'
theorem Ext.refl (ρ : List Addr) (H : Hp) : Ext ρ H ρ H := ⟨⟨[], by simp, fun _ h => nomatch h⟩, fun _ _ h _ => h, fun _ o h => ⟨o, h⟩⟩
theorem Ext.trans {ρ ρ1 ρ2 : List Addr} {H H1 H2 : Hp} (a : Ext ρ H ρ1 H1) (b : Ext ρ1 H1 ρ2 H2) : Ext ρ H ρ2 H2 := by
  obtain ⟨⟨s, e1, n1⟩, k1, t1⟩ := a
  obtain ⟨⟨t, e2, n2⟩, k2, t2⟩ := b
  subst e1 e2
  refine ⟨⟨s ++ t, by simp, fun x hx => ?_⟩, fun x o h c => ?_, fun x o h => ?_⟩
  · rcases List.mem_append.mp hx with hx | hx
    · exact n1 x hx
    · cases q : H x with
      | none => rfl
      | some o =>
        obtain ⟨o', e⟩ := t1 x o q
        rw [n2 x hx] at e; cases e
  · have h1 := k1 x o h c
    refine k2 x o h1 ?_
    rcases c with c | c
    · refine .inl fun hx => ?_
      rcases List.mem_append.mp hx with hx | hx
      · exact c hx
      · rw [n1 x hx] at h; cases h
    · exact .inr c
  · obtain ⟨o', e⟩ := t1 x o h
    exact t2 x o' e
theorem Ext.new {ρ : List Addr} {H : Hp} {a : Addr} {o : HO} (n : H a = none) : Ext ρ H ρ (upd H a o) :=
  ⟨⟨[], by simp, fun _ h => nomatch h⟩, fun b u h _ => by rw [upd_ne (ne_of_none h n)]; exact h, fun b u h => ⟨u, by rw [upd_ne (ne_of_none h n)]; exact h⟩⟩
theorem Ext.place {ρ : List Addr} {H : Hp} {a : Addr} {o : HO} (n : H a = none) : Ext ρ H (ρ ++ [a]) (upd H a o) :=
  ⟨⟨[a], rfl, fun b h => by rw [List.mem_singleton.mp h]; exact n⟩, fun b u h _ => by rw [upd_ne (ne_of_none h n)]; exact h, fun b u h => ⟨u, by rw [upd_ne (ne_of_none h n)]; exact h⟩⟩
theorem Ext.write {ρ : List Addr} {H : Hp} {a : Addr} {o u : HO} (h : H a = some u) (m : a ∈ ρ) (im : ¬ Imm u) : Ext ρ H ρ (upd H a o) := by
  refine ⟨⟨[], by simp, fun _ h => nomatch h⟩, fun b v hb c => ?_, fun b v hb => ?_⟩
  · by_cases e : b = a
    · subst e
      rw [h] at hb; cases hb
      rcases c with c | c
      · exact absurd m c
      · exact absurd c im
    · rw [upd_ne e]; exact hb
  · by_cases e : b = a
    · subst e; exact ⟨o, upd_same⟩
    · exact ⟨v, by rw [upd_ne e]; exact hb⟩
theorem Ext.at {ρ ρ' : List Addr} {H H' : Hp} (x : Ext ρ H ρ' H') {l : Nat} {a : Addr} (e : ρ[l]? = some a) : ρ'[l]? = some a := by
  obtain ⟨⟨s, rfl, _⟩, _⟩ := x
  rw [List.getElem?_append_left (List.getElem?_eq_some_iff.mp e).1]; exact e
theorem Ext.sqT {ρ ρ' : List Addr} {H H' : Hp} (x : Ext ρ H ρ' H') {K : PySem.W.Frag} {a : Addr} {vs : List V} (h : SqT K H a vs) : SqT K H' a vs := by
  rcases h with (h | ⟨o, h⟩) | h
  · exact .inl (.inl (x.keep _ _ h (.inr trivial)))
  · exact .inl (.inr ⟨o, x.keep _ _ h (.inr trivial)⟩)
  · exact .inr h
theorem Ext.froL {ρ ρ' : List Addr} {H H' : Hp} (x : Ext ρ H ρ' H') {K : PySem.W.Frag} {a : Addr} {vs : List V} (h : FroL K H a vs) : FroL K H' a vs := by
  rcases h with ⟨o, h⟩ | h
  · exact .inl ⟨o, x.keep _ _ h (.inr trivial)⟩
  · exact .inr h
/-- what never changes stays -/
abbrev Kp (H H' : Hp) : Prop := ∀ a o, H a = some o → Imm o → H' a = some o
theorem Kp.sqT {H H' : Hp} (x : Kp H H') {K : PySem.W.Frag} {a : Addr} {vs : List V} (h : SqT K H a vs) : SqT K H' a vs := by
  rcases h with (h | ⟨o, h⟩) | h
  · exact .inl (.inl (x _ _ h trivial))
  · exact .inl (.inr ⟨o, x _ _ h trivial⟩)
  · exact .inr h
theorem Kp.froL {H H' : Hp} (x : Kp H H') {K : PySem.W.Frag} {a : Addr} {vs : List V} (h : FroL K H a vs) : FroL K H' a vs := by
  rcases h with ⟨o, h⟩ | h
  · exact .inl ⟨o, x _ _ h trivial⟩
  · exact .inr h
mutual
theorem RV.ext0 {W : Wd} {ρ ρ' : List Addr} {H H' : Hp} (p : ∀ (l : Nat) (a : Addr), ρ[l]? = some a → ρ'[l]? = some a) (x : Kp H H') : ∀ (d : D) (v : V), RV W ρ H d v → RV W ρ' H' d v
  | .non, _, h => h
  | .bl _, _, h => h
  | .int _, _, h => h
  | .str _, _, h => h
  | .fn _, _, h => h
  | .tup ds, v, h => by
    obtain ⟨a, vs, e, s, r⟩ := h
    exact ⟨a, vs, e, x.sqT s, RVs.ext0 p x ds vs r⟩
  | .fro ds, v, h => by
    obtain ⟨a, vs, e, s, r⟩ := h
    exact ⟨a, vs, e, x.froL s, RVs.ext0 p x ds vs r⟩
  | .loc l, v, h => by
    obtain ⟨a, e, s⟩ := h
    exact ⟨a, e, p l a s⟩
  | .exn c g d, v, h => by
    obtain ⟨a, C, dd, v', e, h1, h2, h3, r⟩ := h
    exact ⟨a, C, dd, v', e, h1, h2, x _ _ h3 trivial, RV.ext0 p x d v' r⟩
theorem RVs.ext0 {W : Wd} {ρ ρ' : List Addr} {H H' : Hp} (p : ∀ (l : Nat) (a : Addr), ρ[l]? = some a → ρ'[l]? = some a) (x : Kp H H') : ∀ (ds : List D) (vs : List V), RVs W ρ H ds vs → RVs W ρ' H' ds vs
  | [], _, h => h
  | d :: ds, vs, h => by
    obtain ⟨v, r, e, h1, h2⟩ := h
    exact ⟨v, r, e, RV.ext0 p x d v h1, RVs.ext0 p x ds r h2⟩
end
theorem Ext.kp {ρ ρ' : List Addr} {H H' : Hp} (x : Ext ρ H ρ' H') : Kp H H' := fun a o h i => x.keep a o h (.inr i)
theorem RV.ext {W : Wd} {ρ ρ' : List Addr} {H H' : Hp} (x : Ext ρ H ρ' H') (d : D) (v : V) (h : RV W ρ H d v) : RV W ρ' H' d v := RV.ext0 (fun _ _ e => x.at e) x.kp d v h
theorem RVs.ext {W : Wd} {ρ ρ' : List Addr} {H H' : Hp} (x : Ext ρ H ρ' H') (ds : List D) (vs : List V) (h : RVs W ρ H ds vs) : RVs W ρ' H' ds vs := RVs.ext0 (fun _ _ e => x.at e) x.kp ds vs h
mutual
/-- flat data hang on no place -/
theorem RV.flat {W W' : Wd} {ρ ρ' : List Addr} {H : Hp} (hK : W'.K = W.K) (hm : W'.mg = W.mg) : ∀ (d : D) (v : V), D.flat d = true → RV W ρ H d v → RV W' ρ' H d v
  | .non, _, _, h => h
  | .bl _, _, _, h => h
  | .int _, _, _, h => h
  | .str _, _, _, h => h
  | .fn x, v, _, h => by
    obtain ⟨f, e, m⟩ := h
    exact ⟨f, e, by rw [hm]; exact m⟩
  | .tup ds, v, f, h => by
    obtain ⟨a, vs, e, s, r⟩ := h
    exact ⟨a, vs, e, by rw [hK]; exact s, RVs.flat hK hm ds vs f r⟩
  | .fro ds, v, f, h => by
    obtain ⟨a, vs, e, s, r⟩ := h
    exact ⟨a, vs, e, by rw [hK]; exact s, RVs.flat hK hm ds vs f r⟩
theorem RVs.flat {W W' : Wd} {ρ ρ' : List Addr} {H : Hp} (hK : W'.K = W.K) (hm : W'.mg = W.mg) : ∀ (ds : List D) (vs : List V), D.flats ds = true → RVs W ρ H ds vs → RVs W' ρ' H ds vs
  | [], _, _, h => h
  | d :: ds, vs, f, h => by
    obtain ⟨v, r, e, h1, h2⟩ := h
    obtain ⟨f1, f2⟩ := Bool.and_eq_true_iff.mp (show (D.flat d && D.flats ds) = true from f)
    exact ⟨v, r, e, RV.flat hK hm d v f1 h1, RVs.flat hK hm ds r f2 h2⟩
end
mutual
/-- data without a caught exception do not hang on the one that is handled -/
theorem RV.nox {W W' : Wd} {ρ : List Addr} {H : Hp} (hK : W'.K = W.K) (hm : W'.mg = W.mg) : ∀ (d : D) (v : V), D.nox d = true → RV W ρ H d v → RV W' ρ H d v
  | .non, _, _, h => h
  | .bl _, _, _, h => h
  | .int _, _, _, h => h
  | .str _, _, _, h => h
  | .loc _, _, _, h => h
  | .fn x, v, _, h => by
    obtain ⟨f, e, m⟩ := h
    exact ⟨f, e, by rw [hm]; exact m⟩
  | .tup ds, v, f, h => by
    obtain ⟨a, vs, e, s, r⟩ := h
    exact ⟨a, vs, e, by rw [hK]; exact s, RVs.nox hK hm ds vs f r⟩
  | .fro ds, v, f, h => by
    obtain ⟨a, vs, e, s, r⟩ := h
    exact ⟨a, vs, e, by rw [hK]; exact s, RVs.nox hK hm ds vs f r⟩
theorem RVs.nox {W W' : Wd} {ρ : List Addr} {H : Hp} (hK : W'.K = W.K) (hm : W'.mg = W.mg) : ∀ (ds : List D) (vs : List V), D.noxs ds = true → RVs W ρ H ds vs → RVs W' ρ H ds vs
  | [], _, _, h => h
  | d :: ds, vs, f, h => by
    obtain ⟨v, r, e, h1, h2⟩ := h
    obtain ⟨f1, f2⟩ := Bool.and_eq_true_iff.mp (show (D.nox d && D.noxs ds) = true from f)
    exact ⟨v, r, e, RV.nox hK hm d v f1 h1, RVs.nox hK hm ds r f2 h2⟩
end
mutual
/-- renamed data: the places are mapped on -/
theorem RV.ren {W W' : Wd} {ρ ρ' : List Addr} {H : Hp} {f : Nat → Nat} (hK : W'.K = W.K) (hm : W'.mg = W.mg) : ∀ (d : D) (v : V), D.nox d = true → (∀ l ∈ D.ls d, ∀ a, ρ[l]? = some a → ρ'[f l]? = some a) → RV W ρ H d v → RV W' ρ' H (D.ml f d) v
  | .non, _, _, _, h => h
  | .bl _, _, _, _, h => h
  | .int _, _, _, _, h => h
  | .str _, _, _, _, h => h
  | .fn x, v, _, _, h => by
    obtain ⟨g, e, m⟩ := h
    exact ⟨g, e, by rw [hm]; exact m⟩
  | .loc l, v, _, k, h => by
    obtain ⟨a, e, s⟩ := h
    exact ⟨a, e, k l (by simp [D.ls]) a s⟩
  | .tup ds, v, n, k, h => by
    obtain ⟨a, vs, e, s, r⟩ := h
    exact ⟨a, vs, e, by rw [hK]; exact s, RVs.ren hK hm ds vs n k r⟩
  | .fro ds, v, n, k, h => by
    obtain ⟨a, vs, e, s, r⟩ := h
    exact ⟨a, vs, e, by rw [hK]; exact s, RVs.ren hK hm ds vs n k r⟩
theorem RVs.ren {W W' : Wd} {ρ ρ' : List Addr} {H : Hp} {f : Nat → Nat} (hK : W'.K = W.K) (hm : W'.mg = W.mg) : ∀ (ds : List D) (vs : List V), D.noxs ds = true → (∀ l ∈ D.lss ds, ∀ a, ρ[l]? = some a → ρ'[f l]? = some a) → RVs W ρ H ds vs → RVs W' ρ' H (D.mls f ds) vs
  | [], _, _, _, h => h
  | d :: ds, vs, n, k, h => by
    obtain ⟨v, r, e, h1, h2⟩ := h
    obtain ⟨f1, f2⟩ := Bool.and_eq_true_iff.mp (show (D.nox d && D.noxs ds) = true from n)
    exact ⟨v, r, e, RV.ren hK hm d v f1 (fun l hl => k l (List.mem_append_left _ hl)) h1, RVs.ren hK hm ds r f2 (fun l hl => k l (List.mem_append_right _ hl)) h2⟩
end
theorem RVs.length {W : Wd} {ρ : List Addr} {H : Hp} : ∀ {ds : List D} {vs : List V}, RVs W ρ H ds vs → vs.length = ds.length
  | [], _, h => by cases h; rfl
  | d :: ds, _, h => by
    obtain ⟨v, r, e, _, h2⟩ := h
    subst e
    simp [RVs.length h2]
theorem RVs.get {W : Wd} {ρ : List Addr} {H : Hp} : ∀ {ds : List D} {vs : List V} {i : Nat} {d : D}, RVs W ρ H ds vs → ds[i]? = some d → ∃ v, vs[i]? = some v ∧ RV W ρ H d v
  | [], _, _, _, _, e => by simp at e
  | d :: ds, _, 0, _, h, e => by
    obtain ⟨v, r, rfl, h1, _⟩ := h
    simp at e; subst e
    exact ⟨v, rfl, h1⟩
  | d :: ds, _, i + 1, _, h, e => by
    obtain ⟨v, r, rfl, _, h2⟩ := h
    obtain ⟨w, e1, e2⟩ := RVs.get (i := i) h2 (by simpa using e)
    exact ⟨w, by simpa using e1, e2⟩
theorem RVs.append {W : Wd} {ρ : List Addr} {H : Hp} : ∀ {ds es : List D} {vs ws : List V}, RVs W ρ H ds vs → RVs W ρ H es ws → RVs W ρ H (ds ++ es) (vs ++ ws)
  | [], _, _, _, h, h' => by cases h; exact h'
  | d :: ds, es, _, ws, h, h' => by
    obtain ⟨v, r, rfl, h1, h2⟩ := h
    exact ⟨v, r ++ ws, rfl, h1, RVs.append h2 h'⟩
theorem RVs.take {W : Wd} {ρ : List Addr} {H : Hp} : ∀ (n : Nat) {ds : List D} {vs : List V}, RVs W ρ H ds vs → RVs W ρ H (ds.take n) (vs.take n)
  | 0, _, _, _ => rfl
  | n + 1, [], _, h => by cases h; rfl
  | n + 1, d :: ds, _, h => by
    obtain ⟨v, r, rfl, h1, h2⟩ := h
    exact ⟨v, r.take n, rfl, h1, RVs.take n h2⟩
theorem RVs.drop {W : Wd} {ρ : List Addr} {H : Hp} : ∀ (n : Nat) {ds : List D} {vs : List V}, RVs W ρ H ds vs → RVs W ρ H (ds.drop n) (vs.drop n)
  | 0, _, _, h => h
  | n + 1, [], _, h => by cases h; rfl
  | n + 1, d :: ds, _, h => by
    obtain ⟨v, r, rfl, h1, h2⟩ := h
    exact RVs.drop n h2
theorem RVs.set {W : Wd} {ρ : List Addr} {H : Hp} {d : D} {v : V} (hd : RV W ρ H d v) : ∀ (i : Nat) {ds : List D} {vs : List V}, RVs W ρ H ds vs → RVs W ρ H (ds.set i d) (vs.set i v)
  | _, [], _, h => by cases h; rfl
  | 0, _ :: ds, _, h => by
    obtain ⟨u, r, rfl, h1, h2⟩ := h
    exact ⟨v, r, rfl, hd, h2⟩
  | i + 1, _ :: ds, _, h => by
    obtain ⟨u, r, rfl, h1, h2⟩ := h
    exact ⟨u, r.set i v, rfl, h1, RVs.set hd i h2⟩
theorem RVs.reverse {W : Wd} {ρ : List Addr} {H : Hp} : ∀ {ds : List D} {vs : List V}, RVs W ρ H ds vs → RVs W ρ H ds.reverse vs.reverse
  | [], _, h => by cases h; rfl
  | d :: ds, _, h => by
    obtain ⟨u, r, rfl, h1, h2⟩ := h
    simp only [List.reverse_cons]
    exact (RVs.reverse h2).append ⟨u, [], rfl, h1, rfl⟩
theorem RVs.ints {W : Wd} {ρ : List Addr} {H : Hp} : ∀ {ns : List Int} {vs : List V}, RVs W ρ H (ns.map D.int) vs → vs = ns.map V.int
  | [], _, h => h
  | n :: ns, _, h => by
    obtain ⟨u, r, rfl, h1, h2⟩ := h
    rw [RVs.ints h2]
    have e : u = V.int n := h1
    rw [e] <;> rfl
theorem RVs.of_ints {W : Wd} {ρ : List Addr} {H : Hp} : ∀ (ns : List Int), RVs W ρ H (ns.map D.int) (ns.map V.int)
  | [] => rfl
  | n :: ns => ⟨_, _, rfl, rfl, RVs.of_ints ns⟩

/-- a dict's pairs -/
def RK (W : Wd) (ρ : List Addr) (H : Hp) : List (Key × D) → List (Key × V) → Prop
  | [], vs => vs = []
  | (k, d) :: ds, vs => ∃ v r, vs = (k, v) :: r ∧ RV W ρ H d v ∧ RK W ρ H ds r
theorem RK.ext0 {W : Wd} {ρ ρ' : List Addr} {H H' : Hp} (p : ∀ (l : Nat) (a : Addr), ρ[l]? = some a → ρ'[l]? = some a) (x : Kp H H') : ∀ {ds : List (Key × D)} {vs : List (Key × V)}, RK W ρ H ds vs → RK W ρ' H' ds vs
  | [], _, h => h
  | (k, d) :: ds, vs, h => by
    obtain ⟨v, r, e, h1, h2⟩ := h
    exact ⟨v, r, e, RV.ext0 p x d v h1, RK.ext0 p x h2⟩
theorem RK.ext {W : Wd} {ρ ρ' : List Addr} {H H' : Hp} (x : Ext ρ H ρ' H') {ds : List (Key × D)} {vs : List (Key × V)} (h : RK W ρ H ds vs) : RK W ρ' H' ds vs := RK.ext0 (fun _ _ e => x.at e) x.kp h
theorem RK.flat {W W' : Wd} {ρ ρ' : List Addr} {H : Hp} (hK : W'.K = W.K) (hm : W'.mg = W.mg) : ∀ {ds : List (Key × D)} {vs : List (Key × V)}, D.flats (ds.map (·.2)) = true → RK W ρ H ds vs → RK W' ρ' H ds vs
  | [], _, _, h => h
  | (k, d) :: ds, vs, f, h => by
    obtain ⟨v, r, e, h1, h2⟩ := h
    obtain ⟨f1, f2⟩ := Bool.and_eq_true_iff.mp (show (D.flat d && D.flats (ds.map (·.2))) = true from f)
    exact ⟨v, r, e, RV.flat hK hm d v f1 h1, RK.flat hK hm f2 h2⟩
theorem RK.nox {W W' : Wd} {ρ : List Addr} {H : Hp} (hK : W'.K = W.K) (hm : W'.mg = W.mg) : ∀ {ds : List (Key × D)} {vs : List (Key × V)}, D.noxs (ds.map (·.2)) = true → RK W ρ H ds vs → RK W' ρ H ds vs
  | [], _, _, h => h
  | (k, d) :: ds, vs, f, h => by
    obtain ⟨v, r, e, h1, h2⟩ := h
    obtain ⟨f1, f2⟩ := Bool.and_eq_true_iff.mp (show (D.nox d && D.noxs (ds.map (·.2))) = true from f)
    exact ⟨v, r, e, RV.nox hK hm d v f1 h1, RK.nox hK hm f2 h2⟩
/-- what stands at a place -/
def RO (W : Wd) (ρ : List Addr) (H : Hp) (a : Addr) : O → Prop
  | .lst ds => ∃ vs, H a = some (.lst vs) ∧ RVs W ρ H ds vs
  | .dk kvs => ∃ vs, H a = some (.dK vs) ∧ RK W ρ H kvs vs
theorem RO.ext0 {W : Wd} {ρ ρ' : List Addr} {H H' : Hp} (p : ∀ (l : Nat) (a : Addr), ρ[l]? = some a → ρ'[l]? = some a) (x : Kp H H') {a : Addr} {o : O} (e : H' a = H a) (h : RO W ρ H a o) : RO W ρ' H' a o := by
  cases o with
  | lst ds =>
    obtain ⟨vs, h1, h2⟩ := h
    exact ⟨vs, by rw [e]; exact h1, RVs.ext0 p x _ _ h2⟩
  | dk ds =>
    obtain ⟨vs, h1, h2⟩ := h
    exact ⟨vs, by rw [e]; exact h1, RK.ext0 p x h2⟩
theorem RO.flat {W W' : Wd} {ρ ρ' : List Addr} {H : Hp} (hK : W'.K = W.K) (hm : W'.mg = W.mg) {a : Addr} {o : O} (f : o.flat = true) (h : RO W ρ H a o) : RO W' ρ' H a o := by
  cases o with
  | lst ds =>
    obtain ⟨vs, h1, h2⟩ := h
    exact ⟨vs, h1, RVs.flat hK hm _ _ f h2⟩
  | dk ds =>
    obtain ⟨vs, h1, h2⟩ := h
    exact ⟨vs, h1, RK.flat hK hm f h2⟩
theorem RO.there {W : Wd} {ρ : List Addr} {H : Hp} {a : Addr} {o : O} (h : RO W ρ H a o) : ∃ u, H a = some u ∧ ¬ Imm u := by
  cases o with
  | lst ds =>
    obtain ⟨vs, h1, _⟩ := h
    exact ⟨_, h1, fun z => z⟩
  | dk ds =>
    obtain ⟨vs, h1, _⟩ := h
    exact ⟨_, h1, fun z => z⟩
/-- the places hold the heap -/
structure RH (W : Wd) (ρ : List Addr) (H : Hp) (hd : Hd) : Prop where
  len : ρ.length = hd.length
  nd : ρ.Nodup
  ob : ∀ (l : Nat) (a : Addr) (o : O), ρ[l]? = some a → hd[l]? = some o → RO W ρ H a o
theorem RH.out {W : Wd} {ρ : List Addr} {H : Hp} {hd : Hd} (h : RH W ρ H hd) {a : Addr} (n : H a = none) : a ∉ ρ := fun m => by
  obtain ⟨l, hl, e⟩ := List.mem_iff_getElem.mp m
  have e1 : ρ[l]? = some a := by rw [List.getElem?_eq_getElem hl, e]
  have hl2 : l < hd.length := h.len ▸ hl
  have := h.ob l a hd[l] e1 (by rw [List.getElem?_eq_getElem hl2])
  cases q : hd[l] with
  | lst ds =>
    rw [q] at this
    obtain ⟨vs, hv, _⟩ := this
    rw [n] at hv; cases hv
  | dk kvs =>
    rw [q] at this
    obtain ⟨vs, hv, _⟩ := this
    rw [n] at hv; cases hv
theorem RH.nil {W : Wd} {H : Hp} : RH W [] H [] := ⟨rfl, List.nodup_nil, fun _ _ _ e => by simp at e⟩
/-- the slots -/
def RS (W : Wd) (ρ : List Addr) (H : Hp) (σd : En) (σ : St) : Prop := σd.length = σ.length ∧ ∀ (i : Nat) (d : D), σd[i]? = some (some d) → ∃ v, σ[i]? = some (some v) ∧ RV W ρ H d v
theorem RS.ext {W : Wd} {ρ ρ' : List Addr} {H H' : Hp} (x : Ext ρ H ρ' H') {σd : En} {σ : St} (h : RS W ρ H σd σ) : RS W ρ' H' σd σ :=
  ⟨h.1, fun i d e => let ⟨v, e1, r⟩ := h.2 i d e; ⟨v, e1, r.ext x⟩⟩
theorem RS.set {W : Wd} {ρ : List Addr} {H : Hp} {σd : En} {σ : St} (h : RS W ρ H σd σ) {d : D} {v : V} (r : RV W ρ H d v) (i : Nat) : RS W ρ H (σd.set i (some d)) (σ.set i (some v)) := by
  refine ⟨by simp [h.1], fun j e hj => ?_⟩
  by_cases hi : i = j
  · subst hi
    by_cases hl : i < σd.length
    · rw [List.getElem?_set_self hl] at hj
      cases hj
      exact ⟨v, by rw [List.getElem?_set_self (h.1 ▸ hl)], r⟩
    · rw [List.getElem?_eq_none (by simpa using hl)] at hj; cases hj
  · rw [List.getElem?_set_ne hi] at hj ⊢
    exact h.2 j e hj
/-- an exception -/
def RX (W : Wd) (ρ : List Addr) (H : Hp) (e : Xn) (cls : Value) (dd : Option Addr) : Prop :=
  ∃ C, W.mg e.cls = some (.ref C) ∧ cls = .ref C ∧ match e.fld with
    | none => dd = none
    | some (g, d) => ∃ a v, dd = some a ∧ H a = some (.xd [(g, v)]) ∧ RV W ρ H d v
/-- the end of an evaluation -/
def Post (W : Wd) (ρ : List Addr) (H : Hp) (r : R D) (Q : VK) (E : XK) : Prop := match r with
  | .ok d hd => ∀ ρ' H' v, Ext ρ H ρ' H' → RH W ρ' H' hd → RV W ρ' H' d v → Q v H'
  | .ex e hd => ∀ ρ' H' cls dd, Ext ρ H ρ' H' → RH W ρ' H' hd → RX W ρ' H' e cls dd → E cls dd H'
  | .bad => False
theorem Post.ext {W : Wd} {ρ ρ' : List Addr} {H H' : Hp} {r : R D} {Q : VK} {E : XK} (x : Ext ρ H ρ' H') (h : Post W ρ H r Q E) : Post W ρ' H' r Q E := by
  cases r with
  | ok d hd => exact fun ρ2 H2 v y => h ρ2 H2 v (x.trans y)
  | ex e hd => exact fun ρ2 H2 c dd y => h ρ2 H2 c dd (x.trans y)
  | bad => exact h
/-- the heap's places with a new one -/
theorem RH.push {W : Wd} {ρ : List Addr} {H : Hp} {hd : Hd} (h : RH W ρ H hd) {a : Addr} {o : O} {u : HO} (n : H a = none) (ro : RO W (ρ ++ [a]) (upd H a u) a o) : RH W (ρ ++ [a]) (upd H a u) (hd ++ [o]) := by
  have na := h.out n
  have x : Ext ρ H (ρ ++ [a]) (upd H a u) := Ext.place n
  refine ⟨by simp [h.len], ?_, fun l b p e1 e2 => ?_⟩
  · rw [List.nodup_append]
    exact ⟨h.nd, by simp, fun y hy z hz e => by rw [List.mem_singleton.mp hz] at e; exact na (e ▸ hy)⟩
  · by_cases hl : l < ρ.length
    · rw [List.getElem?_append_left hl] at e1
      rw [List.getElem?_append_left (h.len ▸ hl)] at e2
      have := h.ob l b p e1 e2
      have nb : b ≠ a := fun e => na (e ▸ List.mem_of_getElem? e1)
      cases p with
      | lst ds =>
        obtain ⟨vs, hv, r⟩ := this
        exact ⟨vs, by rw [upd_ne nb]; exact hv, RVs.ext x _ _ r⟩
      | dk kvs =>
        obtain ⟨vs, hv, r⟩ := this
        exact ⟨vs, by rw [upd_ne nb]; exact hv, RK.ext x r⟩
    · have hl' : l = ρ.length := by
        have := (List.getElem?_eq_some_iff.mp e1).1
        simp at this; omega
      subst hl'
      rw [List.getElem?_append_right (Nat.le_refl _)] at e1
      rw [List.getElem?_append_right (by rw [h.len]; exact Nat.le_refl _)] at e2
      simp at e1
      rw [h.len] at e2
      simp at e2
      subst e1 e2
      exact ro
/-- a place written -/
theorem RH.write {W : Wd} {ρ : List Addr} {H : Hp} {hd : Hd} (h : RH W ρ H hd) {l : Nat} {a : Addr} {o : O} {u v : HO} (e : ρ[l]? = some a) (hu : H a = some u) (im : ¬ Imm u) (ro : RO W ρ (upd H a v) a o) : RH W ρ (upd H a v) (hd.set l o) := by
  have m : a ∈ ρ := List.mem_of_getElem? e
  have x : Ext ρ H ρ (upd H a v) := Ext.write hu m im
  refine ⟨by simp [h.len], h.nd, fun j b p e1 e2 => ?_⟩
  by_cases hj : l = j
  · subst hj
    rw [e] at e1; cases e1
    rw [List.getElem?_set_self (h.len ▸ (List.getElem?_eq_some_iff.mp e).1)] at e2
    cases e2
    exact ro
  · rw [List.getElem?_set_ne hj] at e2
    have nb : b ≠ a := fun z => by
      obtain ⟨h1, z1⟩ := List.getElem?_eq_some_iff.mp e
      obtain ⟨h2, z2⟩ := List.getElem?_eq_some_iff.mp e1
      exact hj ((List.getElem_inj h.nd).mp (z1.trans (z2.trans z).symm))
    have := h.ob j b p e1 e2
    cases p with
    | lst ds =>
      obtain ⟨vs, hv, r⟩ := this
      exact ⟨vs, by rw [upd_ne nb]; exact hv, RVs.ext x _ _ r⟩
    | dk kvs =>
      obtain ⟨vs, hv, r⟩ := this
      exact ⟨vs, by rw [upd_ne nb]; exact hv, RK.ext x r⟩
/-- something new that is no place -/
theorem RH.beside {W : Wd} {ρ : List Addr} {H : Hp} {hd : Hd} (h : RH W ρ H hd) {a : Addr} {u : HO} (n : H a = none) : RH W ρ (upd H a u) hd := by
  have na := h.out n
  have x : Ext ρ H ρ (upd H a u) := Ext.new n
  refine ⟨h.len, h.nd, fun j b p e1 e2 => ?_⟩
  have nb : b ≠ a := fun e => na (e ▸ List.mem_of_getElem? e1)
  have := h.ob j b p e1 e2
  cases p with
  | lst ds =>
    obtain ⟨vs, hv, r⟩ := this
    exact ⟨vs, by rw [upd_ne nb]; exact hv, RVs.ext x _ _ r⟩
  | dk kvs =>
    obtain ⟨vs, hv, r⟩ := this
    exact ⟨vs, by rw [upd_ne nb]; exact hv, RK.ext x r⟩
end Ev

/-! Ev, part 2: the small language and what it means over pure data. -/
namespace Ev
open PySem PySem.Spec PyProof.Rows L2

/-! ### the language -/
inductive Tg where
  | n (i : Nat) | t (r : Tg) | nil | cons (a r : Tg)
  deriving DecidableEq
inductive Bi where
  | len | abs | max2 | min2 | max1 | min1 | sum | all | any | tuple | list | int | sorted
  deriving DecidableEq
inductive Ty where
  | int | bool | str | tuple | list
  deriving DecidableEq
inductive Mt where
  | append | extend | pop | get
  deriving DecidableEq
inductive Ex where
  | var (i : Nat) | int (i : Int) | bl (b : Bool) | non | str (s : Str) | glo (x : Str)
  | bin (op : Operator) (a b : Ex) | neg (a : Ex) | cmp (op : CmpOp) (a b : Ex) | chn (o o' : CmpOp) (a b c : Ex)
  | and_ (a b : Ex) | or_ (a b : Ex) | not_ (a : Ex) | ifx (t a b : Ex)
  | nil | cons (a r : Ex) | tup (es : Ex) | lst (es : Ex) | lfr (es : Ex)
  | call (x : Str) (n : Nat) (es : Ex) | clv (i n : Nat) (es : Ex) | bi (b : Bi) (es : Ex) | isi (T : Ty) (a : Ex)
  | ix (a i : Ex) | sl (a lo hi : Ex) | rev (a : Ex)
  | itS (a : Ex) | itR (es : Ex) | itE (a : Ex) | itZ (a b : Ex)
  | lc (vs : List Nat) (tg : Tg) (it cond elt : Ex)
  | lc2 (vs vs1 : List Nat) (tg : Tg) (it cond : Ex) (tg1 : Tg) (it1 cond1 elt : Ex)
  | mth (m : Mt) (o es : Ex) | att (a : Ex) (f : Str) | dnew | pt (a : Ex)
inductive Sm where
  | nil | seq (s r : Sm) | asg (tg : Tg) (e : Ex) | six (o i e : Ex) | ife (c : Ex) (a b : Sm) | whl (c : Ex) (b : Sm)
  | for_ (tg : Tg) (it : Ex) (b : Sm) | brk | cnt | ret (e : Ex) | retN | pas | exp (e : Ex) | rai (x : Str) (es : Ex)
  | try_ (b hs : Sm) | hnil | hcons (x : Str) (n : Option Nat) (su rest : Sm)

/-! ### the ends of evaluations -/
@[inline] def R.bind {α β : Type} (r : R α) (f : α → M β) : R β := match r with
  | .ok a h => f a h
  | .ex e h => .ex e h
  | .bad => .bad
@[simp] theorem R.bind_ok {α β : Type} {a : α} {h : Hd} {f : α → M β} : (R.ok a h).bind f = f a h := rfl
@[simp] theorem R.bind_ex {α β : Type} {e : Xn} {h : Hd} {f : α → M β} : (R.ex e h : R α).bind f = .ex e h := rfl
@[simp] theorem R.bind_bad {α β : Type} {f : α → M β} : (R.bad : R α).bind f = .bad := rfl
/-- the end of a statement -/
inductive RS' where
  | nx (σ : En) (h : Hd) | rt (d : D) (h : Hd) | bk (σ : En) (h : Hd) | ct (σ : En) (h : Hd) | ex (e : Xn) (σ : En) (h : Hd) | bad
/-- an expression's end, within a statement at the slots σ -/
@[inline] def R.thn {α : Type} (r : R α) (σ : En) (f : α → Hd → RS') : RS' := match r with
  | .ok a h => f a h
  | .ex e h => .ex e σ h
  | .bad => .bad
@[simp] theorem R.thn_ok {α : Type} {a : α} {h : Hd} {σ : En} {f : α → Hd → RS'} : (R.ok a h).thn σ f = f a h := rfl
@[simp] theorem R.thn_ex {α : Type} {e : Xn} {h : Hd} {σ : En} {f : α → Hd → RS'} : (R.ex e h : R α).thn σ f = .ex e σ h := rfl
@[simp] theorem R.thn_bad {α : Type} {σ : En} {f : α → Hd → RS'} : (R.bad : R α).thn σ f = .bad := rfl

/-! ### operations -/
mutual
/-- data without places, as the library's data -/
def D.toP : D → Option PyData
  | .non => some .none
  | .bl b => some (.bool b)
  | .int i => some (.int i)
  | .str s => some (.str s)
  | .tup ds => match D.toPs ds with
    | some ps => some (.tuple ps)
    | none => none
  | .fro ds => match D.toPs ds with
    | some ps => some (.list ps)
    | none => none
  | .loc _ => none | .fn _ => none | .exn _ _ _ => none
def D.toPs : List D → Option (List PyData)
  | [] => some []
  | d :: ds => match D.toP d, D.toPs ds with
    | some p, some ps => some (p :: ps)
    | _, _ => none
end
/-- .. a list at a place too -/
def toPH (d : D) (h : Hd) : Option PyData := match d with
  | .loc l => match h[l]? with
    | some (.lst ds) => (D.toPs ds).map PyData.list
    | _ => none
  | d => D.toP d
def eqD (a b : D) (h : Hd) : Option Bool := match toPH a h, toPH b h with
  | some p, some q => if (SeqAt.shaped p && SeqAt.shaped q) = true then some (PyData.eqv p q) else none
  | _, _ => none
/-- the items of a tuple, a list -/
def items (d : D) (h : Hd) : Option (List D) := match d with
  | .tup ds => some ds
  | .fro ds => some ds
  | .loc l => match h[l]? with
    | some (.lst ds) => some ds
    | _ => none
  | _ => none
def mulB (i j : Int) : Bool := decide (i.natAbs < 2 ^ 64) || (decide (j.natAbs < 2 ^ 64) || decide (i.natAbs.log2 + j.natAbs.log2 < 1000000))
def divB (j : Int) : Bool := decide (0 < j) && decide (j.natAbs < 2 ^ 9000)
def szB (n : Nat) : Bool := decide (n ≤ sizeLine)
def binD (op : Operator) (a b : D) : M D := fun h => match op, a, b with
  | .Add, .int i, .int j => .ok (.int (i + j)) h
  | .Sub, .int i, .int j => .ok (.int (i - j)) h
  | .Mult, .int i, .int j => if mulB i j = true then .ok (.int (i * j)) h else .bad
  | .FloorDiv, .int i, .int j => if divB j = true then .ok (.int (i / j)) h else .bad
  | .Mod, .int i, .int j => if 0 < j then .ok (.int (i % j)) h else .bad
  | .LShift, .int i, .int j => if 0 ≤ j ∧ j ≤ 1000000 ∧ i.natAbs < 2 ^ 64 then .ok (.int (i * 2 ^ j.toNat)) h else .bad
  | .Add, .str x, .str y => if szB (x.length + y.length) = true then .ok (.str (x ++ y)) h else .bad
  | .Add, .tup x, .tup y => if szB (x.length + y.length) = true then .ok (.tup (x ++ y)) h else .bad
  | .Add, .loc k, .loc l => (match h[k]?, h[l]? with
    | some (.lst x), some (.lst y) => if szB (x.length + y.length) = true then .ok (.loc h.length) (h ++ [.lst (x ++ y)]) else .bad
    | _, _ => .bad)
  | .Mult, .loc k, .int j => (match h[k]? with
    | some (.lst x) => if (decide (-(2 ^ 63) ≤ j) && (decide (j < 2 ^ 63) && szB (x.length * j.toNat))) = true then .ok (.loc h.length) (h ++ [.lst (List.replicate j.toNat x).flatten]) else .bad
    | _ => .bad)
  | .Mult, .tup x, .int j => if x ≠ [] ∧ 2 ≤ j ∧ j ≤ 1000 ∧ x.length ≤ 1000 then .ok (.tup (List.replicate j.toNat x).flatten) h else .bad
  | _, _, _ => .bad
def isNon : D → Bool
  | .non => true
  | _ => false
/-- an item's place, of any sign -/
def keyD : D → Option Key
  | .int i => some (.inl i)
  | .str s => some (.inr s)
  | _ => none
def lookK (k : Key) : List (Key × D) → Option D
  | [] => none
  | (j, d) :: r => if j = k then some d else lookK k r
def putK (k : Key) (d : D) : List (Key × D) → List (Key × D)
  | [] => [(k, d)]
  | (j, e) :: r => if j = k then (j, d) :: r else (j, e) :: putK k d r
/-- numbers, truth values, texts, None -/
def D.scalar : D → Bool
  | .non => true | .bl _ => true | .int _ => true | .str _ => true | _ => false
def D.toV : D → V
  | .non => .non | .bl b => .bl b | .int i => .int i | .str s => .str s | _ => .non
def inD (a : D) (ds : List D) : Bool := L2.inV a.toV (ds.map D.toV)
def cmpD (op : CmpOp) (a b : D) : M D := fun h => match op with
  | .Eq => (match eqD a b h with
    | some r => .ok (.bl r) h
    | none => .bad)
  | .NotEq => (match eqD a b h with
    | some r => .ok (.bl (!r)) h
    | none => .bad)
  | .Lt => (match a, b with
    | .int i, .int j => .ok (.bl (decide (i < j))) h
    | _, _ => .bad)
  | .LtE => (match a, b with
    | .int i, .int j => .ok (.bl (decide (i ≤ j))) h
    | _, _ => .bad)
  | .Gt => (match a, b with
    | .int i, .int j => .ok (.bl (decide (j < i))) h
    | _, _ => .bad)
  | .GtE => (match a, b with
    | .int i, .int j => .ok (.bl (decide (j ≤ i))) h
    | _, _ => .bad)
  | .Is => (match b with
    | .non => .ok (.bl (isNon a)) h
    | _ => .bad)
  | .IsNot => (match b with
    | .non => .ok (.bl (!isNon a)) h
    | _ => .bad)
  | .In => (match items b h with
    | some ds => if (a.scalar && ds.all D.scalar) = true then .ok (.bl (inD a ds)) h else .bad
    | none => .bad)
  | .NotIn => (match items b h with
    | some ds => if (a.scalar && ds.all D.scalar) = true then .ok (.bl (!inD a ds)) h else .bad
    | none => .bad)
/-- truth -/
def truD (a : D) (h : Hd) : Option Bool := match a with
  | .non => some false
  | .bl b => some b
  | .int i => some (i != 0)
  | .tup ds => some (!ds.isEmpty)
  | .fro ds => some (!ds.isEmpty)
  | .loc l => match h[l]? with
    | some (.lst ds) => some (!ds.isEmpty)
    | some (.dk kvs) => some (!kvs.isEmpty)
    | none => none
  | _ => none
def tstD (r : R D) : R Bool := match r with
  | .ok d h => (match truD d h with
    | some b => .ok b h
    | none => .bad)
  | .ex e h => .ex e h
  | .bad => .bad
def notD (a : D) : M D := fun h => match truD a h with
  | some b => .ok (.bl (!b)) h
  | none => .bad
def atD (ds : List D) (i : Int) : Option D := L2.atI ds i
def ixD (a i : D) : M D := fun h => match i with
  | .int i => (match items a h with
    | some ds => (match atD ds i with
      | some d => .ok d h
      | none => .bad)
    | none => .bad)
  | _ => .bad
def cutD (ds : List D) (lo hi : Option Int) : List D := (ds.drop (HT.sIx ds.length 0 lo)).take (HT.sIx ds.length ds.length hi - HT.sIx ds.length 0 lo)
def partD : D → Option (Option Int)
  | .non => some none
  | .int i => some (some i)
  | _ => none
def slD (a : D) (lo hi : Option Int) : M D := fun h => match a with
  | .tup ds => .ok (.tup (cutD ds lo hi)) h
  | .fro ds => .ok (.loc h.length) (h ++ [.lst (cutD ds lo hi)])
  | .loc l => (match h[l]? with
    | some (.lst ds) => .ok (.loc h.length) (h ++ [.lst (cutD ds lo hi)])
    | _ => .bad)
  | _ => .bad
def intsD : List D → Option (List Int)
  | [] => some []
  | .int i :: r => (intsD r).map (i :: ·)
  | _ => none
def blsD : List D → Option (List Bool)
  | [] => some []
  | .bl i :: r => (blsD r).map (i :: ·)
  | _ => none
def maxL : List Int → Int
  | [] => 0
  | [a] => a
  | a :: r => max a (maxL r)
def minL : List Int → Int
  | [] => 0
  | [a] => a
  | a :: r => min a (minL r)
def insI (x : Int) : List Int → List Int
  | [] => [x]
  | y :: r => if x ≤ y then x :: y :: r else y :: insI x r
def sortI : List Int → List Int
  | [] => []
  | x :: r => insI x (sortI r)
def biD (b : Bi) (as : List D) : M D := fun h => match b, as with
  | .len, [a] => (match items a h with
    | some ds => .ok (.int ds.length) h
    | none => (match a with
      | .str s => if szB s.length = true then .ok (.int s.length) h else .bad
      | _ => .bad))
  | .abs, [.int i] => .ok (.int (if i < 0 then -i else i)) h
  | .max2, [.int i, .int j] => .ok (.int (if i < j then j else i)) h
  | .min2, [.int i, .int j] => .ok (.int (if j < i then j else i)) h
  | .max1, [.loc l] => (match h[l]? with
    | some (.lst ds) => (match intsD ds with
      | some (n :: ns) => .ok (.int (maxL (n :: ns))) h
      | _ => .bad)
    | _ => .bad)
  | .min1, [.loc l] => (match h[l]? with
    | some (.lst ds) => (match intsD ds with
      | some (n :: ns) => .ok (.int (minL (n :: ns))) h
      | _ => .bad)
    | _ => .bad)
  | .sum, [.loc l] => (match h[l]? with
    | some (.lst ds) => (match intsD ds with
      | some ns => .ok (.int ns.sum) h
      | _ => .bad)
    | _ => .bad)
  | .all, [.loc l] => (match h[l]? with
    | some (.lst ds) => (match blsD ds with
      | some bs => .ok (.bl (bs.all id)) h
      | _ => .bad)
    | _ => .bad)
  | .any, [.loc l] => (match h[l]? with
    | some (.lst ds) => (match blsD ds with
      | some bs => .ok (.bl (bs.any id)) h
      | _ => .bad)
    | _ => .bad)
  | .tuple, [a] => (match items a h with
    | some ds => .ok (.tup ds) h
    | none => .bad)
  | .list, [a] => (match items a h with
    | some ds => .ok (.loc h.length) (h ++ [.lst ds])
    | none => .bad)
  | .int, [.int i] => .ok (.int i) h
  | .int, [.bl b] => .ok (.int (if b = true then 1 else 0)) h
  | .sorted, [.loc l] => (match h[l]? with
    | some (.lst ds) => (match intsD ds with
      | some ns => .ok (.loc h.length) (h ++ [.lst ((sortI ns).map D.int)])
      | _ => .bad)
    | _ => .bad)
  | _, _ => .bad
def isiD (T : Ty) (a : D) (h : Hd) : Option Bool := match a with
  | .non => some false
  | .bl _ => some (decide (T = .bool) || decide (T = .int))
  | .int _ => some (decide (T = .int))
  | .str _ => some (decide (T = .str))
  | .tup _ => some (decide (T = .tuple))
  | .fro _ => some (decide (T = .list))
  | .loc l => match h[l]? with
    | some (.lst _) => some (decide (T = .list))
    | some (.dk _) => some false
    | none => none
  | _ => none
def mthD (m : Mt) (o : D) (as : List D) : M D := fun h => match m, o, as with
  | .append, .loc l, [d] => (match h[l]? with
    | some (.lst ds) => if decide (ds.length < sizeLine) = true then .ok .non (h.set l (.lst (ds ++ [d]))) else .bad
    | _ => .bad)
  | .extend, .loc l, [.loc k] => (match h[l]?, h[k]? with
    | some (.lst ds), some (.lst es) => if szB (ds.length + es.length) = true then .ok .non (h.set l (.lst (ds ++ es))) else .bad
    | _, _ => .bad)
  | .pop, .loc l, [] => (match h[l]? with
    | some (.lst ds) => (match ds[ds.length - 1]? with
      | some d => .ok d (h.set l (.lst ds.dropLast))
      | none => .bad)
    | _ => .bad)
  | .get, .loc l, [k, d] => (match h[l]?, keyD k with
    | some (.dk kvs), some k => .ok ((lookK k kvs).getD d) h
    | _, _ => .bad)
  | _, _, _ => .bad
/-- the object has the method's type -/
def mtyD (m : Mt) (x : D) (h : Hd) : Bool := match x with
  | .loc l => (match h[l]? with
    | some (.lst _) => decide (m ≠ .get)
    | some (.dk _) => decide (m = .get)
    | none => false)
  | _ => false
def attD (a : D) (f : Str) : M D := fun h => match a with
  | .exn _ g d => if g = f then .ok d h else .bad
  | _ => .bad
/-- o[i] = e -/
def sixD (o i e : D) (h : Hd) : Option Hd := match o with
  | .loc l => (match h[l]?, i with
    | some (.lst ds), .int i => (match L2.ixN ds.length i with
      | some j => some (h.set l (.lst (ds.set j e)))
      | none => none)
    | _, _ => none)
  | _ => none
mutual
def bindT : Tg → D → Hd → En → Option En
  | .n i, d, _, σ => some (σ.set i (some d))
  | .t r, d, h, σ => match items d h with
    | some ds => bindTs r ds h σ
    | none => none
  | .nil, _, _, _ => none
  | .cons _ _, _, _, _ => none
def bindTs : Tg → List D → Hd → En → Option En
  | .nil, [], _, σ => some σ
  | .cons a r, d :: ds, h, σ => match bindT a d h σ with
    | some σ' => bindTs r ds h σ'
    | none => none
  | _, _, _, _ => none
end
/-- the slots that a target stores -/
def Tg.ix : Tg → List Nat
  | .n i => [i]
  | .t r => r.ix
  | .nil => []
  | .cons a r => a.ix ++ r.ix
def wipeD (σ : En) : List Nat → En
  | [] => σ
  | v :: vs => (wipeD σ vs).set v none
def enumD : Nat → List D → List D
  | _, [] => []
  | i, d :: r => .tup [.int i, d] :: enumD (i + 1) r
def rngD (lo : Int) (n : Nat) : List D := (List.range n).map fun (i : Nat) => D.int (lo + (i : Int))
def small62 (i : Int) : Bool := decide (-(2 ^ 62) ≤ i) && decide (i < 2 ^ 62)
/-- what a loop walks: its items, and the place that must stay -/
def seqI (a : D) (h : Hd) : R D := match a with
  | .tup ds => .ok (.tup [.tup ds, .non]) h
  | .fro ds => .ok (.tup [.tup ds, .non]) h
  | .loc l => (match h[l]? with
    | some (.lst ds) => .ok (.tup [.tup ds, .loc l]) h
    | _ => .bad)
  | _ => .bad
def rngI (as : List D) (h : Hd) : R D := match as with
  | [.int n] => if small62 n = true then .ok (.tup [.tup (rngD 0 n.toNat), .non]) h else .bad
  | [.int a, .int b] => if (small62 a && small62 b) = true then .ok (.tup [.tup (rngD a (b - a).toNat), .non]) h else .bad
  | _ => .bad
/-- the place still holds its list -/
def stays (g : D) (ds : List D) (h : Hd) : Prop := match g with
  | .loc l => h[l]? = some (.lst ds)
  | _ => True

/-! ### calls -/
/-- the places, each once, in order -/
def uniq : List Nat → List Nat
  | [] => []
  | l :: r => if l ∈ r then uniq r else l :: uniq r
def posOf (l : Nat) : List Nat → Nat
  | [] => 0
  | k :: r => if k = l then 0 else posOf l r + 1
def getAll (h : Hd) : List Nat → Option Hd
  | [] => some []
  | l :: r => match h[l]?, getAll h r with
    | some o, some os => some (o :: os)
    | _, _ => none
def putAll (h : Hd) : List Nat → Hd → Hd
  | [], _ => h
  | _ :: _, [] => h
  | l :: r, o :: os => putAll (h.set l o) r os
/-- the callee's places, back in the caller's heap -/
def backL (ls : List Nat) (n : Nat) (j : Nat) : Nat := match ls[j]? with
  | some l => l
  | none => n + (j - ls.length)
def backH (h : Hd) (ls : List Nat) (os : Hd) : Hd := putAll h ls os ++ os.drop ls.length
def Xn.flat (e : Xn) : Bool := match e.fld with
  | none => true
  | some (_, d) => d.flat
/-- f is what a def does with its arguments, at its own places 0, 1, ..: the lists that the arguments name -/
def callD (f : List D → Hd → R D) (as : List D) : M D := fun h =>
  let ls := uniq (D.lss as)
  if D.noxs as = true then match getAll h ls with
    | some os => if os.all O.flat = true then match f (D.mls (fun l => posOf l ls) as) os with
      | .ok d os' => if (os'.all O.flat && (decide (ls.length ≤ os'.length) && d.nox)) = true then .ok (d.ml (backL ls h.length)) (backH h ls os') else .bad
      | .ex e os' => if (os'.all O.flat && (decide (os'.length = ls.length) && e.flat)) = true then .ex e (backH h ls os') else .bad
      | .bad => .bad
      else .bad
    | none => .bad
  else .bad

/-! ### the meaning -/
/-- what a program's names mean -/
structure Rt where
  glob : Str → Option D
  orc : Str → List D → Hd → R D
  dfl : Str → Nat → List D
  /-- it may be called with so many arguments -/
  ar : Str → Nat → Bool
  /-- the exception classes: none: made with a text; some g: made with a value that its field g holds -/
  exf : Str → Option (Option Str)
  isa : Str → Str → Option Bool
open Classical in
/-- a comprehension's loop -/
noncomputable def lcLoop (tg : Tg) (vs : List Nat) (cond : En → Hd → R Bool) (elt : En → Hd → R D) (g : D) (all : List D) : List D → En → List D → Hd → R (List D)
  | [], _, acc, h => if stays g all h then .ok acc h else .bad
  | d :: r, σ, acc, h => if stays g all h then match bindT tg d h (wipeD σ vs) with
    | some σ' => (match cond σ' h with
      | .ok true h1 => (match elt σ' h1 with
        | .ok x h2 => if decide (acc.length < sizeLine) = true then lcLoop tg vs cond elt g all r σ (acc ++ [x]) h2 else .bad
        | _ => .bad)
      | .ok false h1 => lcLoop tg vs cond elt g all r σ acc h1
      | _ => .bad)
    | none => .bad
    else .bad
open Classical in
noncomputable def lcLoop2 (tg : Tg) (vs : List Nat) (cond : En → Hd → R Bool) (inner : En → List D → Hd → R (List D)) (g : D) (all : List D) : List D → En → List D → Hd → R (List D)
  | [], _, acc, h => if stays g all h then .ok acc h else .bad
  | d :: r, σ, acc, h => if stays g all h then match bindT tg d h (wipeD σ vs) with
    | some σ' => (match cond σ' h with
      | .ok true h1 => (match inner σ' acc h1 with
        | .ok acc' h2 => lcLoop2 tg vs cond inner g all r σ acc' h2
        | _ => .bad)
      | .ok false h1 => lcLoop2 tg vs cond inner g all r σ acc h1
      | _ => .bad)
    | none => .bad
    else .bad
noncomputable def lcIn (tg1 : Tg) (vs1 : List Nat) (it1 : En → Hd → R D) (cond1 : En → Hd → R Bool) (elt : En → Hd → R D) : En → List D → Hd → R (List D) := fun σ' acc h => match it1 σ' h with
  | .ok (.tup [.tup es, g1]) h2 => lcLoop tg1 vs1 cond1 elt g1 es es σ' acc h2
  | _ => .bad
noncomputable def den (t : Rt) : Ex → En → M D
  | .var i, σ, h => match σ[i]? with
    | some (some d) => .ok d h
    | _ => .bad
  | .int i, _, h => .ok (.int i) h
  | .bl b, _, h => .ok (.bl b) h
  | .non, _, h => .ok .non h
  | .str s, _, h => .ok (.str s) h
  | .glo x, _, h => match t.glob x with
    | some d => .ok d h
    | none => .bad
  | .bin op a b, σ, h => (den t a σ h).bind fun x h1 => (den t b σ h1).bind fun y => binD op x y
  | .neg a, σ, h => (den t a σ h).bind fun x h1 => match x with
    | .int i => .ok (.int (-i)) h1
    | _ => .bad
  | .cmp op a b, σ, h => (den t a σ h).bind fun x h1 => (den t b σ h1).bind fun y => cmpD op x y
  | .chn o o' a b c, σ, h => (den t a σ h).bind fun x h1 => (den t b σ h1).bind fun y h2 => (cmpD o x y h2).bind fun z h3 => match z with
    | .bl true => (den t c σ h3).bind fun w => cmpD o' y w
    | .bl false => .ok (.bl false) h3
    | _ => .bad
  | .and_ a b, σ, h => (den t a σ h).bind fun x h1 => match x with
    | .bl true => den t b σ h1
    | .bl false => .ok (.bl false) h1
    | _ => .bad
  | .or_ a b, σ, h => (den t a σ h).bind fun x h1 => match x with
    | .bl true => .ok (.bl true) h1
    | .bl false => den t b σ h1
    | _ => .bad
  | .not_ a, σ, h => (den t a σ h).bind fun x => notD x
  | .ifx c a b, σ, h => (tstD (den t c σ h)).bind fun k h1 => if k = true then den t a σ h1 else den t b σ h1
  | .nil, _, h => .ok (.tup []) h
  | .cons a r, σ, h => (den t a σ h).bind fun x h1 => (den t r σ h1).bind fun y h2 => match y with
    | .tup ys => .ok (.tup (x :: ys)) h2
    | _ => .bad
  | .tup es, σ, h => (den t es σ h).bind fun x h1 => match x with
    | .tup xs => if szB xs.length = true then .ok (.tup xs) h1 else .bad
    | _ => .bad
  | .lst es, σ, h => (den t es σ h).bind fun x h1 => match x with
    | .tup xs => if szB xs.length = true then .ok (.loc h1.length) (h1 ++ [.lst xs]) else .bad
    | _ => .bad
  | .lfr es, σ, h => (den t es σ h).bind fun x h1 => match x with
    | .tup xs => if szB xs.length = true then .ok (.fro xs) h1 else .bad
    | _ => .bad
  | .call x n es, σ, h => if t.ar x n = true then (den t es σ h).bind fun y h1 => match y with
    | .tup ys => if ys.length = n then callD (t.orc x) (ys ++ t.dfl x n) h1 else .bad
    | _ => .bad
    else .bad
  | .clv i n es, σ, h => match σ[i]? with
    | some (some (.fn x)) => if t.ar x n = true then (den t es σ h).bind fun y h1 => match y with
      | .tup ys => if ys.length = n then callD (t.orc x) (ys ++ t.dfl x n) h1 else .bad
      | _ => .bad
      else .bad
    | _ => .bad
  | .bi b es, σ, h => (den t es σ h).bind fun y h1 => match y with
    | .tup ys => biD b ys h1
    | _ => .bad
  | .isi T a, σ, h => (den t a σ h).bind fun x h1 => match isiD T x h1 with
    | some b => .ok (.bl b) h1
    | none => .bad
  | .ix a i, σ, h => (den t a σ h).bind fun x h1 => (den t i σ h1).bind fun y => ixD x y
  | .sl a lo hi, σ, h => (den t a σ h).bind fun x h1 => (den t lo σ h1).bind fun y h2 => match partD y with
    | some l => (den t hi σ h2).bind fun z h3 => (match partD z with
      | some u => slD x l u h3
      | none => .bad)
    | none => .bad
  | .rev a, σ, h => (den t a σ h).bind fun x h1 => match x with
    | .tup ds => .ok (.tup ds.reverse) h1
    | .loc l => (match h1[l]? with
      | some (.lst ds) => .ok (.loc h1.length) (h1 ++ [.lst ds.reverse])
      | _ => .bad)
    | _ => .bad
  | .itS a, σ, h => (den t a σ h).bind fun x => seqI x
  | .itR es, σ, h => (den t es σ h).bind fun y h1 => match y with
    | .tup ys => rngI ys h1
    | _ => .bad
  | .itE a, σ, h => .bad
  | .itZ a b, σ, h => .bad
  | .lc vs tg it cond elt, σ, h => (den t it σ h).bind fun y h1 => match y with
    | .tup [.tup ds, g] => (lcLoop tg vs (fun σ h => tstD (den t cond σ h)) (den t elt) g ds ds σ [] h1).bind fun acc h2 => .ok (.loc h2.length) (h2 ++ [.lst acc])
    | _ => .bad
  | .lc2 vs vs1 tg it cond tg1 it1 cond1 elt, σ, h => (den t it σ h).bind fun y h1 => match y with
    | .tup [.tup ds, g] => (lcLoop2 tg vs (fun σ h => tstD (den t cond σ h)) (lcIn tg1 vs1 (den t it1) (fun σ h => tstD (den t cond1 σ h)) (den t elt)) g ds ds σ [] h1).bind fun acc h2 => .ok (.loc h2.length) (h2 ++ [.lst acc])
    | _ => .bad
  | .mth m o es, σ, h => (den t o σ h).bind fun x h1 => if mtyD m x h1 = true then (den t es σ h1).bind fun y h2 => match y with
    | .tup ys => mthD m x ys h2
    | _ => .bad
    else .bad
  | .att a f, σ, h => (den t a σ h).bind fun x h1 => match x with
    | .exn c g d => if t.exf c = some (some g) ∧ g = f then .ok d h1 else .bad
    | _ => .bad
  | .dnew, _, h => .ok (.loc h.length) (h ++ [.dk []])
  | .pt a, σ, h => (den t a σ h).bind fun x h1 => match x with
    | .int i => .ok (.int i) h1
    | _ => .bad

/-! ### statements -/
/-- so many turns of a while -/
noncomputable def whIter (c : En → Hd → R Bool) (b : En → Hd → RS') : Nat → En → Hd → Option RS'
  | 0, _, _ => none
  | n + 1, σ, h => match c σ h with
    | .ok true h1 => (match b σ h1 with
      | .nx σ' h' => whIter c b n σ' h'
      | .ct σ' h' => whIter c b n σ' h'
      | .bk σ' h' => some (.nx σ' h')
      | .rt d h' => some (.rt d h')
      | .ex e σ' h' => some (.ex e σ' h')
      | .bad => some .bad)
    | .ok false h1 => some (.nx σ h1)
    | .ex e h1 => some (.ex e σ h1)
    | .bad => some .bad
open Classical in
noncomputable def whD (c : En → Hd → R Bool) (b : En → Hd → RS') (σ : En) (h : Hd) : RS' :=
  if x : ∃ n r, whIter c b n σ h = some r then x.choose_spec.choose else .bad
open Classical in
noncomputable def forD (tg : Tg) (b : En → Hd → RS') (g : D) (all : List D) : List D → En → Hd → RS'
  | [], σ, h => if stays g all h then .nx σ h else .bad
  | d :: r, σ, h => if stays g all h then match bindT tg d h σ with
    | some σ' => (match b σ' h with
      | .nx σ1 h1 => forD tg b g all r σ1 h1
      | .ct σ1 h1 => forD tg b g all r σ1 h1
      | .bk σ1 h1 => .nx σ1 h1
      | .rt d h1 => .rt d h1
      | .ex e σ1 h1 => .ex e σ1 h1
      | .bad => .bad)
    | none => .bad
    else .bad
def O.nox : O → Bool
  | .lst ds => D.noxs ds
  | .dk kvs => D.noxs (kvs.map (·.2))
def noxE (σ : En) : Bool := σ.all fun o => match o with
  | some d => d.nox
  | none => true
/-- a handler's end: the exception's name is gone, nothing holds the exception -/
def suiteEnd (n : Option Nat) (r : RS') : RS' :=
  let out (σ : En) : En := match n with
    | some i => σ.set i none
    | none => σ
  match r with
  | .nx σ h => if (noxE (out σ) && h.all O.nox) = true then .nx (out σ) h else .bad
  | .bk σ h => if (noxE (out σ) && h.all O.nox) = true then .bk (out σ) h else .bad
  | .ct σ h => if (noxE (out σ) && h.all O.nox) = true then .ct (out σ) h else .bad
  | .rt d h => if (d.nox && h.all O.nox) = true then .rt d h else .bad
  | _ => .bad
def suiteIn (n : Option Nat) (e : Xn) (σ : En) : Option En := match n with
  | none => some σ
  | some i => match e.fld with
    | some (g, d) => some (σ.set i (some (.exn e.cls g d)))
    | none => none
/-- e: the exception that the clauses look at -/
noncomputable def denS (t : Rt) : Sm → Option Xn → En → Hd → RS'
  | .nil, _, σ, h => .nx σ h
  | .seq s r, _, σ, h => match denS t s none σ h with
    | .nx σ' h' => denS t r none σ' h'
    | e => e
  | .asg tg e, _, σ, h => (den t e σ h).thn σ fun d h1 => match bindT tg d h1 σ with
    | some σ' => .nx σ' h1
    | none => .bad
  | .six o i e, _, σ, h => (den t e σ h).thn σ fun d h1 => (den t o σ h1).thn σ fun p h2 => (den t i σ h2).thn σ fun k h3 => match sixD p k d h3 with
    | some h4 => .nx σ h4
    | none => .bad
  | .ife c a b, _, σ, h => (tstD (den t c σ h)).thn σ fun k h1 => if k = true then denS t a none σ h1 else denS t b none σ h1
  | .whl c b, _, σ, h => whD (fun σ h => tstD (den t c σ h)) (denS t b none) σ h
  | .for_ tg it b, _, σ, h => (den t it σ h).thn σ fun y h1 => match y with
    | .tup [.tup ds, g] => forD tg (denS t b none) g ds ds σ h1
    | _ => .bad
  | .brk, _, σ, h => .bk σ h
  | .cnt, _, σ, h => .ct σ h
  | .ret e, _, σ, h => (den t e σ h).thn σ fun d h1 => .rt d h1
  | .retN, _, σ, h => .rt .non h
  | .pas, _, σ, h => .nx σ h
  | .exp e, _, σ, h => (den t e σ h).thn σ fun _ h1 => .nx σ h1
  | .rai c es, _, σ, h => (den t es σ h).thn σ fun y h1 => match y, t.exf c with
    | .tup [.str _], some none => .ex ⟨c, none⟩ σ h1
    | .tup [d], some (some g) => .ex ⟨c, some (g, d)⟩ σ h1
    | _, _ => .bad
  | .try_ b hs, _, σ, h => match denS t b none σ h with
    | .ex e σ' h' => denS t hs (some e) σ' h'
    | r => r
  | .hnil, some e, σ, h => .ex e σ h
  | .hcons x n su rest, some e, σ, h => match t.isa e.cls x with
    | some true => (match suiteIn n e σ with
      | some σ' => suiteEnd n (denS t su none σ' h)
      | none => .bad)
    | some false => denS t rest (some e) σ h
    | none => .bad
  | _, _, _, _ => .bad
end Ev

/-! Ev, part 3: readings over pure data; the operations keep to them. -/
namespace Ev
open PySem PySem.Spec PyProof.Rows L2

/-! ### readings -/
def PostL (W : Wd) (ρ : List Addr) (H : Hp) (r : R D) (Q : List V → Hp → Prop) (E : XK) : Prop := match r with
  | .ok (.tup ds) hd => ∀ ρ' H' vs, Ext ρ H ρ' H' → RH W ρ' H' hd → RVs W ρ' H' ds vs → Q vs H'
  | .ok _ _ => False
  | .ex e hd => ∀ ρ' H' cls dd, Ext ρ H ρ' H' → RH W ρ' H' hd → RX W ρ' H' e cls dd → E cls dd H'
  | .bad => False
def PostB (W : Wd) (ρ : List Addr) (H : Hp) (r : R Bool) (Q : Bool → Hp → Prop) (E : XK) : Prop := match r with
  | .ok b hd => ∀ ρ' H', Ext ρ H ρ' H' → RH W ρ' H' hd → Q b H'
  | .ex e hd => ∀ ρ' H' cls dd, Ext ρ H ρ' H' → RH W ρ' H' hd → RX W ρ' H' e cls dd → E cls dd H'
  | .bad => False
def tM (W : Wd) (Wx : WX) (m : En → M D) : TE := fun σ H Q => ∃ ρ σd hd, RS W ρ H σd σ ∧ RH W ρ H hd ∧ Post W ρ H (m σd hd) Q (fun c dd H' => Wx c dd σ H')
def tL (W : Wd) (Wx : WX) (m : En → M D) : TA := fun σ H Q => ∃ ρ σd hd, RS W ρ H σd σ ∧ RH W ρ H hd ∧ PostL W ρ H (m σd hd) Q (fun c dd H' => Wx c dd σ H')
def tB' (W : Wd) (Wx : WX) (m : En → M Bool) : TT := fun σ H Q => ∃ ρ σd hd, RS W ρ H σd σ ∧ RH W ρ H hd ∧ PostB W ρ H (m σd hd) Q (fun c dd H' => Wx c dd σ H')
theorem PostL.ext {W : Wd} {ρ ρ' : List Addr} {H H' : Hp} {r : R D} {Q : List V → Hp → Prop} {E : XK} (x : Ext ρ H ρ' H') (h : PostL W ρ H r Q E) : PostL W ρ' H' r Q E := by
  cases r with
  | ok d hd =>
    cases d with
    | tup ds => exact fun ρ2 H2 v y => h ρ2 H2 v (x.trans y)
    | _ => exact h
  | ex e hd => exact fun ρ2 H2 c dd y => h ρ2 H2 c dd (x.trans y)
  | bad => exact h
theorem PostB.ext {W : Wd} {ρ ρ' : List Addr} {H H' : Hp} {r : R Bool} {Q : Bool → Hp → Prop} {E : XK} (x : Ext ρ H ρ' H') (h : PostB W ρ H r Q E) : PostB W ρ' H' r Q E := by
  cases r with
  | ok d hd => exact fun ρ2 H2 y => h ρ2 H2 (x.trans y)
  | ex e hd => exact fun ρ2 H2 c dd y => h ρ2 H2 c dd (x.trans y)
  | bad => exact h
/-- one evaluation behind another -/
theorem Post.bind {W : Wd} {ρ : List Addr} {H : Hp} {r : R D} {f : D → M D} {Q Q' : VK} {E : XK} (h : Post W ρ H (r.bind f) Q E)
    (k : ∀ ρ1 H1 d hd1 x, Ext ρ H ρ1 H1 → RH W ρ1 H1 hd1 → RV W ρ1 H1 d x → Post W ρ1 H1 (f d hd1) Q E → Q' x H1) : Post W ρ H r Q' E := by
  cases r with
  | ok d hd => exact fun ρ1 H1 x y hh rv => k ρ1 H1 d hd x y hh rv (Post.ext y h)
  | ex e hd => exact h
  | bad => exact h
theorem Post.bindL {W : Wd} {ρ : List Addr} {H : Hp} {r : R D} {f : D → M D} {Q : List V → Hp → Prop} {Q' : VK} {E : XK} (h : PostL W ρ H (r.bind f) Q E)
    (k : ∀ ρ1 H1 d hd1 x, Ext ρ H ρ1 H1 → RH W ρ1 H1 hd1 → RV W ρ1 H1 d x → PostL W ρ1 H1 (f d hd1) Q E → Q' x H1) : Post W ρ H r Q' E := by
  cases r with
  | ok d hd => exact fun ρ1 H1 x y hh rv => k ρ1 H1 d hd x y hh rv (PostL.ext y h)
  | ex e hd => exact h
  | bad => exact h
theorem PostL.bindL {W : Wd} {ρ : List Addr} {H : Hp} {r : R D} {f : D → M D} {Q Q' : List V → Hp → Prop} {E : XK} (h : PostL W ρ H (r.bind f) Q E) (hf : ∀ d h, (∀ ds, d ≠ .tup ds) → f d h = .bad)
    (k : ∀ ρ1 H1 ds hd1 xs, Ext ρ H ρ1 H1 → RH W ρ1 H1 hd1 → RVs W ρ1 H1 ds xs → PostL W ρ1 H1 (f (.tup ds) hd1) Q E → Q' xs H1) : PostL W ρ H r Q' E := by
  cases r with
  | ok d hd =>
    cases d with
    | tup ds => exact fun ρ1 H1 x y hh rv => k ρ1 H1 ds hd x y hh rv (PostL.ext y h)
    | _ =>
      have e : PostL W ρ H (f _ hd) Q E := h
      rw [hf _ hd (fun ds z => by cases z)] at e
      exact e
  | ex e hd => exact h
  | bad => exact h
theorem PostL.bind {W : Wd} {ρ : List Addr} {H : Hp} {r : R D} {f : D → M D} {Q : VK} {Q' : List V → Hp → Prop} {E : XK} (h : Post W ρ H (r.bind f) Q E) (hf : ∀ d h, (∀ ds, d ≠ .tup ds) → f d h = .bad)
    (k : ∀ ρ1 H1 ds hd1 xs, Ext ρ H ρ1 H1 → RH W ρ1 H1 hd1 → RVs W ρ1 H1 ds xs → Post W ρ1 H1 (f (.tup ds) hd1) Q E → Q' xs H1) : PostL W ρ H r Q' E := by
  cases r with
  | ok d hd =>
    cases d with
    | tup ds => exact fun ρ1 H1 x y hh rv => k ρ1 H1 ds hd x y hh rv (Post.ext y h)
    | _ =>
      have e : Post W ρ H (f _ hd) Q E := h
      rw [hf _ hd (fun ds z => by cases z)] at e
      exact e
  | ex e hd => exact h
  | bad => exact h
theorem PostB.bind {W : Wd} {ρ : List Addr} {H : Hp} {r : R Bool} {f : Bool → M D} {Q : VK} {Q' : Bool → Hp → Prop} {E : XK} (h : Post W ρ H (r.bind f) Q E)
    (k : ∀ ρ1 H1 b hd1, Ext ρ H ρ1 H1 → RH W ρ1 H1 hd1 → Post W ρ1 H1 (f b hd1) Q E → Q' b H1) : PostB W ρ H r Q' E := by
  cases r with
  | ok d hd => exact fun ρ1 H1 y hh => k ρ1 H1 d hd y hh (Post.ext y h)
  | ex e hd => exact h
  | bad => exact h
theorem PE.weak {X : Cx} {e : Expr} {t t' : TE} (h : PE X e t) (k : ∀ σ H Q, t' σ H Q → t σ H Q) : PE X e t' := ⟨fun pins s σ H Q I hw => h.run pins s σ H Q I (k σ H Q hw)⟩
theorem PA.weak {X : Cx} {e : List Expr} {t t' : TA} (h : PA X e t) (k : ∀ σ H Q, t' σ H Q → t σ H Q) : PA X e t' := ⟨fun pos pins s σ H Q I hw => h.run pos pins s σ H Q I (k σ H Q hw)⟩
theorem PT.weak {X : Cx} {e : Expr} {t t' : TT} (h : PT X e t) (k : ∀ σ H Q, t' σ H Q → t σ H Q) : PT X e t' := ⟨fun pins s σ H Q I hw => h.run pins s σ H Q I (k σ H Q hw)⟩
theorem PW.weak {X : Cx} {e : Expr} {t t' : TT} (h : PW X e t) (k : ∀ σ H Q, t' σ H Q → t σ H Q) : PW X e t' := ⟨fun wh pins s σ H Q I hw => h.run wh pins s σ H Q I (k σ H Q hw)⟩
theorem PS.weak {X : Cx} {e : Stmt} {t t' : TS} (h : PS X e t) (k : ∀ D σ H, t' D σ H → t D σ H) : PS X e t' := ⟨fun pins s σ H D I hw => h.run pins s σ H D I (k D σ H hw)⟩
theorem PSs.weak {X : Cx} {e : List Stmt} {t t' : TS} (h : PSs X e t) (k : ∀ D σ H, t' D σ H → t D σ H) : PSs X e t' := ⟨fun pins s σ H D I hw => h.run pins s σ H D I (k D σ H hw)⟩

/-! ### places -/
section
variable {W : Wd} {ρ : List Addr} {H : Hp} {hd : Hd}
theorem RH.list (hh : RH W ρ H hd) {l : Nat} {ds : List D} {x : V} (h : RV W ρ H (.loc l) x) (e : hd[l]? = some (.lst ds)) : ∃ a vs, x = .ref a ∧ ρ[l]? = some a ∧ H a = some (.lst vs) ∧ RVs W ρ H ds vs := by
  obtain ⟨a, rfl, ea⟩ := h
  obtain ⟨vs, h1, h2⟩ := hh.ob l a _ ea e
  exact ⟨a, vs, rfl, ea, h1, h2⟩
theorem RH.dict (hh : RH W ρ H hd) {l : Nat} {ds : List (Key × D)} {x : V} (h : RV W ρ H (.loc l) x) (e : hd[l]? = some (.dk ds)) : ∃ a vs, x = .ref a ∧ ρ[l]? = some a ∧ H a = some (.dK vs) ∧ RK W ρ H ds vs := by
  obtain ⟨a, rfl, ea⟩ := h
  obtain ⟨vs, h1, h2⟩ := hh.ob l a _ ea e
  exact ⟨a, vs, rfl, ea, h1, h2⟩
theorem items_of (hh : RH W ρ H hd) {d : D} {ds : List D} {x : V} (h : RV W ρ H d x) (e : items d hd = some ds) : ∃ a vs, x = .ref a ∧ (SqL W.K H a vs ∨ SqT W.K H a vs) ∧ RVs W ρ H ds vs := by
  cases d with
  | tup es =>
    cases e
    obtain ⟨a, vs, rfl, s, r⟩ := h
    exact ⟨a, vs, rfl, .inr s, r⟩
  | fro es =>
    cases e
    obtain ⟨a, vs, rfl, s, r⟩ := h
    exact ⟨a, vs, rfl, .inl s.sq, r⟩
  | loc l =>
    have e' : (match hd[l]? with | some (.lst ds) => some ds | _ => none) = some ds := e
    split at e'
    · rename_i es he
      cases e'
      obtain ⟨a, vs, rfl, _, s, r⟩ := hh.list h he
      exact ⟨a, vs, rfl, .inl (.of s), r⟩
    · cases e'
  | _ => cases e
theorem RH.lnew (hh : RH W ρ H hd) {ds : List D} {vs : List V} (r : RVs W ρ H ds vs) {p : Addr} (n : H p = none) : RH W (ρ ++ [p]) (upd H p (.lst vs)) (hd ++ [.lst ds]) :=
  hh.push n ⟨vs, upd_same, RVs.ext (Ext.place n) _ _ r⟩
theorem RV.here {W : Wd} {ρ : List Addr} {H : Hp} {hd : Hd} (hh : RH W ρ H hd) {p : Addr} {H' : Hp} : RV W (ρ ++ [p]) H' (.loc hd.length) (.ref p) :=
  ⟨p, rfl, by rw [← hh.len]; simp⟩
/-- a new list's end -/
theorem Post.newL (hh : RH W ρ H hd) {ds : List D} {vs : List V} (r : RVs W ρ H ds vs) {Q : VK} {E : XK} (h : Post W ρ H (.ok (.loc hd.length) (hd ++ [.lst ds])) Q E) : ∀ p, H p = none → Q (.ref p) (upd H p (.lst vs)) :=
  fun p n => h (ρ ++ [p]) _ _ (Ext.place n) (hh.lnew r n) (RV.here hh)
theorem Post.newT (hh : RH W ρ H hd) {ds : List D} {vs : List V} (r : RVs W ρ H ds vs) {Q : VK} {E : XK} (h : Post W ρ H (.ok (.tup ds) hd) Q E) : ∀ p, H p = none → Q (.ref p) (upd H p (.tup vs)) :=
  fun p n => h ρ _ _ (Ext.new n) (hh.beside n) ⟨p, vs, rfl, .of upd_same, RVs.ext (Ext.new n) _ _ r⟩
theorem Post.same {d : D} {Q : VK} {E : XK} (h : Post W ρ H (.ok d hd) Q E) (hh : RH W ρ H hd) {x : V} (r : RV W ρ H d x) : Q x H := h ρ H x (Ext.refl _ _) hh r
end

/-! ### operators -/
def rD (W : Wd) (g : D → D → M D) : R2 := fun x y H Q => ∃ ρ hd d e E, RH W ρ H hd ∧ RV W ρ H d x ∧ RV W ρ H e y ∧ Post W ρ H (g d e hd) Q E
section
variable {X : Cx} {W : Wd}
theorem log2_lt' {n b : Nat} (h : n < 2 ^ b) (h0 : 0 < b) : n.log2 < b := PySem.Flt.log2_lt_of h0 h
theorem rep_vals {ρ : List Addr} {H : Hp} {ds : List D} {vs : List V} (r : RVs W ρ H ds vs) : ∀ n : Nat, RVs W ρ H (List.replicate n ds).flatten (List.replicate n vs).flatten
  | 0 => rfl
  | n + 1 => by
    simp only [List.replicate_succ, List.flatten_cons]
    exact r.append (rep_vals r n)
theorem RVs.nil_iff {ρ : List Addr} {H : Hp} {ds : List D} {vs : List V} (r : RVs W ρ H ds vs) : ds = [] ↔ vs = [] := by
  have := r.length
  constructor
  · intro e; subst e; simpa using this
  · intro e; subst e; simpa using this.symm
theorem op_bin (hK : W.K = X.K) (op : Operator) : OpR X (binaryOp op) (rD W (binD op)) := by
  intro pins s σ H x y v u Q I rx ry ⟨ρ, hd, d, e, E, hh, h1, h2, hp⟩
  unfold binD at hp
  split at hp
  · rename_i i j
    exact op_add pins s σ H x y v u Q I rx ry ⟨i, j, h1, h2, hp.same hh rfl⟩
  · rename_i i j
    exact op_sub pins s σ H x y v u Q I rx ry ⟨i, j, h1, h2, hp.same hh rfl⟩
  · rename_i i j
    split at hp
    · rename_i c
      unfold mulB at c
      simp only [Bool.or_eq_true, decide_eq_true_eq] at c
      rcases c with c | c | c
      · exact op_mul pins s σ H x y v u Q I rx ry ⟨i, j, h1, h2, .inl (by omega), hp.same hh rfl⟩
      · exact op_mul pins s σ H x y v u Q I rx ry ⟨i, j, h1, h2, .inr (by omega), hp.same hh rfl⟩
      · exact op_mulW pins s σ H x y v u Q I rx ry ⟨i, j, h1, h2, c, hp.same hh rfl⟩
    · exact hp.elim
  · rename_i i j
    split at hp
    · rename_i c
      unfold divB at c
      simp only [Bool.and_eq_true, decide_eq_true_eq] at c
      exact op_fdivW pins s σ H x y v u Q I rx ry ⟨i, j, h1, h2, ⟨c.1, log2_lt' c.2 (by decide)⟩, hp.same hh rfl⟩
    · exact hp.elim
  · rename_i i j
    split at hp
    · rename_i c
      exact op_mod pins s σ H x y v u Q I rx ry ⟨i, j, h1, h2, c, hp.same hh rfl⟩
    · exact hp.elim
  · rename_i i j
    split at hp
    · rename_i c
      exact op_shl pins s σ H x y v u Q I rx ry ⟨i, j, h1, h2, c, hp.same hh rfl⟩
    · exact hp.elim
  · rename_i i j
    split at hp
    · rename_i c
      exact op_add_str pins s σ H x y v u Q I rx ry ⟨i, j, h1, h2, of_decide_eq_true c, hp.same hh rfl⟩
    · exact hp.elim
  · rename_i xs ys
    split at hp
    · rename_i c
      have c' := of_decide_eq_true c
      obtain ⟨a, vs, rfl, s1, r1⟩ := h1
      obtain ⟨b, ws, rfl, s2, r2⟩ := h2
      rw [hK] at s1 s2
      refine op_catA pins s σ H _ _ v u Q I rx ry ⟨a, b, vs, ws, rfl, rfl, s1, s2, by rw [r1.length, r2.length]; exact c', fun e => ?_, fun e e2 => ?_, fun e e2 => ?_⟩
      · have z := r1.nil_iff.mpr e
        subst z
        exact hp.same hh ⟨b, ws, rfl, by rw [hK]; exact s2, r2⟩
      · have z := r2.nil_iff.mpr e2
        subst z
        rw [List.append_nil] at hp
        exact hp.same hh ⟨a, vs, rfl, by rw [hK]; exact s1, r1⟩
      · exact hp.newT hh (r1.append r2)
    · exact hp.elim
  · rename_i k l
    split at hp
    · rename_i xs ys e1 e2
      split at hp
      · rename_i c
        have c' := of_decide_eq_true c
        obtain ⟨a, vs, rfl, _, s1, r1⟩ := hh.list h1 e1
        obtain ⟨b, ws, rfl, _, s2, r2⟩ := hh.list h2 e2
        exact op_cat pins s σ H _ _ v u Q I rx ry ⟨a, b, vs, ws, rfl, rfl, s1, s2, by rw [r1.length, r2.length]; exact c', hp.newL hh (r1.append r2)⟩
      · exact hp.elim
    · exact hp.elim
  · rename_i k j
    split at hp
    · rename_i xs e1
      split at hp
      · rename_i c
        simp only [Bool.and_eq_true, decide_eq_true_eq] at c
        obtain ⟨c1, c2, c3⟩ := c
        have c3' := of_decide_eq_true c3
        obtain ⟨a, vs, rfl, _, s1, r1⟩ := hh.list h1 e1
        exact op_rep pins s σ H _ _ v u Q I rx ry ⟨a, j, vs, rfl, h2, s1, c1, c2, by rw [r1.length]; exact c3', hp.newL hh (rep_vals r1 _)⟩
      · exact hp.elim
    · exact hp.elim
  · rename_i xs j
    split at hp
    · rename_i c
      obtain ⟨c1, c2, c3, c4⟩ := c
      obtain ⟨a, vs, rfl, s1, r1⟩ := h1
      rw [hK] at s1
      exact op_repT pins s σ H _ _ v u Q I rx ry ⟨a, j, vs, rfl, h2, s1, fun e => c1 (r1.nil_iff.mpr e), c2, c3, by rw [r1.length]; exact c4, hp.newT hh (rep_vals r1 _)⟩
    · exact hp.elim
  · exact hp.elim

/-! ### comparisons -/
mutual
theorem toP_dp {ρ : List Addr} {H : Hp} : ∀ (d : D) (p : PyData) (x : V), D.toP d = some p → RV W ρ H d x → Dp W.K H x p
  | .non, _, _, e, h => by
    cases e
    have h' : _ = V.non := h
    rw [h']; exact .non
  | .bl b, _, _, e, h => by
    cases e
    have h' : _ = V.bl b := h
    rw [h']; exact .bl b
  | .int b, _, _, e, h => by
    cases e
    have h' : _ = V.int b := h
    rw [h']; exact .int b
  | .str b, _, _, e, h => by
    cases e
    have h' : _ = V.str b := h
    rw [h']; exact .str b
  | .tup ds, p, _, e, h => by
    have e' : (match D.toPs ds with | some ps => some (PyData.tuple ps) | none => none) = some p := e
    split at e'
    · rename_i ps q
      cases e'
      obtain ⟨a, vs, rfl, s, r⟩ := h
      exact .tup s (toPs_dp ds ps vs q r)
    · cases e'
  | .fro ds, p, _, e, h => by
    have e' : (match D.toPs ds with | some ps => some (PyData.list ps) | none => none) = some p := e
    split at e'
    · rename_i ps q
      cases e'
      obtain ⟨a, vs, rfl, s, r⟩ := h
      exact .lst s.sq (toPs_dp ds ps vs q r)
    · cases e'
theorem toPs_dp {ρ : List Addr} {H : Hp} : ∀ (ds : List D) (ps : List PyData) (xs : List V), D.toPs ds = some ps → RVs W ρ H ds xs → DpAll W.K H xs ps
  | [], _, _, e, h => by
    cases e
    cases h
    exact .nil
  | d :: ds, ps, _, e, h => by
    have e' : (match D.toP d, D.toPs ds with | some p, some ps => some (p :: ps) | _, _ => none) = some ps := e
    split at e'
    · rename_i p qs e1 e2
      cases e'
      obtain ⟨v, r, rfl, h1, h2⟩ := h
      exact .cons (toP_dp d p v e1 h1) (toPs_dp ds qs r e2 h2)
    · cases e'
end
theorem toPH_dp {ρ : List Addr} {H : Hp} {hd : Hd} (hh : RH W ρ H hd) {d : D} {p : PyData} {x : V} (e : toPH d hd = some p) (h : RV W ρ H d x) : Dp W.K H x p := by
  unfold toPH at e
  split at e
  · rename_i l
    split at e
    · rename_i ds e1
      obtain ⟨ps, e2, rfl⟩ := Option.map_eq_some_iff.mp e
      obtain ⟨a, vs, rfl, _, s1, r1⟩ := hh.list h e1
      exact .lst (.of s1) (toPs_dp ds ps vs e2 r1)
    · cases e
  · exact toP_dp d p x e h
theorem eqD_of {ρ : List Addr} {H : Hp} {hd : Hd} (hh : RH W ρ H hd) {d e : D} {x y : V} {b : Bool} (c : eqD d e hd = some b) (h1 : RV W ρ H d x) (h2 : RV W ρ H e y) :
    ∃ p q, Dp W.K H x p ∧ Dp W.K H y q ∧ SeqAt.shaped p = true ∧ SeqAt.shaped q = true ∧ b = PyData.eqv p q := by
  unfold eqD at c
  split at c
  · rename_i p q e1 e2
    split at c
    · rename_i s
      cases c
      obtain ⟨s1, s2⟩ := Bool.and_eq_true_iff.mp s
      exact ⟨p, q, toPH_dp hh e1 h1, toPH_dp hh e2 h2, s1, s2, rfl⟩
    · cases c
  · cases c
theorem isNon_of {ρ : List Addr} {H : Hp} {d : D} {x : V} (h : RV W ρ H d x) : isNon d = decide (x = .non) := by
  cases d with
  | non =>
    have h' : x = V.non := h
    rw [h']; rfl
  | bl b =>
    have h' : x = V.bl b := h
    rw [h']; rfl
  | int b =>
    have h' : x = V.int b := h
    rw [h']; rfl
  | str b =>
    have h' : x = V.str b := h
    rw [h']; rfl
  | tup ds => obtain ⟨a, vs, rfl, _⟩ := h; rfl
  | fro ds => obtain ⟨a, vs, rfl, _⟩ := h; rfl
  | loc l => obtain ⟨a, rfl, _⟩ := h; rfl
  | fn x => obtain ⟨a, rfl, _⟩ := h; rfl
  | exn x g d => obtain ⟨a, _, _, _, rfl, _⟩ := h; rfl
theorem scalar_of {ρ : List Addr} {H : Hp} {d : D} {x : V} (h : RV W ρ H d x) (s : d.scalar = true) : x = d.toV := by
  cases d with
  | non => exact h
  | bl b => exact h
  | int b => exact h
  | str b => exact h
  | _ => cases s
theorem scalars_of {ρ : List Addr} {H : Hp} : ∀ {ds : List D} {xs : List V}, RVs W ρ H ds xs → ds.all D.scalar = true → xs = ds.map D.toV
  | [], _, h, _ => h
  | d :: ds, _, h, s => by
    obtain ⟨v, r, rfl, h1, h2⟩ := h
    simp only [List.all_cons, Bool.and_eq_true] at s
    rw [scalar_of h1 s.1, scalars_of h2 s.2] <;> rfl
theorem flatV_of {d : D} (s : d.scalar = true) : flatV d.toV = true := by
  cases d with
  | non => rfl
  | bl b => rfl
  | int b => rfl
  | str b => rfl
  | _ => cases s
theorem flatVs_of : ∀ {ds : List D}, ds.all D.scalar = true → (ds.map D.toV).all flatV = true
  | [], _ => rfl
  | d :: ds, s => by
    simp only [List.all_cons, Bool.and_eq_true] at s
    simp only [List.map_cons, List.all_cons, Bool.and_eq_true]
    exact ⟨flatV_of s.1, flatVs_of s.2⟩
theorem in_of {ρ : List Addr} {H : Hp} {hd : Hd} (hh : RH W ρ H hd) {d e : D} {ds : List D} {x y : V} (c : items e hd = some ds) (s : (d.scalar && ds.all D.scalar) = true) (h1 : RV W ρ H d x) (h2 : RV W ρ H e y) :
    ∃ p xs, y = .ref p ∧ (SqL W.K H p xs ∨ SqT W.K H p xs) ∧ flatV x = true ∧ xs.all flatV = true ∧ inV x xs = inD d ds := by
  obtain ⟨s1, s2⟩ := Bool.and_eq_true_iff.mp s
  obtain ⟨a, vs, rfl, q, r⟩ := items_of hh h2 c
  have e1 := scalar_of h1 s1
  have e2 := scalars_of r s2
  subst e1 e2
  exact ⟨a, _, rfl, q, flatV_of s1, flatVs_of s2, rfl⟩
theorem op_cmp (hK : W.K = X.K) (hu : X.A.units + 64 < cLine) (op : CmpOp) : OpR X (compareOp op) (rD W (cmpD op)) := by
  intro pins s σ H x y v u Q I rx ry ⟨ρ, hd, d, e, E, hh, h1, h2, hp⟩
  unfold cmpD at hp
  split at hp
  · split at hp
    · rename_i b c
      obtain ⟨p, q, d1, d2, s1, s2, rfl⟩ := eqD_of hh c h1 h2
      rw [hK] at d1 d2
      exact op_eqD hu pins s σ H x y v u Q I rx ry ⟨p, q, d1, d2, s1, s2, hp.same hh rfl⟩
    · exact hp.elim
  · split at hp
    · rename_i b c
      obtain ⟨p, q, d1, d2, s1, s2, rfl⟩ := eqD_of hh c h1 h2
      rw [hK] at d1 d2
      exact op_neD hu pins s σ H x y v u Q I rx ry ⟨p, q, d1, d2, s1, s2, hp.same hh rfl⟩
    · exact hp.elim
  · split at hp
    · exact op_lt pins s σ H x y v u Q I rx ry ⟨_, _, h1, h2, hp.same hh rfl⟩
    · exact hp.elim
  · split at hp
    · exact op_le pins s σ H x y v u Q I rx ry ⟨_, _, h1, h2, hp.same hh rfl⟩
    · exact hp.elim
  · split at hp
    · exact op_gt pins s σ H x y v u Q I rx ry ⟨_, _, h1, h2, hp.same hh rfl⟩
    · exact hp.elim
  · split at hp
    · exact op_ge pins s σ H x y v u Q I rx ry ⟨_, _, h1, h2, hp.same hh rfl⟩
    · exact hp.elim
  · split at hp
    · exact op_isN pins s σ H x y v u Q I rx ry ⟨h2, by rw [← isNon_of h1]; exact hp.same hh rfl⟩
    · exact hp.elim
  · split at hp
    · exact op_notN pins s σ H x y v u Q I rx ry ⟨h2, by rw [← isNon_of h1]; exact hp.same hh rfl⟩
    · exact hp.elim
  · split at hp
    · rename_i ds c
      split at hp
      · rename_i sc
        obtain ⟨p, xs, rfl, q, f1, f2, e1⟩ := in_of hh c sc h1 h2
        rw [hK] at q
        refine op_in_seq pins s σ H x _ v u Q I rx ry ⟨p, xs, rfl, q, f1, f2, ?_⟩
        show Q (.bl (inV x xs)) H
        rw [e1]
        exact hp.same hh rfl
      · exact hp.elim
    · exact hp.elim
  · split at hp
    · rename_i ds c
      split at hp
      · rename_i sc
        obtain ⟨p, xs, rfl, q, f1, f2, e1⟩ := in_of hh c sc h1 h2
        rw [hK] at q
        refine op_notIn_seq pins s σ H x _ v u Q I rx ry ⟨p, xs, rfl, q, f1, f2, ?_⟩
        show Q (.bl (!inV x xs)) H
        rw [e1]
        exact hp.same hh rfl
      · exact hp.elim
    · exact hp.elim

/-! ### truth -/
theorem tru_of (hK : W.K = X.K) {ρ : List Addr} {H : Hp} {hd : Hd} (hh : RH W ρ H hd) {d : D} {x : V} {b : Bool} (h : RV W ρ H d x) (e : truD d hd = some b) : TruV X.K x H b := by
  have emp : ∀ {ds : List D} {vs : List V}, RVs W ρ H ds vs → (!ds.isEmpty) = !vs.isEmpty := fun {ds vs} r => by
    cases ds with
    | nil => cases r; rfl
    | cons a r' => obtain ⟨v, q, rfl, _⟩ := r; rfl
  cases d with
  | non =>
    have h' : x = V.non := h
    cases e
    rw [h']; exact rfl
  | bl k =>
    have h' : x = V.bl k := h
    cases e
    rw [h']; exact rfl
  | int k =>
    have h' : x = V.int k := h
    cases e
    rw [h']; exact rfl
  | tup ds =>
    cases e
    obtain ⟨a, vs, rfl, s, r⟩ := h
    rw [hK] at s
    exact .inr (.inl ⟨vs, s, emp r⟩)
  | fro ds =>
    cases e
    obtain ⟨a, vs, rfl, s, r⟩ := h
    have s' := s.sq
    rw [hK] at s'
    exact .inl ⟨vs, s', emp r⟩
  | loc l =>
    have e' : (match hd[l]? with | some (.lst ds) => some (!ds.isEmpty) | some (.dk kvs) => some (!kvs.isEmpty) | none => none) = some b := e
    split at e'
    · rename_i ds q
      cases e'
      obtain ⟨a, vs, rfl, _, s, r⟩ := hh.list h q
      exact .inl ⟨vs, .of s, emp r⟩
    · rename_i kvs q
      cases e'
      obtain ⟨a, vs, rfl, _, s, r⟩ := hh.dict h q
      refine .inr (.inr ⟨vs, s, ?_⟩)
      cases kvs with
      | nil => cases r; rfl
      | cons p r' => obtain ⟨k, d⟩ := p; obtain ⟨v, q, rfl, _⟩ := r; rfl
    · cases e'
  | _ => cases e

/-! ### items -/
theorem ixN_some {n : Nat} {i : Int} {j : Nat} (e : ixN n i = some j) : j < n := by
  unfold ixN at e
  split at e
  · split at e
    · cases e; omega
    · cases e
  · split at e
    · cases e; omega
    · cases e
theorem atI_of {ρ : List Addr} {H : Hp} {ds : List D} {vs : List V} (r : RVs W ρ H ds vs) {i : Int} {d : D} (e : atD ds i = some d) : ∃ v, atI vs i = some v ∧ RV W ρ H d v := by
  unfold atD atI at e
  obtain ⟨j, e1, e2⟩ := Option.bind_eq_some_iff.mp e
  obtain ⟨v, e3, rv⟩ := r.get e2
  refine ⟨v, ?_, rv⟩
  unfold atI
  rw [r.length, e1]
  exact e3
theorem cut_of {ρ : List Addr} {H : Hp} {ds : List D} {vs : List V} (r : RVs W ρ H ds vs) (lo hi : Option Int) : RVs W ρ H (cutD ds lo hi) (cutV vs lo hi) := by
  unfold cutD cutV
  rw [r.length]
  exact (r.drop _).take _
end
end Ev

/-! Ev, part 4: built-in functions, types, methods, subscripts keep to their meaning. -/
namespace Ev
open PySem PySem.Spec PyProof.Rows L2

def rBi (W : Wd) (g : List D → M D) : List V → Hp → VK → Prop := fun xs H Q => ∃ ρ hd ds E, RH W ρ H hd ∧ RVs W ρ H ds xs ∧ Post W ρ H (g ds hd) Q E
theorem intsD_eq : ∀ {ds : List D} {ns : List Int}, intsD ds = some ns → ds = ns.map D.int
  | [], _, e => by cases e; rfl
  | .int i :: r, _, e => by
    obtain ⟨ms, e1, rfl⟩ := Option.map_eq_some_iff.mp (show (intsD r).map (i :: ·) = some _ from e)
    rw [intsD_eq e1] <;> rfl
  | .non :: _, _, e => nomatch e
  | .bl _ :: _, _, e => nomatch e
  | .str _ :: _, _, e => nomatch e
  | .tup _ :: _, _, e => nomatch e
  | .fro _ :: _, _, e => nomatch e
  | .loc _ :: _, _, e => nomatch e
  | .fn _ :: _, _, e => nomatch e
  | .exn _ _ _ :: _, _, e => nomatch e
theorem blsD_eq : ∀ {ds : List D} {ns : List Bool}, blsD ds = some ns → ds = ns.map D.bl
  | [], _, e => by cases e; rfl
  | .bl i :: r, _, e => by
    obtain ⟨ms, e1, rfl⟩ := Option.map_eq_some_iff.mp (show (blsD r).map (i :: ·) = some _ from e)
    rw [blsD_eq e1] <;> rfl
  | .non :: _, _, e => nomatch e
  | .int _ :: _, _, e => nomatch e
  | .str _ :: _, _, e => nomatch e
  | .tup _ :: _, _, e => nomatch e
  | .fro _ :: _, _, e => nomatch e
  | .loc _ :: _, _, e => nomatch e
  | .fn _ :: _, _, e => nomatch e
  | .exn _ _ _ :: _, _, e => nomatch e
theorem RVs.bls {W : Wd} {ρ : List Addr} {H : Hp} : ∀ {ns : List Bool} {vs : List V}, RVs W ρ H (ns.map D.bl) vs → vs = ns.map V.bl
  | [], _, h => h
  | n :: ns, _, h => by
    obtain ⟨u, r, rfl, h1, h2⟩ := h
    rw [RVs.bls h2]
    have e : u = V.bl n := h1
    rw [e] <;> rfl
theorem maxL_ge : ∀ (n : Int) (ns : List Int) (y : Int), y ∈ n :: ns → y ≤ maxL (n :: ns)
  | n, [], y, h => by simp at h; subst h; exact Int.le_refl _
  | n, m :: r, y, h => by
    have ih := maxL_ge m r
    show y ≤ max n (maxL (m :: r))
    rcases List.mem_cons.mp h with e | h
    · subst e; exact Int.le_max_left _ _
    · exact Int.le_trans (ih y h) (Int.le_max_right _ _)
theorem maxL_mem : ∀ (n : Int) (ns : List Int), maxL (n :: ns) ∈ n :: ns
  | n, [] => by simp [maxL]
  | n, m :: r => by
    have ih := maxL_mem m r
    show max n (maxL (m :: r)) ∈ _
    by_cases h : n ≤ maxL (m :: r)
    · rw [Int.max_eq_right h]; exact List.mem_cons_of_mem _ ih
    · rw [Int.max_eq_left (by omega)]; exact List.mem_cons_self
theorem minL_le : ∀ (n : Int) (ns : List Int) (y : Int), y ∈ n :: ns → minL (n :: ns) ≤ y
  | n, [], y, h => by simp at h; subst h; exact Int.le_refl _
  | n, m :: r, y, h => by
    have ih := minL_le m r
    show min n (minL (m :: r)) ≤ y
    rcases List.mem_cons.mp h with e | h
    · subst e; exact Int.min_le_left _ _
    · exact Int.le_trans (Int.min_le_right _ _) (ih y h)
theorem minL_mem : ∀ (n : Int) (ns : List Int), minL (n :: ns) ∈ n :: ns
  | n, [] => by simp [minL]
  | n, m :: r => by
    have ih := minL_mem m r
    show min n (minL (m :: r)) ∈ _
    by_cases h : minL (m :: r) ≤ n
    · rw [Int.min_eq_right h]; exact List.mem_cons_of_mem _ ih
    · rw [Int.min_eq_left (by omega)]; exact List.mem_cons_self
theorem insI_perm (x : Int) : ∀ l : List Int, (insI x l).Perm (x :: l)
  | [] => .refl _
  | y :: r => by
    unfold insI
    split
    · exact .refl _
    · exact ((insI_perm x r).cons y).trans (.swap x y r)
theorem sortI_perm : ∀ l : List Int, (sortI l).Perm l
  | [] => .refl _
  | x :: r => (insI_perm x _).trans ((sortI_perm r).cons x)
theorem insI_sorted (x : Int) : ∀ l : List Int, l.Pairwise (· ≤ ·) → (insI x l).Pairwise (· ≤ ·)
  | [], _ => by simp [insI]
  | y :: r, h => by
    obtain ⟨h1, h2⟩ := List.pairwise_cons.mp h
    unfold insI
    split
    · rename_i c
      refine List.pairwise_cons.mpr ⟨fun z hz => ?_, h⟩
      rcases List.mem_cons.mp hz with e | hz
      · subst e; exact c
      · exact Int.le_trans c (h1 z hz)
    · rename_i c
      refine List.pairwise_cons.mpr ⟨fun z hz => ?_, insI_sorted x r h2⟩
      rcases List.mem_cons.mp ((insI_perm x r).mem_iff.mp hz) with e | hz
      · subst e; omega
      · exact h1 z hz
theorem sortI_sorted : ∀ l : List Int, (sortI l).Pairwise (· ≤ ·)
  | [] => .nil
  | x :: r => insI_sorted x _ (sortI_sorted r)
theorem sorted_eq : ∀ {l m : List Int}, l.Perm m → l.Pairwise (· ≤ ·) → m.Pairwise (· ≤ ·) → l = m
  | [], m, p, _, _ => (List.nil_perm.mp p).symm
  | x :: r, m, p, h1, h2 => by
    cases m with
    | nil => exact absurd p.symm (by simp)
    | cons y s =>
      obtain ⟨a1, a2⟩ := List.pairwise_cons.mp h1
      obtain ⟨b1, b2⟩ := List.pairwise_cons.mp h2
      have e : x = y := by
        have m1 : x ∈ y :: s := p.mem_iff.mp List.mem_cons_self
        have m2 : y ∈ x :: r := p.mem_iff.mpr List.mem_cons_self
        rcases List.mem_cons.mp m1 with e | m1
        · exact e
        · rcases List.mem_cons.mp m2 with e | m2
          · exact e.symm
          · have := a1 y m2
            have := b1 x m1
            omega
      subst e
      rw [sorted_eq ((List.perm_cons x).mp p) a2 b2]

/-- a built-in's name, its value -/
def Bi.name : Bi → Str
  | .len => "len" | .abs => "abs" | .max2 => "max" | .min2 => "min" | .max1 => "max" | .min1 => "min" | .sum => "sum" | .all => "all" | .any => "any" | .tuple => "tuple" | .list => "list" | .int => "int" | .sorted => "sorted"
def Bi.val : Bi → Value
  | .len => .builtin "len" | .abs => .builtin "abs" | .max2 => .builtin "max" | .min2 => .builtin "min" | .max1 => .builtin "max" | .min1 => .builtin "min" | .sum => .builtin "sum" | .all => .builtin "all" | .any => .builtin "any"
  | .tuple => .type "tuple" | .list => .type "list" | .int => .type "int" | .sorted => .builtin "sorted"
theorem Bi.boot : ∀ b : Bi, bootBuiltins b.name = some b.val := by
  intro b
  cases b <;> decide +kernel
section
variable {X : Cx} {W : Wd}
theorem call_bi (hc : X.calm = true) (hK : W.K = X.K) (b : Bi) : CallR X b.val (rBi W (biD b)) := by
  intro pins s σ H xs us Q I r ⟨ρ, hd, ds, E, hh, h1, hp⟩
  unfold biD at hp
  split at hp
  · -- len
    obtain ⟨v, r', rfl, hv, hr⟩ := h1
    cases hr
    split at hp
    · rename_i es c
      obtain ⟨a, vs, rfl, q, rv⟩ := items_of hh hv c
      rw [hK] at q
      exact call_len_seq pins s σ H _ us Q I r ⟨a, vs, rfl, q, by rw [rv.length]; exact hp.same hh rfl⟩
    · split at hp
      · rename_i z _
        split at hp
        · rename_i c
          have hv' : v = V.str z := hv
          subst hv'
          exact call_len_str pins s σ H _ us Q I r ⟨z, rfl, of_decide_eq_true c, hp.same hh rfl⟩
        · exact hp.elim
      · exact hp.elim
  · rename_i i
    obtain ⟨v, r', rfl, hv, hr⟩ := h1
    cases hr
    have hv' : v = V.int i := hv
    subst hv'
    exact call_abs pins s σ H _ us Q I r ⟨i, rfl, hp.same hh rfl⟩
  · rename_i i j
    obtain ⟨v, r', rfl, hv, w', r'', rfl, hw, hr⟩ := h1
    cases hr
    have hv' : v = V.int i := hv
    have hw' : w' = V.int j := hw
    subst hv' hw'
    exact call_max2 hc pins s σ H _ us Q I r ⟨i, j, rfl, hp.same hh rfl⟩
  · rename_i i j
    obtain ⟨v, r', rfl, hv, w', r'', rfl, hw, hr⟩ := h1
    cases hr
    have hv' : v = V.int i := hv
    have hw' : w' = V.int j := hw
    subst hv' hw'
    exact call_min2 hc pins s σ H _ us Q I r ⟨i, j, rfl, hp.same hh rfl⟩
  · -- max of a list
    obtain ⟨v, r', rfl, hv, hr⟩ := h1
    cases hr
    split at hp
    · rename_i es c
      split at hp
      · rename_i n ns e1
        have := intsD_eq e1
        subst this
        obtain ⟨a, vs, rfl, _, sv, rv⟩ := hh.list hv c
        have := rv.ints
        subst this
        refine cr_max hc pins s σ H _ us Q I r ⟨a, n :: ns, rfl, .of sv, by simp, fun m hm hge => ?_⟩
        have e2 : m = maxL (n :: ns) := Int.le_antisymm (maxL_ge n ns m hm) (hge _ (maxL_mem n ns))
        rw [e2]
        exact hp.same hh rfl
      · exact hp.elim
    · exact hp.elim
  · obtain ⟨v, r', rfl, hv, hr⟩ := h1
    cases hr
    split at hp
    · rename_i es c
      split at hp
      · rename_i n ns e1
        have := intsD_eq e1
        subst this
        obtain ⟨a, vs, rfl, _, sv, rv⟩ := hh.list hv c
        have := rv.ints
        subst this
        refine cr_min hc pins s σ H _ us Q I r ⟨a, n :: ns, rfl, .of sv, by simp, fun m hm hge => ?_⟩
        have e2 : m = minL (n :: ns) := Int.le_antisymm (hge _ (minL_mem n ns)) (minL_le n ns m hm)
        rw [e2]
        exact hp.same hh rfl
      · exact hp.elim
    · exact hp.elim
  · obtain ⟨v, r', rfl, hv, hr⟩ := h1
    cases hr
    split at hp
    · rename_i es c
      split at hp
      · rename_i ns e1
        have := intsD_eq e1
        subst this
        obtain ⟨a, vs, rfl, _, sv, rv⟩ := hh.list hv c
        have := rv.ints
        subst this
        exact cr_sum hc pins s σ H _ us Q I r ⟨a, ns, rfl, .of sv, hp.same hh rfl⟩
      · exact hp.elim
    · exact hp.elim
  · obtain ⟨v, r', rfl, hv, hr⟩ := h1
    cases hr
    split at hp
    · rename_i es c
      split at hp
      · rename_i ns e1
        have := blsD_eq e1
        subst this
        obtain ⟨a, vs, rfl, _, sv, rv⟩ := hh.list hv c
        have := rv.bls
        subst this
        exact cr_all hc pins s σ H _ us Q I r ⟨a, ns, rfl, .of sv, hp.same hh rfl⟩
      · exact hp.elim
    · exact hp.elim
  · obtain ⟨v, r', rfl, hv, hr⟩ := h1
    cases hr
    split at hp
    · rename_i es c
      split at hp
      · rename_i ns e1
        have := blsD_eq e1
        subst this
        obtain ⟨a, vs, rfl, _, sv, rv⟩ := hh.list hv c
        have := rv.bls
        subst this
        exact cr_any hc pins s σ H _ us Q I r ⟨a, ns, rfl, .of sv, hp.same hh rfl⟩
      · exact hp.elim
    · exact hp.elim
  · -- tuple
    obtain ⟨v, r', rfl, hv, hr⟩ := h1
    cases hr
    split at hp
    · rename_i es c
      obtain ⟨a, vs, rfl, q, rv⟩ := items_of hh hv c
      rw [hK] at q
      refine call_tuple_of pins s σ H _ us Q I r ⟨a, vs, rfl, ?_⟩
      rcases q with q | q
      · exact .inl ⟨q, hp.newT hh rv⟩
      · exact .inr ⟨q, hp.same hh ⟨a, vs, rfl, by rw [hK]; exact q, rv⟩⟩
    · exact hp.elim
  · obtain ⟨v, r', rfl, hv, hr⟩ := h1
    cases hr
    split at hp
    · rename_i es c
      obtain ⟨a, vs, rfl, q, rv⟩ := items_of hh hv c
      rw [hK] at q
      exact call_list_of pins s σ H _ us Q I r ⟨a, vs, rfl, q, hp.newL hh rv⟩
    · exact hp.elim
  · rename_i i
    obtain ⟨v, r', rfl, hv, hr⟩ := h1
    cases hr
    have hv' : v = V.int i := hv
    subst hv'
    exact call_int1 pins s σ H _ us Q I r (.inl ⟨i, rfl, hp.same hh rfl⟩)
  · rename_i i
    obtain ⟨v, r', rfl, hv, hr⟩ := h1
    cases hr
    have hv' : v = V.bl i := hv
    subst hv'
    exact call_int1 pins s σ H _ us Q I r (.inr ⟨i, rfl, hp.same hh rfl⟩)
  · obtain ⟨v, r', rfl, hv, hr⟩ := h1
    cases hr
    split at hp
    · rename_i es c
      split at hp
      · rename_i ns e1
        have := intsD_eq e1
        subst this
        obtain ⟨a, vs, rfl, _, sv, rv⟩ := hh.list hv c
        have := rv.ints
        subst this
        refine cr_sortedI pins s σ H _ us Q I r ⟨a, ns, rfl, .of sv, fun ns' p pm so n => ?_⟩
        have e2 : ns' = sortI ns := sorted_eq (pm.trans (sortI_perm ns).symm) so (sortI_sorted ns)
        rw [e2]
        exact hp.newL hh (RVs.of_ints _) p n
      · exact hp.elim
    · exact hp.elim
  · exact hp.elim

/-! ### isinstance -/
def Ty.name : Ty → String
  | .int => "int" | .bool => "bool" | .str => "str" | .tuple => "tuple" | .list => "list"
def Ty.nm : Ty → Str
  | .int => "int" | .bool => "bool" | .str => "str" | .tuple => "tuple" | .list => "list"
theorem Ty.boot : ∀ T : Ty, bootBuiltins T.nm = some (.type T.name) := by
  intro T
  cases T <;> decide +kernel
theorem kit_tab : ∀ T : Ty, kitB "NoneType" T.name = some false ∧ kitB "bool" T.name = some (decide (T = .bool) || decide (T = .int)) ∧ kitB "int" T.name = some (decide (T = .int)) ∧ kitB "str" T.name = some (decide (T = .str)) ∧
    kitB "tuple" T.name = some (decide (T = .tuple)) ∧ kitB "list" T.name = some (decide (T = .list)) ∧ kitB "dict" T.name = some false := by
  intro T
  cases T <;> decide +kernel
theorem tyx_tup {K : PySem.W.Frag} {H : Hp} {a : Addr} {vs : List V} (h : SqT K H a vs) : TyX K H (.ref a) (.type "tuple") := by
  rcases h with (h | ⟨o, h⟩) | ⟨o, its, n, hk, hc, _⟩
  · exact .base (.tup h)
  · exact .fTuple h
  · exact .kTuple hk hc
theorem tyx_lst {K : PySem.W.Frag} {H : Hp} {a : Addr} {vs : List V} (h : SqL K H a vs) : TyX K H (.ref a) (.type "list") := by
  rcases h with (h | ⟨o, h⟩) | ⟨o, its, n, hk, hc, _⟩
  · exact .base (.lst h)
  · exact .base (.frz h)
  · exact .kList hk hc
theorem isi_of {ρ : List Addr} {H : Hp} {hd : Hd} (hh : RH W ρ H hd) {d : D} {x : V} {T : Ty} {b : Bool} (h : RV W ρ H d x) (e : isiD T d hd = some b) : ∃ t, TyX W.K H x (.type t) ∧ kitB t T.name = some b := by
  obtain ⟨k0, k1, k2, k3, k4, k5, k6⟩ := kit_tab T
  cases d with
  | non =>
    have h' : x = V.non := h
    cases e
    rw [h']; exact ⟨_, .base .non, k0⟩
  | bl z =>
    have h' : x = V.bl z := h
    cases e
    rw [h']; exact ⟨_, .base (.bl z), k1⟩
  | int z =>
    have h' : x = V.int z := h
    cases e
    rw [h']; exact ⟨_, .base (.int z), k2⟩
  | str z =>
    have h' : x = V.str z := h
    cases e
    rw [h']; exact ⟨_, .base (.str z), k3⟩
  | tup ds =>
    cases e
    obtain ⟨a, vs, rfl, s, r⟩ := h
    exact ⟨_, tyx_tup s, k4⟩
  | fro ds =>
    cases e
    obtain ⟨a, vs, rfl, s, r⟩ := h
    exact ⟨_, tyx_lst s.sq, k5⟩
  | loc l =>
    have e' : (match hd[l]? with | some (.lst _) => some (decide (T = .list)) | some (.dk _) => some false | none => none) = some b := e
    split at e'
    · rename_i ds q
      cases e'
      obtain ⟨a, vs, rfl, _, s, r⟩ := hh.list h q
      exact ⟨_, .base (.lst s), k5⟩
    · rename_i kvs q
      cases e'
      obtain ⟨a, vs, rfl, _, s, r⟩ := hh.dict h q
      exact ⟨_, .base (.dK s), k6⟩
    · cases e'
  | _ => cases e

/-! ### items by place -/
theorem ix_D (hK : W.K = X.K) : IxR X (rD W ixD) := by
  intro value slice pins s σ H x y v u Q I rx ry ⟨ρ, hd, d, e, E, hh, h1, h2, hp⟩ hs
  unfold ixD at hp
  split at hp
  · rename_i i
    split at hp
    · rename_i ds c
      split at hp
      · rename_i z ez
        obtain ⟨a, vs, rfl, q, rv⟩ := items_of hh h1 c
        rw [hK] at q
        obtain ⟨z', e1, r1⟩ := atI_of rv ez
        rcases q with q | q
        · exact ix_list value slice pins s σ H _ y v u Q I rx ry ⟨a, vs, i, z', rfl, h2, q, e1, hp.same hh r1⟩ hs
        · exact ix_tup value slice pins s σ H _ y v u Q I rx ry ⟨a, vs, i, z', rfl, h2, q, e1, hp.same hh r1⟩ hs
      · exact hp.elim
    · exact hp.elim
  · exact hp.elim
def rSlD (W : Wd) : V → Option Int → Option Int → Hp → VK → Prop := fun x lo hi H Q => ∃ ρ hd d E, RH W ρ H hd ∧ RV W ρ H d x ∧ Post W ρ H (slD d lo hi hd) Q E
theorem sIx_whole {α : Type} {xs : List α} {lo hi : Option Int} (h : HT.sIx xs.length 0 lo = 0 ∧ HT.sIx xs.length xs.length hi = xs.length) : (xs.drop (HT.sIx xs.length 0 lo)).take (HT.sIx xs.length xs.length hi - HT.sIx xs.length 0 lo) = xs := by
  rw [h.1, h.2]
  simp
theorem sl_D (hK : W.K = X.K) : SlR X (rSlD W) := by
  intro pins s σ H x v vl vu lo hi sl Q I rx hs pl pu ⟨ρ, hd, d, E, hh, h1, hp⟩
  unfold slD at hp
  split at hp
  · rename_i ds
    obtain ⟨a, vs, rfl, q, rv⟩ := h1
    rw [hK] at q
    refine sl_tupA pins s σ H _ v vl vu lo hi sl Q I rx hs pl pu ⟨a, vs, rfl, q, fun w => ?_, fun _ => hp.newT hh (cut_of rv lo hi)⟩
    refine hp.same hh ⟨a, vs, rfl, by rw [hK]; exact q, ?_⟩
    have e : cutD ds lo hi = ds := by
      rw [rv.length] at w
      exact sIx_whole w
    rw [e]
    exact rv
  · rename_i ds
    obtain ⟨a, vs, rfl, q, rv⟩ := h1
    have q' := q.sq
    rw [hK] at q'
    exact sl_list pins s σ H _ v vl vu lo hi sl Q I rx hs pl pu ⟨a, vs, rfl, q', hp.newL hh (cut_of rv lo hi)⟩
  · rename_i l
    split at hp
    · rename_i ds c
      obtain ⟨a, vs, rfl, _, q, rv⟩ := hh.list h1 c
      exact sl_list pins s σ H _ v vl vu lo hi sl Q I rx hs pl pu ⟨a, vs, rfl, .of q, hp.newL hh (cut_of rv lo hi)⟩
    · exact hp.elim
  · exact hp.elim

/-! ### methods of lists -/
def Mt.name : Mt → Str
  | .append => "append" | .extend => "extend" | .pop => "pop" | .get => "get"
def Mt.T : Mt → String
  | .get => "dict" | _ => "list"
def Mt.id : Mt → String
  | .append => "list.append" | .extend => "list.extend" | .pop => "list.pop" | .get => "dict.get"
def rMt (W : Wd) (g : D → List D → M D) : V → List V → Hp → VK → Prop := fun x xs H Q => ∃ ρ hd d ds E, RH W ρ H hd ∧ RV W ρ H d x ∧ RVs W ρ H ds xs ∧ Post W ρ H (g d ds hd) Q E
theorem RVs.dropLast {ρ : List Addr} {H : Hp} {ds : List D} {vs : List V} (r : RVs W ρ H ds vs) : RVs W ρ H ds.dropLast vs.dropLast := by
  rw [List.dropLast_eq_take, List.dropLast_eq_take, r.length]
  exact r.take _
theorem mt_app (hK : W.K = X.K) : MtR X "list.append" (rMt W (mthD .append)) := by
  intro pins s σ H x xs v us Q I rx rxs ⟨ρ, hd, d, ds, E, hh, h1, h2, hp⟩
  unfold mthD at hp
  split at hp
  · rename_i l z
    split at hp
    · rename_i es c
      split at hp
      · rename_i sz
        obtain ⟨a, vs, rfl, ea, q, rv⟩ := hh.list h1 c
        obtain ⟨z', r', rfl, hz, hr⟩ := h2
        cases hr
        refine mt_append pins s σ H _ _ v us Q I rx rxs ⟨a, vs, z', rfl, rfl, q, by rw [rv.length]; exact of_decide_eq_true sz, ?_⟩
        have x1 : Ext ρ H ρ (upd H a (.lst (vs ++ [z']))) := Ext.write q (List.mem_of_getElem? ea) (fun z => z)
        refine hp ρ _ _ x1 (hh.write ea q (fun z => z) ⟨_, upd_same, ?_⟩) rfl
        exact (RVs.ext x1 _ _ rv).append ⟨z', [], rfl, RV.ext x1 _ _ hz, rfl⟩
      · exact hp.elim
    · exact hp.elim
  all_goals first | exact hp.elim | (rename_i e1; cases e1) | skip
  all_goals exact hp.elim
theorem mt_ext (hK : W.K = X.K) : MtR X "list.extend" (rMt W (mthD .extend)) := by
  intro pins s σ H x xs v us Q I rx rxs ⟨ρ, hd, d, ds, E, hh, h1, h2, hp⟩
  unfold mthD at hp
  split at hp
  all_goals first | exact hp.elim | skip
  · rename_i e1; cases e1
  · rename_i l k _
    split at hp
    · rename_i es fs c1 c2
      split at hp
      · rename_i sz
        obtain ⟨a, vs, rfl, ea, q, rv⟩ := hh.list h1 c1
        obtain ⟨z', r', rfl, hz, hr⟩ := h2
        cases hr
        obtain ⟨b, ws, rfl, eb, q2, rv2⟩ := hh.list hz c2
        refine mt_extend pins s σ H _ _ v us Q I rx rxs ⟨a, b, vs, ws, rfl, rfl, q, q2, by rw [rv.length, rv2.length]; exact of_decide_eq_true sz, ?_⟩
        have x1 : Ext ρ H ρ (upd H a (.lst (vs ++ ws))) := Ext.write q (List.mem_of_getElem? ea) (fun z => z)
        refine hp ρ _ _ x1 (hh.write ea q (fun z => z) ⟨_, upd_same, ?_⟩) rfl
        exact (RVs.ext x1 _ _ rv).append (RVs.ext x1 _ _ rv2)
      · exact hp.elim
    · exact hp.elim
  all_goals (rename_i e1; cases e1)
end
end Ev

/-! Ev, part 5: calls. -/
namespace Ev
open PySem PySem.Spec PyProof.Rows L2

theorem mem_uniq {l : Nat} : ∀ {ls : List Nat}, l ∈ uniq ls ↔ l ∈ ls
  | [] => by simp [uniq]
  | k :: r => by
    unfold uniq
    split
    · rename_i h
      rw [mem_uniq (ls := r)]
      constructor
      · exact List.mem_cons_of_mem _
      · intro q
        rcases List.mem_cons.mp q with e | q
        · subst e; exact h
        · exact q
    · rw [List.mem_cons, List.mem_cons, mem_uniq (ls := r)]
theorem nd_uniq : ∀ (ls : List Nat), (uniq ls).Nodup
  | [] => List.nodup_nil
  | k :: r => by
    unfold uniq
    split
    · exact nd_uniq r
    · rename_i h
      exact List.nodup_cons.mpr ⟨fun q => h (mem_uniq.mp q), nd_uniq r⟩
theorem posOf_get {l : Nat} : ∀ {ls : List Nat}, l ∈ ls → ls[posOf l ls]? = some l
  | k :: r, h => by
    unfold posOf
    split
    · rename_i e; subst e; rfl
    · rename_i e
      rcases List.mem_cons.mp h with q | q
      · exact absurd q.symm e
      · simpa using posOf_get q
theorem getAll_len {h : Hd} : ∀ {ls : List Nat} {os : Hd}, getAll h ls = some os → os.length = ls.length
  | [], _, e => by cases e; rfl
  | l :: r, os, e => by
    have e' : (match h[l]?, getAll h r with | some o, some os => some (o :: os) | _, _ => none) = some os := e
    split at e'
    · rename_i o os' e1 e2
      cases e'
      simp [getAll_len e2]
    · cases e'
theorem getAll_get {h : Hd} : ∀ {ls : List Nat} {os : Hd} {i l : Nat}, getAll h ls = some os → ls[i]? = some l → ∃ o, os[i]? = some o ∧ h[l]? = some o
  | [], _, _, _, _, q => by simp at q
  | l :: r, os, i, k, e, q => by
    have e' : (match h[l]?, getAll h r with | some o, some os => some (o :: os) | _, _ => none) = some os := e
    split at e'
    · rename_i o os' e1 e2
      cases e'
      cases i with
      | zero =>
        simp at q; subst q
        exact ⟨o, rfl, e1⟩
      | succ i => exact getAll_get (i := i) e2 (by simpa using q)
    · cases e'
theorem putAll_len : ∀ (ls : List Nat) (h os : Hd), (putAll h ls os).length = h.length
  | [], _, _ => by unfold putAll; rfl
  | _ :: _, _, [] => by unfold putAll; rfl
  | l :: r, h, o :: os => by
    unfold putAll
    rw [putAll_len r]
    simp
theorem putAll_out {j : Nat} : ∀ {ls : List Nat} {h os : Hd}, j ∉ ls → (putAll h ls os)[j]? = h[j]?
  | [], _, _, _ => by unfold putAll; rfl
  | _ :: _, _, [], _ => by unfold putAll; rfl
  | l :: r, h, o :: os, n => by
    have n1 : j ≠ l := fun e => n (by rw [e]; exact List.mem_cons_self)
    unfold putAll
    rw [putAll_out (fun q => n (List.mem_cons_of_mem _ q)), List.getElem?_set_ne (Ne.symm n1)]
theorem putAll_in {j : Nat} : ∀ {ls : List Nat} {h os : Hd} {i : Nat} {o : O}, ls.Nodup → ls[i]? = some j → os[i]? = some o → j < h.length → (putAll h ls os)[j]? = some o
  | [], _, _, _, _, _, q, _, _ => by simp at q
  | _ :: _, _, [], _, _, _, _, q, _ => by simp at q
  | l :: r, h, o' :: os, i, o, nd, q, q2, hj => by
    unfold putAll
    obtain ⟨n1, n2⟩ := List.nodup_cons.mp nd
    cases i with
    | zero =>
      simp at q q2
      subst q q2
      rw [putAll_out n1, List.getElem?_set_self hj]
    | succ i => exact putAll_in (i := i) n2 (by simpa using q) (by simpa using q2) (by simpa using hj)

/-- a def's promise, over data -/
def spOf (W : Wd) (np : Nat) (f : List D → Hd → R D) : Sp := fun vs H Q E => ∃ ρ ds os, ds.length = np ∧ RVs W ρ H ds vs ∧ RH W ρ H os ∧ Post W ρ H (f ds os) Q E
theorem mls_length (f : Nat → Nat) : ∀ ds : List D, (D.mls f ds).length = ds.length
  | [] => rfl
  | d :: ds => by
    show (D.mls f ds).length + 1 = ds.length + 1
    rw [mls_length f ds]
theorem get_map_getD {ρ : List Addr} {ls : List Nat} {i l : Nat} {a : Addr} (h1 : ls[i]? = some l) (h2 : ρ[l]? = some a) : (ls.map fun l => ρ.getD l 0)[i]? = some a := by
  rw [List.getElem?_map, h1, Option.map_some, List.getD_eq_getElem?_getD, h2]
  rfl
theorem callD_sp {W : Wd} {ρ : List Addr} {H : Hp} {hd : Hd} {f : List D → Hd → R D} {as : List D} {vs : List V} {np : Nat} {Q : VK} {E : XK} (hx : W.xa = none) (hl : as.length = np) (hh : RH W ρ H hd) (hr : RVs W ρ H as vs)
    (hp : Post W ρ H (callD f as hd) Q E) : spOf W np f vs H Q E := by
  unfold callD at hp
  simp only at hp
  split at hp
  case isFalse => exact hp.elim
  rename_i nox
  split at hp
  case h_2 => exact hp.elim
  rename_i os eo
  split at hp
  case isFalse => exact hp.elim
  rename_i fl
  generalize hls : uniq (D.lss as) = ls at *
  have nd : ls.Nodup := by rw [← hls]; exact nd_uniq _
  have hol : os.length = ls.length := getAll_len eo
  have fl' : ∀ o ∈ os, o.flat = true := List.all_eq_true.mp fl
  -- the callee's places
  generalize hρs : (ls.map fun l => ρ.getD l 0) = ρs
  have lt : ∀ {i l : Nat}, ls[i]? = some l → l < ρ.length := fun {i l} e => by
    obtain ⟨o, _, e2⟩ := getAll_get eo e
    rw [hh.len]
    exact (List.getElem?_eq_some_iff.mp e2).1
  have atS : ∀ {i l : Nat} {a : Addr}, ls[i]? = some l → ρ[l]? = some a → ρs[i]? = some a := fun e1 e2 => by rw [← hρs]; exact get_map_getD e1 e2
  have lenS : ρs.length = ls.length := by rw [← hρs]; simp
  have ofS : ∀ {i : Nat} {a : Addr}, ρs[i]? = some a → ∃ l, ls[i]? = some l ∧ ρ[l]? = some a := fun {i a} e => by
    have hi : i < ls.length := by rw [← lenS]; exact (List.getElem?_eq_some_iff.mp e).1
    have e1 : ls[i]? = some ls[i] := List.getElem?_eq_getElem hi
    have e2 : ρ[ls[i]]? = some (ρ[ls[i]]'(lt e1)) := List.getElem?_eq_getElem (lt e1)
    have e3 := atS e1 e2
    rw [e] at e3
    cases e3
    exact ⟨_, e1, e2⟩
  have subS : ∀ a ∈ ρs, a ∈ ρ := fun a ha => by
    obtain ⟨i, hi, e⟩ := List.mem_iff_getElem.mp ha
    obtain ⟨l, _, e2⟩ := ofS (i := i) (a := a) (by rw [List.getElem?_eq_getElem hi, e])
    exact List.mem_of_getElem? e2
  have injρ : ∀ {i j : Nat} {a : Addr}, ρ[i]? = some a → ρ[j]? = some a → i = j := fun {i j a} e1 e2 => by
    obtain ⟨h1, z1⟩ := List.getElem?_eq_some_iff.mp e1
    obtain ⟨h2, z2⟩ := List.getElem?_eq_some_iff.mp e2
    exact (List.getElem_inj hh.nd).mp (z1.trans z2.symm)
  have injL : ∀ {i j l : Nat}, ls[i]? = some l → ls[j]? = some l → i = j := fun {i j l} e1 e2 => by
    obtain ⟨h1, z1⟩ := List.getElem?_eq_some_iff.mp e1
    obtain ⟨h2, z2⟩ := List.getElem?_eq_some_iff.mp e2
    exact (List.getElem_inj nd).mp (z1.trans z2.symm)
  have ndS : ρs.Nodup := by
    refine List.pairwise_iff_getElem.mpr fun i j hi hj hij e => ?_
    have ej : ρs[j]? = some ρs[j] := List.getElem?_eq_getElem hj
    have ei : ρs[i]? = some ρs[j] := by rw [List.getElem?_eq_getElem hi, e]
    obtain ⟨l, e1, e2⟩ := ofS ej
    obtain ⟨l', e3, e4⟩ := ofS ei
    have := injρ e2 e4
    subst this
    have := injL e1 e3
    omega
  have hrS : RVs W ρs H (D.mls (fun l => posOf l ls) as) vs := RVs.ren rfl rfl as vs nox (fun l hl' a e => atS (posOf_get (by rw [← hls]; exact mem_uniq.mpr hl')) e) hr
  have hhS : RH W ρs H os := ⟨by rw [lenS, hol], ndS, fun i a o e1 e2 => by
    obtain ⟨l, e3, e4⟩ := ofS e1
    obtain ⟨o', e5, e6⟩ := getAll_get eo e3
    rw [e2] at e5
    cases e5
    exact RO.flat rfl rfl (fl' o (List.mem_of_getElem? e2)) (hh.ob l a o e4 e6)⟩
  refine ⟨ρs, _, os, by rw [mls_length]; exact hl, hrS, hhS, ?_⟩
  -- the way back
  have back : ∀ {ρ2 : List Addr} {H2 : Hp} {os' : Hd}, Ext ρs H ρ2 H2 → RH W ρ2 H2 os' → os'.all O.flat = true → ls.length ≤ os'.length →
      ∃ ρ3, Ext ρ H ρ3 H2 ∧ RH W ρ3 H2 (backH hd ls os') ∧ (∀ (l : Nat) (a : Addr), ρ2[l]? = some a → ρ3[backL ls hd.length l]? = some a) ∧ (os'.length = ls.length → ρ3 = ρ) := by
    intro ρ2 H2 os' x h2 flo hle
    obtain ⟨⟨s, e2, ns⟩, keep, there⟩ := id x
    subst e2
    have sd : ∀ a ∈ s, a ∉ ρ := fun a ha hr' => by
      obtain ⟨i, hi, e⟩ := List.mem_iff_getElem.mp hr'
      have e1 : ρ[i]? = some a := by rw [List.getElem?_eq_getElem hi, e]
      have hi2 : i < hd.length := by rw [← hh.len]; exact hi
      obtain ⟨u, hu, _⟩ := (hh.ob i a hd[i] e1 (List.getElem?_eq_getElem hi2)).there
      rw [ns a ha] at hu; cases hu
    have lens : s.length + ls.length = os'.length := by
      have := h2.len
      rw [List.length_append, lenS] at this
      omega
    have x3 : Ext ρ H (ρ ++ s) H2 := ⟨⟨s, rfl, ns⟩, fun a o e c => keep a o e (by
      rcases c with c | c
      · exact .inl fun z => c (subS a z)
      · exact .inr c), there⟩
    have flo' : ∀ o ∈ os', o.flat = true := List.all_eq_true.mp flo
    have ndo := h2.nd
    rw [List.nodup_append] at ndo
    have atB : ∀ (l : Nat) (a : Addr), (ρs ++ s)[l]? = some a → (ρ ++ s)[backL ls hd.length l]? = some a := fun l a e => by
      unfold backL
      by_cases hl' : l < ls.length
      · rw [List.getElem?_append_left (by rw [lenS]; exact hl')] at e
        obtain ⟨k, e3, e4⟩ := ofS e
        rw [e3]
        show (ρ ++ s)[k]? = some a
        rw [List.getElem?_append_left (List.getElem?_eq_some_iff.mp e4).1]
        exact e4
      · rw [List.getElem?_append_right (by rw [lenS]; omega), lenS] at e
        have e9 : ls[l]? = none := List.getElem?_eq_none (by omega)
        rw [e9]
        show (ρ ++ s)[hd.length + (l - ls.length)]? = some a
        rw [← hh.len, List.getElem?_append_right (by omega)]
        rw [show ρ.length + (l - ls.length) - ρ.length = l - ls.length by omega]
        exact e
    refine ⟨ρ ++ s, x3, ⟨?_, ?_, fun j a o e1 e3 => ?_⟩, atB, fun z => ?_⟩
    · unfold backH
      rw [List.length_append, List.length_append, putAll_len, List.length_drop, hh.len]
      omega
    · rw [List.nodup_append]
      exact ⟨hh.nd, ndo.2.1, fun a ha b hb e => sd b hb (e ▸ ha)⟩
    · unfold backH at e3
      by_cases hj : j < ρ.length
      · rw [List.getElem?_append_left hj] at e1
        rw [List.getElem?_append_left (by rw [putAll_len, ← hh.len]; exact hj)] at e3
        by_cases hm : j ∈ ls
        · obtain ⟨i, hi, ei⟩ := List.mem_iff_getElem.mp hm
          have ei' : ls[i]? = some j := by rw [List.getElem?_eq_getElem hi, ei]
          have hi2 : i < os'.length := by omega
          have e4 := putAll_in nd ei' (List.getElem?_eq_getElem hi2) (by rw [← hh.len]; exact hj) (h := hd)
          rw [e3] at e4
          cases e4
          have e5 : (ρs ++ s)[i]? = some a := by
            rw [List.getElem?_append_left (by rw [lenS]; exact hi)]
            exact atS ei' e1
          exact RO.flat rfl rfl (flo' _ (List.getElem_mem hi2)) (h2.ob i a _ e5 (List.getElem?_eq_getElem hi2))
        · rw [putAll_out hm] at e3
          have r0 := hh.ob j a o e1 e3
          obtain ⟨u, hu, _⟩ := r0.there
          have na : a ∉ ρs := fun z => by
            obtain ⟨i, hi, ei⟩ := List.mem_iff_getElem.mp z
            obtain ⟨l, e5, e6⟩ := ofS (i := i) (a := a) (by rw [List.getElem?_eq_getElem hi, ei])
            have := injρ e1 e6
            subst this
            exact hm (List.mem_of_getElem? e5)
          exact RO.ext0 (fun l b e => x3.at e) x3.kp ((keep a u hu (.inl na)).trans hu.symm) r0
      · rw [List.getElem?_append_right (by omega)] at e1
        rw [List.getElem?_append_right (by rw [putAll_len, ← hh.len]; omega), putAll_len, List.getElem?_drop, ← hh.len] at e3
        have hk : ls.length + (j - ρ.length) < os'.length := (List.getElem?_eq_some_iff.mp e3).1
        have e5 : (ρs ++ s)[ls.length + (j - ρ.length)]? = some a := by
          rw [List.getElem?_append_right (by rw [lenS]; omega), lenS]
          rw [show ls.length + (j - ρ.length) - ls.length = j - ρ.length by omega]
          exact e1
        exact RO.flat rfl rfl (flo' _ (List.mem_of_getElem? e3)) (h2.ob _ a o e5 e3)
    · have : s = [] := List.eq_nil_of_length_eq_zero (by omega)
      rw [this, List.append_nil]
  split at hp
  · rename_i d os' er
    split at hp
    case isFalse => exact hp.elim
    rename_i c
    simp only [Bool.and_eq_true, decide_eq_true_eq] at c
    obtain ⟨c1, c2, c3⟩ := c
    rw [er]
    intro ρ2 H2 v x h2 rv
    obtain ⟨ρ3, x3, h3, atB, _⟩ := back x h2 c1 c2
    exact hp ρ3 H2 v x3 h3 (RV.ren rfl rfl d v c3 (fun l _ a e => atB l a e) rv)
  · rename_i e os' er
    split at hp
    case isFalse => exact hp.elim
    rename_i c
    simp only [Bool.and_eq_true, decide_eq_true_eq] at c
    obtain ⟨c1, c2, c3⟩ := c
    rw [er]
    intro ρ2 H2 cls dd x h2 rx
    obtain ⟨ρ3, x3, h3, atB, _⟩ := back x h2 c1 (by omega)
    refine hp ρ3 H2 cls dd x3 h3 ?_
    obtain ⟨C, g1, g2, g3⟩ := rx
    refine ⟨C, g1, g2, ?_⟩
    obtain ⟨cl, fld⟩ := e
    cases fld with
    | none => exact g3
    | some p =>
      obtain ⟨g, d⟩ := p
      have c3 : d.flat = true := c3
      obtain ⟨a, v, z1, z2, z3⟩ := g3
      exact ⟨a, v, z1, z2, RV.flat rfl rfl d v c3 z3⟩
  · exact hp.elim
end Ev

/-! Ev, part 6: the checker; targets; what is walked. -/
namespace Ev
open PySem PySem.Spec PyProof.Rows L2

/-! ### the checker: the kit's tree is told by ours -/
structure Cc where
  N : List Str
  sc : Scope
  calm : Bool
  fnok : Str → Bool
  free : Str → Bool
inductive Src where
  | e (e : Expr) | l (es : List Expr) | o (e : Option Expr) | it (e : Expr)
def visB (sc : Scope) (x : Str) : Bool := match sc.names.lookup x with
  | some .local => true
  | some .cell => true
  | some .free => true
  | _ => false
def notDbg (x : Str) : Bool := !(x == ("__debug__" : Str)) && !(x == ("__classdict__" : Str))
def gloB (sc : Scope) (x : Str) : Bool := decide (sc.names.lookup x = some .globalImplicit) && !(x == ("__debug__" : Str))
def bltB (c : Cc) (x : Str) : Bool := gloB c.sc x && (c.free x && decide (x ≠ ("__name__" : Str)))
def notStar : Expr → Bool
  | .Starred _ _ => false
  | _ => true
def plainIxB : Expr → Bool
  | .Slice _ _ none _ => false
  | _ => true
def plainT : Expr → Bool
  | .UnaryOp .Not _ _ => false
  | .BoolOp _ _ _ => false
  | .IfExp _ _ _ _ => false
  | .Compare _ _ _ _ => false
  | _ => true
def notSet : Expr → Bool
  | .Set _ _ _ => false
  | _ => true
def stoB (c : Cc) (x : Str) : Bool := match c.sc.names.lookup x with
  | some .local => true
  | some .cell => c.fnok x
  | _ => false
/-- targets -/
def chkT (c : Cc) : Expr ⊕ List Expr → Tg → Bool
  | .inl (.Name x _), .n i => decide (c.N[i]? = some x) && stoB c x
  | .inl (.Tuple es _ _), .t r => c.calm && chkT c (.inr es) r
  | .inr [], .nil => true
  | .inr (e :: es), .cons a r => notStar e && (chkT c (.inl e) a && chkT c (.inr es) r)
  | _, _ => false
/-- the own names of a comprehension's block -/
def ownOf (N : List Str) (scope : Scope) : List (Str × Nat) := scope.names.filterMap fun (n, k) => if k = .local ∨ k = .cell then (N.idxOf? n).map fun i => (n, i) else none
def Cc.blk (c : Cc) (scope : Scope) : Cc := { c with sc := relS scope c.sc, fnok := fun x => scope.names.lookup x == some .cell }
def isYes : Ex → Bool
  | .bl true => true
  | _ => false
def chk (c : Cc) : Src → Ex → Bool
  | .e (.Name x _), .var i => decide (c.N[i]? = some x) && (visB c.sc x && notDbg x)
  | .e (.Constant (.int i) _ _), .int j => decide (i = j)
  | .e (.Constant (.bool i) _ _), .bl j => decide (i = j)
  | .e (.Constant .none _ _), .non => true
  | .e (.Constant (.str i) _ _), .str j => decide (i = j)
  | .e (.Name x _), .glo y => decide (x = y) && gloB c.sc x
  | .e (.BinOp a o b _), .bin o' a' b' => decide (o = o') && (chk c (.e a) a' && chk c (.e b) b')
  | .e (.UnaryOp .USub a _), .neg a' => chk c (.e a) a'
  | .e (.Compare a [o] [b] _), .cmp o' a' b' => decide (o = o') && (!behindInMarks o b && (chk c (.e a) a' && chk c (.e b) b'))
  | .e (.Compare a [o1, o2] [b, d] _), .chn o1' o2' a' b' d' => decide (o1 = o1') && (decide (o2 = o2') && (!lastMarks [o1, o2] [b, d] && (chk c (.e a) a' && (chk c (.e b) b' && chk c (.e d) d'))))
  | .e (.BoolOp .And (a :: b :: rest) p), .and_ a' r' => chk c (.e a) a' && (match rest with
    | [] => chk c (.e b) r'
    | _ :: _ => chk c (.e (.BoolOp .And (b :: rest) p)) r')
  | .e (.BoolOp .Or (a :: b :: rest) p), .or_ a' r' => chk c (.e a) a' && (match rest with
    | [] => chk c (.e b) r'
    | _ :: _ => chk c (.e (.BoolOp .Or (b :: rest) p)) r')
  | .e (.UnaryOp .Not a _), .not_ a' => chk c (.e a) a'
  | .e (.IfExp q a b _), .ifx q' a' b' => chk c (.e q) q' && (chk c (.e a) a' && chk c (.e b) b')
  | .l [], .nil => true
  | .l (e :: es), .cons a r => notStar e && (chk c (.e e) a && chk c (.l es) r)
  | .e (.Tuple es _ _), .tup r => chk c (.l es) r
  | .e (.List es _), .lst r => chk c (.l es) r
  | .e (.List es _), .lfr r => chk c (.l es) r
  | .e (.Call (.Name x _) es [] _), .call y n r => decide (x = y) && (decide (es.length = n) && (c.calm && (gloB c.sc x && chk c (.l es) r)))
  | .e (.Call (.Name x _) es [] _), .clv i n r => decide (c.N[i]? = some x) && (decide (es.length = n) && (c.calm && (visB c.sc x && (notDbg x && chk c (.l es) r))))
  | .e (.Call (.Name x _) (e :: es) [] _), .bi b r => decide (x = b.name) && (c.calm && (bltB c x && chk c (.l (e :: es)) r))
  | .e (.Call (.Name x _) [a, .Name y _] [] _), .isi T a' => decide (x = "isinstance") && (decide (y = T.nm) && (bltB c x && (bltB c y && (notStar a && chk c (.e a) a'))))
  | .e (.Subscript a i _), .ix a' i' => plainIxB i && (chk c (.e a) a' && chk c (.e i) i')
  | .e (.Subscript a (.Slice lo hi none _) _), .sl a' lo' hi' => chk c (.e a) a' && (chk c (.o lo) lo' && chk c (.o hi) hi')
  | .o none, .non => true
  | .o (some e), .pt a => chk c (.e e) a
  | .it e, .itS a => notSet e && chk c (.e e) a
  | .it (.Call (.Name x _) es [] _), .itR r => decide (x = "range") && (bltB c x && ((decide (es.length = 1) || decide (es.length = 2)) && chk c (.l es) r))
  | .e (.ListComp elt [⟨tg, iter, ifs, a⟩] scope _), .lc vs tg' it' cond' elt' => decide (a = 0) && (c.calm && (blkC c.N c.sc scope (ownOf c.N scope) && (decide (vs = (ownOf c.N scope).map (·.2)) && (tg'.ix.all (fun i => decide (i ∈ vs)) && (notSet iter && (chk c (.it iter) it' &&
      (chkT (c.blk scope) (.inl tg) tg' && ((match ifs with
        | [] => isYes cond'
        | [q] => chk (c.blk scope) (.e q) cond'
        | _ => false) && chk (c.blk scope) (.e elt) elt'))))))))
  | .e (.ListComp elt [⟨tg, iter, ifs, a⟩, ⟨tg1, iter1, ifs1, a1⟩] scope _), .lc2 vs vs1 tg' it' cond' tg1' it1' cond1' elt' => decide (a = 0) && (decide (a1 = 0) && (c.calm && (blkC c.N c.sc scope (ownOf c.N scope) && (decide (vs = (ownOf c.N scope).map (·.2)) &&
      (vs1.all (fun i => decide (i ∈ vs)) && (tg'.ix.all (fun i => decide (i ∈ vs)) && (tg1'.ix.all (fun i => decide (i ∈ vs1)) && (notSet iter && (notSet iter1 && (chk c (.it iter) it' && (chkT (c.blk scope) (.inl tg) tg' && ((match ifs with
        | [] => isYes cond'
        | [q] => chk (c.blk scope) (.e q) cond'
        | _ => false) && (chk (c.blk scope) (.it iter1) it1' && (chkT (c.blk scope) (.inl tg1) tg1' && ((match ifs1 with
        | [] => isYes cond1'
        | [q] => chk (c.blk scope) (.e q) cond1'
        | _ => false) && chk (c.blk scope) (.e elt) elt')))))))))))))))
  | .e (.Call (.Attribute (.Name o po) x apos) [e] [] cpos), .mth m o' r => decide (x = m.name) && ((match m with
      | .append => true
      | .extend => true
      | _ => false) && (decide (apos.endLine = cpos.line) && (notStar e && (chk c (.e (.Name o po)) o' && chk c (.l [e]) r))))
  | .e (.Attribute (.Name o po) f _), .att a' g => decide (f = g) && (!c.calm && chk c (.e (.Name o po)) a')
  | _, _ => false

/-! ### what the context must say -/
/-- the def that the name x holds keeps what t says of x -/
def FnHeld (t : Rt) (P : Program) (w : World) (K : PySem.W.Frag) (mg : Str → Option Value) (base : Heap) (k : Nat) (x : Str) : Prop :=
  ∃ (f : Addr) (fd : FuncData) (ps : List Str), mg x = some (.ref f) ∧ PySem.W.keepIn K (.ref f) = true ∧ FnOk P w K mg base (L2.CX P w) k f fd ps (spOf ⟨K, mg, none⟩ ps.length (t.orc x)) ∧
    ∀ n, t.ar x n = true → n + (t.dfl x n).length = ps.length ∧ D.noxs (t.dfl x n) = true ∧ ∃ ds dvs, Binds K fd ps ds ∧ Vals dvs ds ∧ ∀ ρ H, RVs ⟨K, mg, none⟩ ρ H (t.dfl x n) dvs
/-- an exception class -/
structure XcOk (K : PySem.W.Frag) (C : Addr) (g : Str) : Prop where
  xf : XfC K C
  no : PySem.W.findIn K (.ref C) g = some none
/-- what the __init__ of a class does that holds its argument in the field g -/
def spI (C : Addr) (g : Str) : Sp := fun vs H Q _ => ∃ a y, vs = [.ref a, y] ∧ H a = some (exo a C none) ∧ ∀ dx, H dx = none → dx ≠ a → Q .non (upd (upd H dx (exd dx [(g, y)])) a (exo a C (some dx)))
/-- how an exception of the class x is made -/
def RaiOk (X : Cx) (x : Str) : Option Str → Prop
  | none => ∃ (C : Addr) (B newId initId : String) (bmB : List Value), X.mg x = some (.ref C) ∧ PySem.ExcBaseFacts B newId initId bmB ∧ PySem.W.excIn X.K C bmB newId = true ∧ PySem.W.keepIn X.K (.ref C) = true ∧ Raises X (.ref C)
  | some g => ∃ (C fI : Addr) (k : Nat) (fd : FuncData) (ps : List Str), X.mg x = some (.ref C) ∧ OexC X.K C ∧ PySem.W.findIn X.K (.ref C) "__init__" = some (some (.ref fI)) ∧ PySem.W.typeIn X.K (.ref fI) = some (.type "function") ∧
      FnOk X.prog X.w X.K X.mg X.base (L2.CX X.prog X.w) k fI fd ps (spI C g) ∧ Room (k + 1) X.A ∧ Binds X.K fd ps []
structure CtxOk (t : Rt) (c : Cc) (X : Cx) (W : Wd) (Wx : WX) : Prop where
  N : X.N = c.N
  nd : c.N.Nodup
  sc : X.env.scope = c.sc
  K : W.K = X.K
  mg : W.mg = X.mg
  calm : X.calm = c.calm
  xa : c.calm = true → W.xa = none
  tk : Takes X Wx
  units : X.A.units + 64 < cLine
  room : c.calm = true → ∃ k, Room k X.A ∧ ∀ x n, t.ar x n = true → FnHeld t X.prog X.w X.K X.mg X.base k x
  fn : ∀ x, c.fnok x = true → X.fn x = true
  free : ∀ x, c.free x = true → X.mg x = none
  glob : ∀ x d, t.glob x = some d → ∃ u v, X.mg x = some u ∧ RelV v u ∧ ∀ ρ H, RV W ρ H d v
  suite : ∀ a C dd, W.xa = some (a, C, dd) → ∃ (Y : Cx) (oe : Obj) (pn : List (Addr × Obj)), X = Y.suite a ((a, oe) :: pn) ∧ Zc (.ref C) (some dd) oe ∧ ∃ vs, oe.data = .fields vs
  xc : ∀ x g C, t.exf x = some (some g) → X.mg x = some (.ref C) → XcOk X.K C g
  rx : c.calm = true → ∀ x g, t.exf x = some g → RaiOk X x g
  isa : ∀ x y b, t.isa x y = some b → ∃ C u, X.mg x = some (.ref C) ∧ X.mg y = some u ∧ PySem.W.exmOne X.K (.ref C) u = some b
section
variable {t : Rt} {c : Cc} {X : Cx} {W : Wd} {Wx : WX}
theorem CtxOk.w0 (k : CtxOk t c X W Wx) (h : c.calm = true) : W = ⟨X.K, X.mg, none⟩ := by
  obtain ⟨K, mg, xa⟩ := W
  have h1 := k.K
  have h2 := k.mg
  have h3 := k.xa h
  simp only at h1 h2 h3
  subst h1 h2 h3
  rfl
theorem vis_ok (k : CtxOk t c X W Wx) {x : Str} (h : visB c.sc x = true) : Vis X.env.scope x := by
  rw [k.sc]
  unfold visB at h
  unfold Vis
  split at h
  · exact .inl (by assumption)
  · exact .inr (.inl (by assumption))
  · exact .inr (.inr (by assumption))
  · cases h
theorem notDbg_ok {x : Str} (h : notDbg x = true) : (x == ("__debug__" : Str)) = false ∧ (x == ("__classdict__" : Str)) = false := by
  unfold notDbg at h
  simpa using h
theorem glo_ok' (k : CtxOk t c X W Wx) {x : Str} (h : gloB c.sc x = true) : Gl X x ∧ (x == ("__debug__" : Str)) = false := by
  unfold gloB at h
  obtain ⟨h1, h2⟩ := Bool.and_eq_true_iff.mp h
  refine ⟨?_, by simpa using h2⟩
  show X.env.scope.names.lookup x = some .globalImplicit
  rw [k.sc]
  exact of_decide_eq_true h1
theorem blt_ok (k : CtxOk t c X W Wx) {x : Str} (h : bltB c x = true) : Gl X x ∧ (x == ("__debug__" : Str)) = false ∧ X.mg x = none ∧ x ≠ "__name__" := by
  unfold bltB at h
  obtain ⟨h1, h2⟩ := Bool.and_eq_true_iff.mp h
  obtain ⟨h3, h4⟩ := Bool.and_eq_true_iff.mp h2
  obtain ⟨g1, g2⟩ := glo_ok' k h1
  exact ⟨g1, g2, k.free x h3, of_decide_eq_true h4⟩
theorem sto_ok (k : CtxOk t c X W Wx) {x : Str} (h : stoB c x = true) : L2.Loc X.env.scope x ∧ (X.fn x = true ∨ X.env.scope.names.lookup x = some .local) := by
  rw [k.sc]
  unfold stoB at h
  unfold L2.Loc
  split at h
  · rename_i e
    exact ⟨.inl e, .inr e⟩
  · rename_i e
    exact ⟨.inr e, .inl (k.fn x h)⟩
  · cases h
theorem star_one {e : Expr} {es : List Expr} {env : Env} (h : notStar e = true) : starEach (e :: es) env = (false, eval e env) :: starEach es env := by
  cases e <;> first | rfl | cases h
theorem star_none : ∀ {es : List Expr} {ex : Ex} {env : Env} {pos : Pos}, chk c (.l es) ex = true → (backTo pos (starEach es env)).any (·.1) = false
  | [], _, _, _, _ => rfl
  | e :: es, ex, env, pos, h => by
    cases ex with
    | cons a r =>
      obtain ⟨h1, h2⟩ := Bool.and_eq_true_iff.mp (show (notStar e && (chk c (.e e) a && chk c (.l es) r)) = true from h)
      obtain ⟨h3, h4⟩ := Bool.and_eq_true_iff.mp h2
      rw [star_one h1]
      show (false || (backTo pos (starEach es env)).any (·.1)) = false
      rw [star_none h4] <;> rfl
    | _ => cases h
theorem folded_ok {e : Expr} {env : Env} (h : notSet e = true) : ∀ x, foldedSetIterable e env x = pure x := by
  intro x
  cases e <;> first | rfl | cases h
theorem plainIx_ok {e : Expr} (h : plainIxB e = true) : PlainIx e := by
  intro o i
  cases e with
  | Slice lo hi st p =>
    cases st with
    | none => cases h
    | some s => rfl
  | _ => rfl
theorem plainT_ok {e : Expr} {env : Env} (h : plainT e = true) : ∀ whole, isTrue e env whole = (do let v ← whole; standAt e.pos; holding [v] (truthy v)) := by
  intro whole
  cases e with
  | UnaryOp op a p => cases op <;> first | rfl | cases h
  | BoolOp => cases h
  | IfExp => cases h
  | Compare => cases h
  | _ => rfl

/-! ### targets -/
/-- all slots but these are as they were -/
def Out (ix : List Nat) (σ σ' : St) : Prop := σ'.length = σ.length ∧ ∀ i, i ∉ ix → σ'[i]? = σ[i]?
theorem Out.refl (σ : St) : Out [] σ σ := ⟨rfl, fun _ _ => rfl⟩
theorem Out.trans {a b : List Nat} {σ σ1 σ2 : St} (h : Out a σ σ1) (h' : Out b σ1 σ2) : Out (a ++ b) σ σ2 :=
  ⟨h'.1.trans h.1, fun i hi => (h'.2 i fun z => hi (List.mem_append_right _ z)).trans (h.2 i fun z => hi (List.mem_append_left _ z))⟩
theorem wipe_get {σ : St} {i : Nat} : ∀ {vs : List Nat}, (L2.wipe σ vs)[i]? = if i ∈ vs ∧ i < σ.length then some none else σ[i]?
  | [] => by simp [L2.wipe]
  | v :: vs => by
    unfold L2.wipe
    by_cases hi : v = i
    · subst hi
      by_cases hl : v < σ.length
      · rw [List.getElem?_set_self (by rw [L2.wipe_length]; exact hl), if_pos ⟨List.mem_cons_self, hl⟩]
      · rw [List.getElem?_eq_none (by simpa [L2.wipe_length] using hl), if_neg (fun z => hl z.2), List.getElem?_eq_none (by omega)]
    · rw [List.getElem?_set_ne hi, wipe_get (vs := vs)]
      have : (i ∈ v :: vs) = (i ∈ vs) := by
        rw [List.mem_cons]
        simp [Ne.symm hi]
      simp only [this]
theorem wipe_out {σ σ2 : St} {ix vs : List Nat} (h : Out ix (L2.wipe σ vs) σ2) (hi : ∀ i ∈ ix, i ∈ vs) : L2.wipe σ2 vs = L2.wipe σ vs := by
  apply List.ext_getElem?
  intro i
  have hl : σ2.length = σ.length := h.1.trans (L2.wipe_length _ _)
  rw [wipe_get, wipe_get, hl]
  by_cases c : i ∈ vs ∧ i < σ.length
  · rw [if_pos c, if_pos c]
  · rw [if_neg c, if_neg c]
    by_cases hv : i ∈ vs
    · have : ¬ i < σ.length := fun z => c ⟨hv, z⟩
      rw [List.getElem?_eq_none (by omega), List.getElem?_eq_none (by omega)]
    · rw [h.2 i fun z => hv (hi i z), wipe_get, if_neg c]
def gD (W : Wd) (tg : Tg) : TG := fun v σ H Q => ∃ ρ σd hd d σd', RS W ρ H σd σ ∧ RH W ρ H hd ∧ RV W ρ H d v ∧ bindT tg d hd σd = some σd' ∧ ∀ σ', RS W ρ H σd' σ' → Out tg.ix σ σ' → Q σ' H
def gDs (W : Wd) (tg : Tg) : TGs := fun vs σ H Q => ∃ ρ σd hd ds σd', RS W ρ H σd σ ∧ RH W ρ H hd ∧ RVs W ρ H ds vs ∧ bindTs tg ds hd σd = some σd' ∧ ∀ σ', RS W ρ H σd' σ' → Out tg.ix σ σ' → Q σ' H
theorem PG.weak {e : Expr} {g g' : TG} (h : PG X e g) (k : ∀ v σ H Q, g' v σ H Q → g v σ H Q) : PG X e g' := ⟨fun pins s σ H v u Q I r hw => h.run pins s σ H v u Q I r (k v σ H Q hw)⟩
theorem PGs.weak {e : List Expr} {g g' : TGs} (h : PGs X e g) (k : ∀ v σ H Q, g' v σ H Q → g v σ H Q) : PGs X e g' := ⟨fun pins s σ H v u Q I r hw => h.run pins s σ H v u Q I r (k v σ H Q hw)⟩
theorem PG.or {e : Expr} {g g' : TG} (h : PG X e g) (h' : PG X e g') : PG X e (fun v σ H Q => g v σ H Q ∨ g' v σ H Q) := ⟨fun pins s σ H v u Q I r hw => by
  rcases hw with hw | hw
  · exact h.run pins s σ H v u Q I r hw
  · exact h'.run pins s σ H v u Q I r hw⟩
theorem assignEach_len {env : Env} : ∀ es : List Expr, (assignEach es env).length = es.length
  | [] => rfl
  | e :: es => by
    have ih := assignEach_len (env := env) es
    cases e <;> (show (assignEach es env).length + 1 = es.length + 1; rw [ih])
theorem assign_one {e : Expr} {es : List Expr} {env : Env} (h : notStar e = true) : assignEach (e :: es) env = (false, assign e env) :: assignEach es env := by
  cases e <;> first | rfl | cases h
theorem assign_nostar {env : Env} : ∀ {es : List Expr} {tg : Tg}, chkT c (.inr es) tg = true → (assignEach es env).findIdx? (·.1) = none
  | [], _, _ => rfl
  | e :: es, tg, h => by
    cases tg with
    | cons a r =>
      obtain ⟨h1, h2⟩ := Bool.and_eq_true_iff.mp (show (notStar e && (chkT c (.inl e) a && chkT c (.inr es) r)) = true from h)
      obtain ⟨h3, h4⟩ := Bool.and_eq_true_iff.mp h2
      rw [assign_one h1, List.findIdx?_cons]
      rw [if_neg (by simp), assign_nostar h4]
      rfl
    | _ => cases h
theorem bindTs_len : ∀ {tg : Tg} {es : List Expr} {ds : List D} {h : Hd} {σ σ' : En}, chkT c (.inr es) tg = true → bindTs tg ds h σ = some σ' → ds.length = es.length
  | .nil, [], [], _, _, _, _, _ => rfl
  | .nil, [], _ :: _, _, _, _, _, e => nomatch e
  | .nil, _ :: _, _, _, _, _, q, _ => nomatch q
  | .cons a r, [], _, _, _, _, q, _ => nomatch q
  | .cons a r, _ :: _, [], _, _, _, _, e => nomatch e
  | .cons a r, e :: es, d :: ds, h, σ, σ', q, b => by
    obtain ⟨h1, h2⟩ := Bool.and_eq_true_iff.mp (show (notStar e && (chkT c (.inl e) a && chkT c (.inr es) r)) = true from q)
    obtain ⟨h3, h4⟩ := Bool.and_eq_true_iff.mp h2
    have b' : (match bindT a d h σ with | some σ' => bindTs r ds h σ' | none => none) = some σ' := b
    split at b'
    · simp [bindTs_len h4 b']
    · cases b'
  | .n _, [], _, _, _, _, q, _ => nomatch q
  | .n _, _ :: _, _, _, _, _, q, _ => nomatch q
  | .t _, [], _, _, _, _, q, _ => nomatch q
  | .t _, _ :: _, _, _, _, _, q, _ => nomatch q
theorem tg_ok (k : CtxOk t c X W Wx) : ∀ (tg : Tg), (∀ e, chkT c (.inl e) tg = true → PG X e (gD W tg)) ∧ (∀ es, chkT c (.inr es) tg = true → PGs X es (gDs W tg))
  | .n i => by
    refine ⟨fun e h => ?_, fun es h => ?_⟩
    · cases e with
      | Name x p =>
        obtain ⟨h1, h2⟩ := Bool.and_eq_true_iff.mp (show (decide (c.N[i]? = some x) && stoB c x) = true from h)
        obtain ⟨l1, l2⟩ := sto_ok k h2
        refine PG.weak (pg_name (i := i) (by rw [k.N]; exact k.nd) (by rw [k.N]; exact of_decide_eq_true h1) l1 l2) fun v σ H Q hw => ?_
        obtain ⟨ρ, σd, hd, d, σd', rs, rh, rv, eb, q⟩ := hw
        cases eb
        exact q _ (rs.set rv i) ⟨by simp, fun j hj => List.getElem?_set_ne (fun z => hj (by rw [z]; exact List.mem_singleton.mpr rfl))⟩
      | _ => cases h
    · cases es <;> cases h
  | .t r => by
    have ih := tg_ok k r
    refine ⟨fun e h => ?_, fun es h => ?_⟩
    · cases e with
      | Tuple es x1 p =>
        obtain ⟨h1, h2⟩ := Bool.and_eq_true_iff.mp (show (c.calm && chkT c (.inr es) r) = true from h)
        have hc : X.calm = true := by rw [k.calm]; exact h1
        have g := ih.2 es h2
        refine PG.weak (PG.or (pg_tup (n := es.length) hc g (assignEach_len es) (assign_nostar h2)) (pg_lst (n := es.length) hc g (assignEach_len es) (assign_nostar h2))) fun v σ H Q hw => ?_
        obtain ⟨ρ, σd, hd, d, σd', rs, rh, rv, eb, q⟩ := hw
        have eb' : (match items d hd with | some ds => bindTs r ds hd σd | none => none) = some σd' := eb
        split at eb'
        · rename_i ds ei
          obtain ⟨a, vs, rfl, sq, rvs⟩ := items_of rh rv ei
          have hl : vs.length = es.length := by rw [rvs.length]; exact bindTs_len h2 eb'
          rw [k.K] at sq
          rcases sq with sq | sq
          · exact .inr ⟨a, vs, rfl, sq, hl, ρ, σd, hd, ds, σd', rs, rh, rvs, eb', q⟩
          · exact .inl ⟨a, vs, rfl, sq, hl, ρ, σd, hd, ds, σd', rs, rh, rvs, eb', q⟩
        · cases eb'
      | _ => cases h
    · cases es <;> cases h
  | .nil => by
    refine ⟨fun e h => ?_, fun es h => ?_⟩
    · cases e <;> cases h
    · cases es with
      | nil =>
        refine PGs.weak pgs_nil fun v σ H Q hw => ?_
        obtain ⟨ρ, σd, hd, ds, σd', rs, rh, rv, eb, q⟩ := hw
        cases ds with
        | nil =>
          cases eb
          cases rv
          exact ⟨rfl, q σ rs (Out.refl σ)⟩
        | cons _ _ => cases eb
      | cons _ _ => cases h
  | .cons a r => by
    have ih1 := tg_ok k a
    have ih2 := tg_ok k r
    refine ⟨fun e h => ?_, fun es h => ?_⟩
    · cases e <;> cases h
    · cases es with
      | nil => cases h
      | cons e es =>
        obtain ⟨h1, h2⟩ := Bool.and_eq_true_iff.mp (show (notStar e && (chkT c (.inl e) a && chkT c (.inr es) r)) = true from h)
        obtain ⟨h3, h4⟩ := Bool.and_eq_true_iff.mp h2
        refine PGs.weak (pgs_cons (ih1.1 e h3) (ih2.2 es h4) (by rw [assign_one h1] <;> rfl)) fun v σ H Q hw => ?_
        obtain ⟨ρ, σd, hd, ds, σd', rs, rh, rv, eb, q⟩ := hw
        cases ds with
        | nil => cases eb
        | cons d ds =>
          obtain ⟨v1, vr, rfl, r1, r2⟩ := rv
          have eb' : (match bindT a d hd σd with | some σ' => bindTs r ds hd σ' | none => none) = some σd' := eb
          split at eb'
          · rename_i σ1 e1
            exact ⟨v1, vr, rfl, ρ, σd, hd, d, σ1, rs, rh, r1, e1, fun σ' rs' o => ⟨ρ, σ1, hd, ds, σd', rs', rh, r2, eb', fun σ2 rs2 o2 => q σ2 rs2 (o.trans o2)⟩⟩
          · cases eb'
end
end Ev

/-! Ev, part 7: expressions mean what is told. -/
namespace Ev
open PySem PySem.Spec PyProof.Rows L2
/-! ### more readings -/
def PostO (W : Wd) (ρ : List Addr) (H : Hp) (r : R D) (Q : Option Int → Hp → Prop) (E : XK) : Prop := match r with
  | .ok d hd => (match partD d with
    | some o => ∀ ρ' H', Ext ρ H ρ' H' → RH W ρ' H' hd → Q o H'
    | none => False)
  | .ex e hd => ∀ ρ' H' cls dd, Ext ρ H ρ' H' → RH W ρ' H' hd → RX W ρ' H' e cls dd → E cls dd H'
  | .bad => False
def tO (W : Wd) (Wx : WX) (m : En → M D) : TO := fun σ H Q => ∃ ρ σd hd, RS W ρ H σd σ ∧ RH W ρ H hd ∧ PostO W ρ H (m σd hd) Q (fun c dd H' => Wx c dd σ H')
/-- the heap goes on, whatever is written -/
structure Ext0 (ρ : List Addr) (H : Hp) (ρ' : List Addr) (H' : Hp) : Prop where
  at_ : ∀ (l : Nat) (a : Addr), ρ[l]? = some a → ρ'[l]? = some a
  kp : Kp H H'
theorem Ext0.refl (ρ : List Addr) (H : Hp) : Ext0 ρ H ρ H := ⟨fun _ _ e => e, fun _ _ e _ => e⟩
theorem Ext0.trans {ρ ρ1 ρ2 : List Addr} {H H1 H2 : Hp} (a : Ext0 ρ H ρ1 H1) (b : Ext0 ρ1 H1 ρ2 H2) : Ext0 ρ H ρ2 H2 := ⟨fun l x e => b.at_ l x (a.at_ l x e), fun x o e i => b.kp x o (a.kp x o e i) i⟩
theorem Ext.to0 {ρ ρ' : List Addr} {H H' : Hp} (x : Ext ρ H ρ' H') : Ext0 ρ H ρ' H' := ⟨fun _ _ e => x.at e, x.kp⟩
theorem RS.ext0 {W : Wd} {ρ ρ' : List Addr} {H H' : Hp} (x : Ext0 ρ H ρ' H') {σd : En} {σ : St} (h : RS W ρ H σd σ) : RS W ρ' H' σd σ :=
  ⟨h.1, fun i d e => let ⟨v, e1, r⟩ := h.2 i d e; ⟨v, e1, r.ext0 x.at_ x.kp⟩⟩
/-- an iterator walks these items as long as the place g stays -/
def JOk (W : Wd) (ρ : List Addr) (H : Hp) (J : It) (g : D) (ds : List D) : Prop :=
  ∀ ρ2 H2 hd2, Ext0 ρ H ρ2 H2 → RH W ρ2 H2 hd2 → stays g ds hd2 →
    J.stop ds.length H2 ∧ ∀ i d, ds[i]? = some d → J.go i H2 ∧ ∀ x H3, J.yld i H2 x H3 → Ext ρ2 H2 ρ2 H3 ∧ RH W ρ2 H3 hd2 ∧ RV W ρ2 H3 d x
def PostI (W : Wd) (ρ : List Addr) (H : Hp) (r : R D) (Q : It → Hp → Prop) (E : XK) : Prop := match r with
  | .ok (.tup [.tup ds, g]) hd => ∀ ρ' H' J, Ext ρ H ρ' H' → RH W ρ' H' hd → JOk W ρ' H' J g ds → Q J H'
  | .ok _ _ => False
  | .ex e hd => ∀ ρ' H' cls dd, Ext ρ H ρ' H' → RH W ρ' H' hd → RX W ρ' H' e cls dd → E cls dd H'
  | .bad => False
def tI (W : Wd) (Wx : WX) (m : En → M D) : TI := fun σ H Q => ∃ ρ σd hd, RS W ρ H σd σ ∧ RH W ρ H hd ∧ PostI W ρ H (m σd hd) Q (fun c dd H' => Wx c dd σ H')
theorem PO.weak {X : Cx} {e : Option Expr} {t t' : TO} (h : PO X e t) (k : ∀ σ H Q, t' σ H Q → t σ H Q) : PO X e t' := ⟨fun pins s σ H Q I hw => h.run pins s σ H Q I (k σ H Q hw)⟩
theorem PI.weak {X : Cx} {tg e : Expr} {t t' : TI} (h : PI X tg e t) (k : ∀ σ H Q, t' σ H Q → t σ H Q) : PI X tg e t' := ⟨fun pins s σ H Q I hw => h.run pins s σ H Q I (k σ H Q hw)⟩
theorem PostO.ext {W : Wd} {ρ ρ' : List Addr} {H H' : Hp} {r : R D} {Q : Option Int → Hp → Prop} {E : XK} (x : Ext ρ H ρ' H') (h : PostO W ρ H r Q E) : PostO W ρ' H' r Q E := by
  cases r with
  | ok d hd =>
    unfold PostO at h ⊢
    simp only at h ⊢
    split
    · rename_i o e
      rw [e] at h
      exact fun ρ2 H2 y => h ρ2 H2 (x.trans y)
    · rename_i e
      rw [e] at h
      exact h
  | ex e hd => exact fun ρ2 H2 c dd y => h ρ2 H2 c dd (x.trans y)
  | bad => exact h
theorem Post.bindI {W : Wd} {ρ : List Addr} {H : Hp} {r : R D} {f : D → M D} {Q : It → Hp → Prop} {Q' : VK} {E : XK} (h : PostI W ρ H (r.bind f) Q E)
    (hx : ∀ ρ' H' r', Ext ρ H ρ' H' → PostI W ρ H r' Q E → PostI W ρ' H' r' Q E)
    (k : ∀ ρ1 H1 d hd1 x, Ext ρ H ρ1 H1 → RH W ρ1 H1 hd1 → RV W ρ1 H1 d x → PostI W ρ1 H1 (f d hd1) Q E → Q' x H1) : Post W ρ H r Q' E := by
  cases r with
  | ok d hd => exact fun ρ1 H1 x y hh rv => k ρ1 H1 d hd x y hh rv (hx ρ1 H1 _ y h)
  | ex e hd => exact h
  | bad => exact h
theorem PostI.ext {W : Wd} {ρ ρ' : List Addr} {H H' : Hp} {r : R D} {Q : It → Hp → Prop} {E : XK} (x : Ext ρ H ρ' H') (h : PostI W ρ H r Q E) : PostI W ρ' H' r Q E := by
  unfold PostI at h ⊢
  split
  · exact fun ρ2 H2 J y => h ρ2 H2 J (x.trans y)
  · rename_i n
    split at h
    · rename_i ds g hd e
      cases e
      exact absurd rfl (n _ _)
    · exact h
    · rename_i e; cases e
    · rename_i e; cases e
  · exact fun ρ2 H2 c dd y => h ρ2 H2 c dd (x.trans y)
  · exact h
theorem Post.bindO {W : Wd} {ρ : List Addr} {H : Hp} {r : R D} {f : D → M D} {Q : VK} {Q' : Option Int → Hp → Prop} {E : XK} (h : Post W ρ H (r.bind f) Q E) (hf : ∀ d h, partD d = none → Post W ρ H (f d h) Q E → False)
    (k : ∀ ρ1 H1 d hd1 o, Ext ρ H ρ1 H1 → RH W ρ1 H1 hd1 → partD d = some o → Post W ρ1 H1 (f d hd1) Q E → Q' o H1) : PostO W ρ H r Q' E := by
  cases r with
  | ok d hd =>
    unfold PostO
    simp only
    split
    · rename_i o e
      exact fun ρ1 H1 y hh => k ρ1 H1 d hd o y hh e (Post.ext y h)
    · rename_i e
      exact hf d hd e h
  | ex e hd => exact h
  | bad => exact h
section
variable {t : Rt} {c : Cc} {X : Cx} {W : Wd} {Wx : WX}
structure Sd (t : Rt) (c : Cc) (X : Cx) (W : Wd) (Wx : WX) (ex : Ex) : Prop where
  e : ∀ e, chk c (.e e) ex = true → PE X e (tM W Wx (den t ex))
  b : ∀ e, chk c (.e e) ex = true → PT X e (tB' W Wx fun σ h => tstD (den t ex σ h))
  w : ∀ op es p, chk c (.e (.BoolOp op es p)) ex = true → PW X (.BoolOp op es p) (tB' W Wx fun σ h => tstD (den t ex σ h))
  l : ∀ es, chk c (.l es) ex = true → PA X es (tL W Wx (den t ex))
  o : ∀ o, chk c (.o o) ex = true → PO X o (tO W Wx (den t ex))
  i : ∀ e tg, chk c (.it e) ex = true → PI X tg e (tI W Wx (den t ex))
theorem Post.tst (hK : W.K = X.K) {ρ : List Addr} {H : Hp} {r : R D} {Q : Bool → Hp → Prop} {E : XK} (h : PostB W ρ H (tstD r) Q E) : Post W ρ H r (fun x H' => ∃ k, TruV X.K x H' k ∧ Q k H') E := by
  cases r with
  | ok d hd =>
    have h' : PostB W ρ H (match truD d hd with | some b => .ok b hd | none => .bad) Q E := h
    intro ρ' H' v x hh rv
    split at h'
    · rename_i b e
      exact ⟨b, tru_of hK hh rv e, h' ρ' H' x hh⟩
    · exact h'.elim
  | ex e hd => exact h
  | bad => exact h
theorem pt_of (k : CtxOk t c X W Wx) {ex : Ex} {e : Expr} (hp : plainT e = true) (h : PE X e (tM W Wx (den t ex))) : PT X e (tB' W Wx fun σ h => tstD (den t ex σ h)) := by
  refine PT.weak (pt_truth h (plainT_ok hp)) fun σ H Q hw => ?_
  obtain ⟨ρ, σd, hd, rs, rh, hq⟩ := hw
  exact ⟨ρ, σd, hd, rs, rh, Post.tst k.K hq⟩
theorem Sd.ofE (k : CtxOk t c X W Wx) {ex : Ex} (he : ∀ e, chk c (.e e) ex = true → plainT e = true ∧ PE X e (tM W Wx (den t ex))) (hl : ∀ es, chk c (.l es) ex = true → False) (ho : ∀ o, chk c (.o o) ex = true → False) (hi : ∀ e, chk c (.it e) ex = true → False) : Sd t c X W Wx ex :=
  ⟨fun e h => (he e h).2, fun e h => pt_of k (he e h).1 (he e h).2, fun op es p h => absurd (he _ h).1 Bool.false_ne_true, fun es h => (hl es h).elim, fun o h => (ho o h).elim, fun e tg h => (hi e h).elim⟩

/-! ### iterables -/
def iSeq (K : PySem.W.Frag) (tl : TE) : TI := fun σ H R => tl σ H fun x H1 => ∃ a, x = .ref a ∧ ((∃ xs, SqL K H1 a xs ∧ R (Itl K a) H1) ∨ ∃ xs, SqT K H1 a xs ∧ R (Itt K a) H1)
theorem pi_seq {tg l : Expr} {tl : TE} (hl : PE X l tl) : PI X tg l (iSeq X.K tl) := by
  refine ⟨fun pins s σ H R I h => ?_⟩
  refine thn (hl.run pins s σ H _ I h) fun v s1 ⟨x, H1, I1, r1, q1⟩ => ?_
  obtain ⟨a, e, ⟨xs, hq, q⟩ | ⟨xs, hq, q⟩⟩ := q1
  · subst e
    cases r1
    obtain ⟨its, rv, p, hz⟩ := I1.list hq
    refine wpAny_pyIter_list p.isList ?_
    refine ⟨s1.heap.objs.size, [s1.heap.objs.size], _, _, H1, rfl, I1.kept (t' := s1.toks) fun b o e => Heap.get?_push_of_some _ e, turn_list a _, ⟨_, Heap.get?_push_size _ rfl, rfl, rfl⟩, fun b hb => ?_, q⟩
    have e : b = s1.heap.objs.size := by simpa using hb
    subst e
    exact I1.fpOk (Nat.le_refl _) (I1.hok.fresh (Nat.le_refl _))
  · subst e
    cases r1
    obtain ⟨its, rv, p, hz⟩ := I1.tuple hq
    refine wpAny_pyIter_tuple (show s1.heap.IsTuple a its.toArray from p) ?_
    refine ⟨s1.heap.objs.size, [s1.heap.objs.size], _, _, H1, rfl, I1.kept (t' := s1.toks) fun b o e => Heap.get?_push_of_some _ e, turn_tuple a _, ⟨_, Heap.get?_push_size _ rfl, rfl, rfl⟩, fun b hb => ?_, q⟩
    have e : b = s1.heap.objs.size := by simpa using hb
    subst e
    exact I1.fpOk (Nat.le_refl _) (I1.hok.fresh (Nat.le_refl _))
theorem jok_tup {K : PySem.W.Frag} {ρ : List Addr} {H : Hp} {a : Addr} {vs : List V} {ds : List D} {g : D} (s : SqT K H a vs) (r : RVs W ρ H ds vs) : JOk W ρ H (Itt K a) g ds := by
  intro ρ2 H2 hd2 x hh _
  have s2 := x.kp.sqT s
  have r2 := RVs.ext0 x.at_ x.kp _ _ r
  refine ⟨⟨vs, s2, by rw [r2.length]; exact Nat.le_refl _⟩, fun i d e => ?_⟩
  obtain ⟨v, e1, rv⟩ := r2.get e
  refine ⟨⟨vs, v, s2, e1⟩, fun y H3 hy => ?_⟩
  obtain ⟨rfl, hy⟩ := hy
  have := hy vs s2
  rw [e1] at this
  cases this
  exact ⟨Ext.refl _ _, hh, rv⟩
theorem jok_lst {K : PySem.W.Frag} {ρ : List Addr} {H : Hp} {a : Addr} {l : Nat} {ds : List D} (e0 : ρ[l]? = some a) : JOk W ρ H (Itl K a) (.loc l) ds := by
  intro ρ2 H2 hd2 x hh st
  obtain ⟨a', vs, ea, _, s2, r2⟩ := hh.list (x := .ref a) ⟨a, rfl, x.at_ _ _ e0⟩ st
  cases ea
  refine ⟨⟨vs, .of s2, by rw [r2.length]; exact Nat.le_refl _⟩, fun i d e => ?_⟩
  obtain ⟨v, e1, rv⟩ := r2.get e
  refine ⟨⟨vs, v, .of s2, e1⟩, fun y H3 hy => ?_⟩
  obtain ⟨rfl, hy⟩ := hy
  have := hy vs (.of s2)
  rw [e1] at this
  cases this
  exact ⟨Ext.refl _ _, hh, rv⟩
theorem jok_fro {K : PySem.W.Frag} {ρ : List Addr} {H : Hp} {a : Addr} {vs : List V} {ds : List D} {g : D} (s : FroL K H a vs) (r : RVs W ρ H ds vs) : JOk W ρ H (Itl K a) g ds := by
  intro ρ2 H2 hd2 x hh _
  have s2 := (x.kp.froL s).sq
  have r2 := RVs.ext0 x.at_ x.kp _ _ r
  refine ⟨⟨vs, s2, by rw [r2.length]; exact Nat.le_refl _⟩, fun i d e => ?_⟩
  obtain ⟨v, e1, rv⟩ := r2.get e
  refine ⟨⟨vs, v, s2, e1⟩, fun y H3 hy => ?_⟩
  obtain ⟨rfl, hy⟩ := hy
  have := hy vs s2
  rw [e1] at this
  cases this
  exact ⟨Ext.refl _ _, hh, rv⟩
theorem rngD_len (lo : Int) (n : Nat) : (rngD lo n).length = n := by simp [rngD]
theorem rngD_get {lo : Int} {n i : Nat} {d : D} (e : (rngD lo n)[i]? = some d) : i < n ∧ d = .int (lo + (i : Int)) := by
  have hi : i < n := by have := (List.getElem?_eq_some_iff.mp e).1; rwa [rngD_len] at this
  unfold rngD at e
  rw [List.getElem?_map, List.getElem?_range hi] at e
  cases e
  exact ⟨hi, rfl⟩
theorem jok_rng {ρ : List Addr} {H : Hp} {lo : Int} {n : Nat} {g : D} : JOk W ρ H (Itr lo n) g (rngD lo n) := by
  intro ρ2 H2 hd2 x hh _
  refine ⟨by show n ≤ (rngD lo n).length; rw [rngD_len]; exact Nat.le_refl _, fun i d e => ?_⟩
  obtain ⟨hi, rfl⟩ := rngD_get e
  refine ⟨hi, fun y H3 hy => ?_⟩
  obtain ⟨rfl, rfl⟩ := hy
  exact ⟨Ext.refl _ _, hh, rfl⟩

/-! ### comprehensions -/
theorem RS.wipe {ρ : List Addr} {H : Hp} {σd : En} {σ : St} (h : RS W ρ H σd σ) : ∀ vs : List Nat, RS W ρ H (wipeD σd vs) (L2.wipe σ vs)
  | [] => h
  | v :: vs => by
    have ih := h.wipe vs
    refine ⟨by unfold wipeD L2.wipe; simp [ih.1], fun i d e => ?_⟩
    unfold wipeD at e
    unfold L2.wipe
    by_cases hi : v = i
    · subst hi
      by_cases hl : v < (wipeD σd vs).length
      · rw [List.getElem?_set_self hl] at e; cases e
      · rw [List.getElem?_eq_none (by simpa using hl)] at e; cases e
    · rw [List.getElem?_set_ne hi] at e ⊢
      exact ih.2 i d e
theorem kp_side {H : Hp} {D : Addr} {u w : HO} (h : H D = some w) (im : ¬ Imm w) : Kp H (upd H D u) := fun a o e i => by
  have : a ≠ D := fun z => by
    subst z
    rw [h] at e; cases e
    exact im i
  rw [upd_ne this]; exact e
theorem RH.side {ρ : List Addr} {H : Hp} {hd : Hd} (h : RH W ρ H hd) {D : Addr} {u w : HO} (hD : H D = some w) (im : ¬ Imm w) (nD : D ∉ ρ) : RH W ρ (upd H D u) hd :=
  ⟨h.len, h.nd, fun l a o e1 e2 => RO.ext0 (fun _ _ z => z) (kp_side hD im) (upd_ne (fun z => nD (by rw [← z]; exact List.mem_of_getElem? e1))) (h.ob l a o e1 e2)⟩
theorem RH.adopt {ρ : List Addr} {H : Hp} {hd : Hd} (h : RH W ρ H hd) {D : Addr} {vs : List V} (hD : H D = some (.lst vs)) (nD : D ∉ ρ) {es : List Ev.D} (r : RVs W ρ H es vs) : RH W (ρ ++ [D]) H (hd ++ [.lst es]) := by
  have p : ∀ (l : Nat) (a : Addr), ρ[l]? = some a → (ρ ++ [D])[l]? = some a := fun l a e => by
    rw [List.getElem?_append_left (List.getElem?_eq_some_iff.mp e).1]; exact e
  refine ⟨by simp [h.len], ?_, fun l b o e1 e2 => ?_⟩
  · rw [List.nodup_append]
    exact ⟨h.nd, by simp, fun y hy z hz e => by rw [List.mem_singleton.mp hz] at e; exact nD (e ▸ hy)⟩
  · by_cases hl : l < ρ.length
    · rw [List.getElem?_append_left hl] at e1
      rw [List.getElem?_append_left (h.len ▸ hl)] at e2
      exact RO.ext0 p (fun _ _ z _ => z) rfl (h.ob l b o e1 e2)
    · have hl' : l = ρ.length := by
        have := (List.getElem?_eq_some_iff.mp e1).1
        simp at this; omega
      subst hl'
      rw [List.getElem?_append_right (Nat.le_refl _)] at e1
      rw [List.getElem?_append_right (by rw [h.len]; exact Nat.le_refl _)] at e2
      simp at e1
      rw [h.len] at e2
      simp at e2
      subst e1 e2
      exact ⟨vs, hD, RVs.ext0 p (fun _ _ z _ => z) _ _ r⟩
end
end Ev

/-! Ev, part 8: comprehensions. -/
namespace Ev
open PySem PySem.Spec PyProof.Rows L2
abbrev WF : WX := fun _ _ _ _ => False
theorem JOk.mono {W : Wd} {ρ ρ' : List Addr} {H H' : Hp} {J : It} {g : D} {ds : List D} (h : JOk W ρ H J g ds) (x : Ext0 ρ H ρ' H') : JOk W ρ' H' J g ds := fun ρ2 H2 hd2 y => h ρ2 H2 hd2 (x.trans y)
/-- the heap goes on but for the object at A -/
structure ExtB (A : Addr) (ρ : List Addr) (H : Hp) (ρ' : List Addr) (H' : Hp) : Prop where
  pre : ∃ s, ρ' = ρ ++ s ∧ ∀ a ∈ s, H a = none
  keep : ∀ a o, a ≠ A → H a = some o → (a ∉ ρ ∨ Imm o) → H' a = some o
  there : ∀ a o, H a = some o → ∃ o', H' a = some o'
theorem ExtB.refl (A : Addr) (ρ : List Addr) (H : Hp) : ExtB A ρ H ρ H := ⟨⟨[], by simp, fun _ h => nomatch h⟩, fun _ _ _ h _ => h, fun _ o h => ⟨o, h⟩⟩
theorem ExtB.ext {A : Addr} {ρ ρ1 ρ2 : List Addr} {H H1 H2 : Hp} (a : ExtB A ρ H ρ1 H1) (b : Ext ρ1 H1 ρ2 H2) : ExtB A ρ H ρ2 H2 := by
  obtain ⟨⟨s, e1, n1⟩, k1, t1⟩ := a
  obtain ⟨⟨t, e2, n2⟩, k2, t2⟩ := b
  subst e1 e2
  refine ⟨⟨s ++ t, by simp, fun x hx => ?_⟩, fun x o hne h c => ?_, fun x o h => ?_⟩
  · rcases List.mem_append.mp hx with hx | hx
    · exact n1 x hx
    · cases q : H x with
      | none => rfl
      | some o =>
        obtain ⟨o', e⟩ := t1 x o q
        rw [n2 x hx] at e; cases e
  · have h1 := k1 x o hne h c
    refine k2 x o h1 ?_
    rcases c with c | c
    · refine .inl fun hx => ?_
      rcases List.mem_append.mp hx with hx | hx
      · exact c hx
      · rw [n1 x hx] at h; cases h
    · exact .inr c
  · obtain ⟨o', e⟩ := t1 x o h
    exact t2 x o' e
theorem ExtB.put {A : Addr} {ρ ρ1 : List Addr} {H H1 : Hp} {u : HO} (a : ExtB A ρ H ρ1 H1) : ExtB A ρ H ρ1 (upd H1 A u) := by
  refine ⟨a.pre, fun x o hne h c => by rw [upd_ne hne]; exact a.keep x o hne h c, fun x o h => ?_⟩
  by_cases e : x = A
  · exact ⟨u, by rw [e, upd_same]⟩
  · obtain ⟨o', q⟩ := a.there x o h
    exact ⟨o', by rw [upd_ne e]; exact q⟩
section
variable {W : Wd}
theorem lc_gen {A : Addr} {ρ1 : List Addr} {H1 : Hp} {hd1 : Hd} {acc : List D} {xs : List V} {σd : En} {σ : St} {J : It} {g : D} {ds : List D} {tg : Tg} {vs : List Nat} {cond : En → Hd → R Bool} {elt : En → Hd → R D} {accF : List D} {hdF : Hd} {Fin : Hp → Prop}
    (hix : ∀ i ∈ tg.ix, i ∈ vs) (hA : H1 A = some (.lst xs)) (nA : A ∉ ρ1) (hacc : RVs W ρ1 H1 acc xs) (rh : RH W ρ1 H1 hd1) (rs : RS W ρ1 H1 σd σ) (jk : JOk W ρ1 H1 J g ds)
    (hr : lcLoop tg vs cond elt g ds ds σd acc hd1 = .ok accF hdF)
    (fin : ∀ ρ2 H2 ys, ExtB A ρ1 H1 ρ2 H2 → Ext0 ρ1 H1 ρ2 H2 → RH W ρ2 H2 hdF → H2 A = some (.lst ys) → A ∉ ρ2 → RVs W ρ2 H2 accF ys → Fin H2) :
    ∃ W0 : Nat → Nat → Hp → Prop, (∃ m, W0 0 m H1) ∧ ∀ i m H, W0 i m H → (J.stop i H ∧ Fin H) ∨ (J.go i H ∧ ∃ Nx : Hp → Prop, (∀ H', Nx H' → ∃ m', m' < m ∧ W0 (i + 1) m' H') ∧
      ∀ x H', J.yld i H x H' → gD W tg x (L2.wipe σ vs) H' fun σ2 H2 => L2.wipe σ2 vs = L2.wipe σ vs ∧ tB' W WF cond σ2 H2 fun b H3 =>
        if b = true then tM W WF elt σ2 H3 fun y H4 => ∃ acc, H4 A = some (.lst acc) ∧ acc.length < sizeLine ∧ Nx (upd H4 A (.lst (acc ++ [y]))) else Nx H3) := by
  refine ⟨fun i m H => m = ds.length - i ∧ i ≤ ds.length ∧ ∃ ρ hd ac ys, ExtB A ρ1 H1 ρ H ∧ Ext0 ρ1 H1 ρ H ∧ H A = some (.lst ys) ∧ A ∉ ρ ∧ RVs W ρ H ac ys ∧ RH W ρ H hd ∧ lcLoop tg vs cond elt g ds (ds.drop i) σd ac hd = .ok accF hdF,
    ⟨_, rfl, Nat.zero_le _, ρ1, hd1, acc, xs, ExtB.refl _ _ _, Ext0.refl _ _, hA, nA, hacc, rh, by simpa using hr⟩, ?_⟩
  rintro i m H ⟨rfl, hi, ρ, hd, ac, ys, x, x0, hA, nA, ra, rh, e⟩
  by_cases hlt : i < ds.length
  · have hd0 : ds.drop i = ds[i] :: ds.drop (i + 1) := List.drop_eq_getElem_cons hlt
    rw [hd0] at e
    unfold lcLoop at e
    split at e
    case isFalse => cases e
    rename_i st
    obtain ⟨_, jg⟩ := jk ρ H hd x0 rh st
    obtain ⟨go, jy⟩ := jg i ds[i] (List.getElem?_eq_getElem hlt)
    split at e
    case h_2 => cases e
    rename_i σ' eb
    refine .inr ⟨go, fun H' => ∃ ρ hd ac ys, ExtB A ρ1 H1 ρ H' ∧ Ext0 ρ1 H1 ρ H' ∧ H' A = some (.lst ys) ∧ A ∉ ρ ∧ RVs W ρ H' ac ys ∧ RH W ρ H' hd ∧ lcLoop tg vs cond elt g ds (ds.drop (i + 1)) σd ac hd = .ok accF hdF,
      fun H' h => ⟨_, by omega, rfl, hlt, h⟩, fun v H' hy => ?_⟩
    obtain ⟨y1, y2, y3⟩ := jy v H' hy
    have rs' : RS W ρ H' (wipeD σd vs) (L2.wipe σ vs) := (RS.ext0 (x0.trans y1.to0) rs).wipe vs
    have hA' : H' A = some (.lst ys) := y1.keep A _ hA (.inl nA)
    refine ⟨ρ, _, hd, _, σ', rs', y2, y3, eb, fun σ2 rs2 out => ⟨wipe_out out hix, ρ, σ', hd, rs2, y2, ?_⟩⟩
    split at e
    · -- the test holds
      rename_i h1 ec
      rw [ec]
      split at e
      case h_2 => cases e
      rename_i xv h2 ee
      split at e
      case isFalse => cases e
      rename_i sz
      intro ρ3 H3 z1 rh3
      rw [if_pos rfl]
      refine ⟨ρ3, σ', h1, rs2.ext z1, rh3, ?_⟩
      rw [ee]
      intro ρ4 H4 w z2 rh4 rw'
      have nA3 : A ∉ ρ3 := fun hm => by
        obtain ⟨⟨s, es, ns⟩, _⟩ := z1
        subst es
        rcases List.mem_append.mp hm with hm | hm
        · exact nA hm
        · rw [ns A hm] at hA'; cases hA'
      have hA3 : H3 A = some (.lst ys) := z1.keep A _ hA' (.inl nA)
      have nA4 : A ∉ ρ4 := fun hm => by
        obtain ⟨⟨s, es, ns⟩, _⟩ := z2
        subst es
        rcases List.mem_append.mp hm with hm | hm
        · exact nA3 hm
        · rw [ns A hm] at hA3; cases hA3
      have hA4 : H4 A = some (.lst ys) := z2.keep A _ hA3 (.inl nA3)
      have ra4 : RVs W ρ4 H4 ac ys := RVs.ext z2 _ _ (RVs.ext z1 _ _ (RVs.ext y1 _ _ ra))
      have kp : Kp H4 (upd H4 A (.lst (ys ++ [w]))) := kp_side hA4 (fun z => z)
      refine ⟨ys, hA4, by rw [ra.length]; exact of_decide_eq_true sz, ρ4, h2, ac ++ [xv], ys ++ [w], ((x.ext y1).ext z1 |>.ext z2).put, ?_, upd_same, nA4, ?_, rh4.side hA4 (fun z => z) nA4, e⟩
      · exact ((x0.trans y1.to0).trans (z1.to0.trans z2.to0)).trans ⟨fun _ _ q => q, kp⟩
      · exact (RVs.ext0 (fun _ _ q => q) kp _ _ ra4).append ⟨w, [], rfl, RV.ext0 (fun _ _ q => q) kp _ _ rw', rfl⟩
    · -- it does not
      rename_i h1 ec
      rw [ec]
      intro ρ3 H3 z1 rh3
      rw [if_neg (by decide)]
      have nA3 : A ∉ ρ3 := fun hm => by
        obtain ⟨⟨s, es, ns⟩, _⟩ := z1
        subst es
        rcases List.mem_append.mp hm with hm | hm
        · exact nA hm
        · rw [ns A hm] at hA'; cases hA'
      exact ⟨ρ3, h1, ac, ys, (x.ext y1).ext z1, (x0.trans y1.to0).trans z1.to0, z1.keep A _ hA' (.inl nA), nA3, RVs.ext z1 _ _ (RVs.ext y1 _ _ ra), rh3, e⟩
    · cases e
  · have hi' : i = ds.length := by omega
    subst hi'
    rw [List.drop_length] at e
    unfold lcLoop at e
    split at e
    case isFalse => cases e
    rename_i st
    cases e
    obtain ⟨stop, _⟩ := jk ρ H _ x0 rh st
    exact .inl ⟨stop, fin ρ H ys x x0 rh hA nA ra⟩
theorem lc_gen2 {A : Addr} {ρ1 : List Addr} {H1 : Hp} {hd1 : Hd} {acc : List D} {xs : List V} {σd : En} {σ : St} {J : It} {g : D} {ds : List D} {tg tg1 : Tg} {vs vs1 : List Nat} {cond cond1 : En → Hd → R Bool} {it1 elt : En → Hd → R D} {accF : List D} {hdF : Hd} {Fin : Hp → Prop}
    (hix : ∀ i ∈ tg.ix, i ∈ vs) (hix1 : ∀ i ∈ tg1.ix, i ∈ vs1) (hA : H1 A = some (.lst xs)) (nA : A ∉ ρ1) (hacc : RVs W ρ1 H1 acc xs) (rh : RH W ρ1 H1 hd1) (rs : RS W ρ1 H1 σd σ) (jk : JOk W ρ1 H1 J g ds)
    (hr : lcLoop2 tg vs cond (fun σ' acc h => match it1 σ' h with
      | .ok (.tup [.tup es, g1]) h2 => lcLoop tg1 vs1 cond1 elt g1 es es σ' acc h2
      | _ => .bad) g ds ds σd acc hd1 = .ok accF hdF)
    (fin : ∀ ρ2 H2 ys, ExtB A ρ1 H1 ρ2 H2 → Ext0 ρ1 H1 ρ2 H2 → RH W ρ2 H2 hdF → H2 A = some (.lst ys) → A ∉ ρ2 → RVs W ρ2 H2 accF ys → Fin H2) :
    ∃ W0 : Nat → Nat → Hp → Prop, (∃ m, W0 0 m H1) ∧ ∀ i m H, W0 i m H → (J.stop i H ∧ Fin H) ∨ (J.go i H ∧ ∃ Nx : Hp → Prop, (∀ H', Nx H' → ∃ m', m' < m ∧ W0 (i + 1) m' H') ∧
      ∀ x H', J.yld i H x H' → gD W tg x (L2.wipe σ vs) H' fun σ2 H2 => L2.wipe σ2 vs = L2.wipe σ vs ∧ tB' W WF cond σ2 H2 fun b H3 =>
        if b = true then tI W WF it1 σ2 H3 fun J1 H4 => ∃ W1 : Nat → Nat → Hp → Prop, (∃ m, W1 0 m H4) ∧ ∀ j k H, W1 j k H →
          (J1.stop j H ∧ Nx H) ∨ (J1.go j H ∧ ∃ Nx1 : Hp → Prop, (∀ H', Nx1 H' → ∃ k', k' < k ∧ W1 (j + 1) k' H') ∧ ∀ x H', J1.yld j H x H' → gD W tg1 x (L2.wipe σ2 vs1) H' fun σ3 H5 => L2.wipe σ3 vs1 = L2.wipe σ2 vs1 ∧ tB' W WF cond1 σ3 H5 fun b H6 =>
            if b = true then tM W WF elt σ3 H6 fun y H7 => ∃ acc, H7 A = some (.lst acc) ∧ acc.length < sizeLine ∧ Nx1 (upd H7 A (.lst (acc ++ [y]))) else Nx1 H6)
        else Nx H3) := by
  refine ⟨fun i m H => m = ds.length - i ∧ i ≤ ds.length ∧ ∃ ρ hd ac ys, ExtB A ρ1 H1 ρ H ∧ Ext0 ρ1 H1 ρ H ∧ H A = some (.lst ys) ∧ A ∉ ρ ∧ RVs W ρ H ac ys ∧ RH W ρ H hd ∧ lcLoop2 tg vs cond (fun σ' acc h => match it1 σ' h with
      | .ok (.tup [.tup es, g1]) h2 => lcLoop tg1 vs1 cond1 elt g1 es es σ' acc h2
      | _ => .bad) g ds (ds.drop i) σd ac hd = .ok accF hdF,
    ⟨_, rfl, Nat.zero_le _, ρ1, hd1, acc, xs, ExtB.refl _ _ _, Ext0.refl _ _, hA, nA, hacc, rh, by simpa using hr⟩, ?_⟩
  rintro i m H ⟨rfl, hi, ρ, hd, ac, ys, x, x0, hA, nA, ra, rh, e⟩
  by_cases hlt : i < ds.length
  · have hd0 : ds.drop i = ds[i] :: ds.drop (i + 1) := List.drop_eq_getElem_cons hlt
    rw [hd0] at e
    unfold lcLoop2 at e
    split at e
    case isFalse => cases e
    rename_i st
    obtain ⟨_, jg⟩ := jk ρ H hd x0 rh st
    obtain ⟨go, jy⟩ := jg i ds[i] (List.getElem?_eq_getElem hlt)
    split at e
    case h_2 => cases e
    rename_i σ' eb
    refine .inr ⟨go, fun H' => ∃ ρ hd ac ys, ExtB A ρ1 H1 ρ H' ∧ Ext0 ρ1 H1 ρ H' ∧ H' A = some (.lst ys) ∧ A ∉ ρ ∧ RVs W ρ H' ac ys ∧ RH W ρ H' hd ∧ lcLoop2 tg vs cond (fun σ' acc h => match it1 σ' h with
      | .ok (.tup [.tup es, g1]) h2 => lcLoop tg1 vs1 cond1 elt g1 es es σ' acc h2
      | _ => .bad) g ds (ds.drop (i + 1)) σd ac hd = .ok accF hdF,
      fun H' h => ⟨_, by omega, rfl, hlt, h⟩, fun v H' hy => ?_⟩
    obtain ⟨y1, y2, y3⟩ := jy v H' hy
    have rs' : RS W ρ H' (wipeD σd vs) (L2.wipe σ vs) := (RS.ext0 (x0.trans y1.to0) rs).wipe vs
    have hA' : H' A = some (.lst ys) := y1.keep A _ hA (.inl nA)
    refine ⟨ρ, _, hd, _, σ', rs', y2, y3, eb, fun σ2 rs2 out => ⟨wipe_out out hix, ρ, σ', hd, rs2, y2, ?_⟩⟩
    have nx : ∀ {ρ3 : List Addr} {H3 : Hp}, Ext ρ H' ρ3 H3 → A ∉ ρ3 ∧ H3 A = some (.lst ys) := fun {ρ3 H3} z1 => by
      refine ⟨fun hm => ?_, z1.keep A _ hA' (.inl nA)⟩
      obtain ⟨⟨s, es, ns⟩, _⟩ := z1
      subst es
      rcases List.mem_append.mp hm with hm | hm
      · exact nA hm
      · rw [ns A hm] at hA'; cases hA'
    split at e
    · rename_i h1 ec
      rw [ec]
      split at e
      case h_2 => cases e
      rename_i ac2 h2 ee
      intro ρ3 H3 z1 rh3
      rw [if_pos rfl]
      refine ⟨ρ3, σ', h1, rs2.ext z1, rh3, ?_⟩
      split at ee
      case h_2 => cases ee
      rename_i es g1 h3 ei
      rw [ei]
      intro ρ4 H4 J1 z2 rh4 jk1
      have z12 := z1.trans z2
      obtain ⟨nA4, hA4⟩ := nx z12
      refine lc_gen hix1 hA4 nA4 (RVs.ext z12 _ _ (RVs.ext y1 _ _ ra)) rh4 (rs2.ext z12) jk1 ee fun ρ5 H5 zs b b0 rh5 hA5 nA5 ra5 => ?_
      refine ⟨ρ5, h2, ac2, zs, ?_, ((x0.trans y1.to0).trans z12.to0).trans b0, hA5, nA5, ra5, rh5, e⟩
      have x4 := (x.ext y1).ext z12
      obtain ⟨⟨s, e1, n1⟩, k1, t1⟩ := x4
      obtain ⟨⟨t, e2, n2⟩, k2, t2⟩ := b
      subst e1 e2
      refine ⟨⟨s ++ t, by simp, fun q hq => ?_⟩, fun q o hne h c => ?_, fun q o h => ?_⟩
      · rcases List.mem_append.mp hq with hq | hq
        · exact n1 q hq
        · cases q1 : H1 q with
          | none => rfl
          | some o =>
            obtain ⟨o', e⟩ := t1 q o q1
            rw [n2 q hq] at e; cases e
      · have h1 := k1 q o hne h c
        refine k2 q o hne h1 ?_
        rcases c with c | c
        · refine .inl fun hx => ?_
          rcases List.mem_append.mp hx with hx | hx
          · exact c hx
          · rw [n1 q hx] at h; cases h
        · exact .inr c
      · obtain ⟨o', e⟩ := t1 q o h
        exact t2 q o' e
    · rename_i h1 ec
      rw [ec]
      intro ρ3 H3 z1 rh3
      rw [if_neg (by decide)]
      obtain ⟨nA3, hA3⟩ := nx z1
      exact ⟨ρ3, h1, ac, ys, (x.ext y1).ext z1, (x0.trans y1.to0).trans z1.to0, hA3, nA3, RVs.ext z1 _ _ (RVs.ext y1 _ _ ra), rh3, e⟩
    · cases e
  · have hi' : i = ds.length := by omega
    subst hi'
    rw [List.drop_length] at e
    unfold lcLoop2 at e
    split at e
    case isFalse => cases e
    rename_i st
    cases e
    obtain ⟨stop, _⟩ := jk ρ H _ x0 rh st
    exact .inl ⟨stop, fin ρ H ys x x0 rh hA nA ra⟩
/-- the new list of a comprehension -/
theorem lc_fin {ρ1 : List Addr} {H1 : Hp} {A : Addr} {accF : List D} {hdF : Hd} {Q : VK} {E : XK} (nA1 : H1 A = none) (hp : Post W ρ1 H1 (.ok (.loc hdF.length) (hdF ++ [.lst accF])) Q E) {ρ2 : List Addr} {H2 : Hp} {ys : List V} (b : ExtB A ρ1 (upd H1 A (.lst [])) ρ2 H2)
    (rh : RH W ρ2 H2 hdF) (hA : H2 A = some (.lst ys)) (nA : A ∉ ρ2) (ra : RVs W ρ2 H2 accF ys) : Q (.ref A) H2 := by
  obtain ⟨⟨s, e1, n1⟩, k1, t1⟩ := b
  subst e1
  refine hp (ρ1 ++ s ++ [A]) H2 _ ⟨⟨s ++ [A], by simp, fun q hq => ?_⟩, fun a o h c => ?_, fun a o h => ?_⟩ (rh.adopt hA nA ra) (RV.here rh)
  · rcases List.mem_append.mp hq with hq | hq
    · have := n1 q hq
      by_cases e : q = A
      · rw [e]; exact nA1
      · rw [upd_ne e] at this; exact this
    · rw [List.mem_singleton.mp hq]; exact nA1
  · have ne := ne_of_none h nA1
    exact k1 a o ne (by rw [upd_ne ne]; exact h) c
  · have ne := ne_of_none h nA1
    exact t1 a o (by rw [upd_ne ne]; exact h)
end
end Ev

/-! Ev, part 9: every expression means what is told. -/
namespace Ev
open PySem PySem.Spec PyProof.Rows L2
section
variable {t : Rt} {c : Cc} {X : Cx} {W : Wd} {Wx : WX}
theorem and3 {a b : Bool} (h : (a && b) = true) : a = true ∧ b = true := Bool.and_eq_true_iff.mp h
theorem dec_ {p : Prop} [Decidable p] (h : decide p = true) : p := of_decide_eq_true h
/-- the context within a comprehension's block -/
theorem CtxOk.blk (k : CtxOk t c X W Wx) (hc : c.calm = true) {scope : Scope} (s : Shared) (H : Hp) (C : Addr) (cl : List (Str × Addr)) (fp : List Addr) : CtxOk t (c.blk scope) (X.blk s H scope (compEnvC scope cl C X.env) fp) W WF where
  N := k.N
  nd := k.nd
  sc := by
    show relabel scope X.env = relS scope c.sc
    rw [← k.sc]
    rfl
  K := k.K
  mg := k.mg
  calm := k.calm
  xa := k.xa
  tk := takes0
  units := k.units
  room := k.room
  fn := fun x h => h
  free := k.free
  glob := k.glob
  suite := fun a C' dd e => by
    rw [k.xa hc] at e
    cases e
  xc := k.xc
  rx := k.rx
  isa := k.isa

/-! ### two operands -/
theorem tM_bin {a b : Ex} {g : D → D → M D} {ma : En → M D} (hm : ∀ σ h, ma σ h = (den t a σ h).bind fun x h1 => (den t b σ h1).bind fun y => g x y) {σ : St} {H : Hp} {Q : VK} (hw : tM W Wx ma σ H Q) : tOp (rD W g) (tM W Wx (den t a)) (tM W Wx (den t b)) σ H Q := by
  obtain ⟨ρ, σd, hd, rs, rh, hq⟩ := hw
  rw [hm] at hq
  refine ⟨ρ, σd, hd, rs, rh, hq.bind fun ρ1 H1 d hd1 x y1 rh1 rv hq1 => ⟨ρ1, σd, hd1, rs.ext y1, rh1, hq1.bind fun ρ2 H2 e hd2 z y2 rh2 rw' hq2 => ⟨ρ2, hd2, d, e, _, rh2, RV.ext y2 _ _ rv, rw', hq2⟩⟩⟩
theorem cmpD_bl {op : CmpOp} {a b z : D} {h h' : Hd} (e : cmpD op a b h = .ok z h') : ∃ k, z = .bl k := by
  unfold cmpD at e
  (repeat' split at e) <;> first | (cases e; exact ⟨_, rfl⟩) | cases e
theorem cmpD_nx {op : CmpOp} {a b : D} {h h' : Hd} {x : Xn} (e : cmpD op a b h = .ex x h') : False := by
  unfold cmpD at e
  (repeat' split at e) <;> cases e
theorem post_bl (hK : W.K = X.K) {ρ : List Addr} {H : Hp} {op : CmpOp} {a b : D} {hd : Hd} {Q : Bool → Hp → Prop} {E : XK} (h : Post W ρ H (cmpD op a b hd) (fun x H' => ∃ k, TruV X.K x H' k ∧ Q k H') E) : Post W ρ H (cmpD op a b hd) (fun x H' => ∃ k, x = .bl k ∧ Q k H') E := by
  cases e : cmpD op a b hd with
  | ok z h' =>
    rw [e] at h
    obtain ⟨k, rfl⟩ := cmpD_bl e
    intro ρ' H' v y rh rv
    have rv' : v = V.bl k := rv
    subst rv'
    obtain ⟨k', tr, q⟩ := h ρ' H' _ y rh rfl
    have tr' : k' = k := tr
    subst tr'
    exact ⟨k', rfl, q⟩
  | ex z h' => rw [e] at h; exact h
  | bad => rw [e] at h; exact h

/-! ### calls -/
theorem run_held (k : CtxOk t c X W Wx) (hc : c.calm = true) {pins : List (Addr × Obj)} {s : Shared} {σ : St} {H : Hp} {Q : VK} {us : List Value} {vs : List V} {f : Addr} {fd : FuncData} {ps : List Str} {kk : Nat} {x : Str} {ds : List Value} {dvs : List V} {ρ : List Addr} {hd : Hd} {ys : List D}
    (F : FnOk X.prog X.w X.K X.mg X.base (L2.CX X.prog X.w) kk f fd ps (spOf ⟨X.K, X.mg, none⟩ ps.length (t.orc x))) (hr : Room kk X.A) (hb : Binds X.K fd ps ds) (hd' : Vals dvs ds) (hdf : ∀ ρ H, RVs ⟨X.K, X.mg, none⟩ ρ H (t.dfl x ys.length) dvs) (hl : ys.length + (t.dfl x ys.length).length = ps.length)
    (I : Inv X pins σ H s) (r : Vals vs us) (rh : RH W ρ H hd) (rv : RVs W ρ H ys vs) (h : Post W ρ H (callD (t.orc x) (ys ++ t.dfl x ys.length) hd) Q (fun c dd H' => Wx c dd σ H')) :
    wpAny (model X.prog X.w) X.A (call (.ref f) us) (EP X pins σ Q) X.xe s := by
  have w0 := k.w0 hc
  subst w0
  refine run_fnSD (E := WE Wx) (dvs := dvs) F hr hb hd' (passAt k.tk σ) I r ?_
  exact callD_sp (as := ys ++ t.dfl x ys.length) rfl (by rw [List.length_append]; exact hl) rh (rv.append (hdf ρ H)) h
theorem pe_call_ex (k : CtxOk t c X W Wx) {x : Str} {n : Nat} {r : Ex} {p pos : Pos} {es : List Expr} (hc : c.calm = true) (hg : gloB c.sc x = true) (hn : es.length = n) (hs : chk c (.l es) r = true) (ih : PA X es (tL W Wx (den t r))) :
    PE X (.Call (.Name x p) es [] pos) (tM W Wx (den t (.call x n r))) := by
  refine ⟨fun pins s σ H Q I h => ?_⟩
  obtain ⟨ρ, σd, hd, rs, rh, hq⟩ := h
  have hq' : Post W ρ H (if t.ar x n = true then (den t r σd hd).bind fun y h1 => match y with
    | .tup ys => if ys.length = n then callD (t.orc x) (ys ++ t.dfl x n) h1 else .bad
    | _ => .bad
    else .bad) Q (fun c dd H' => Wx c dd σ H') := hq
  by_cases ha : t.ar x n = true
  case neg => rw [if_neg ha] at hq'; exact hq'.elim
  rw [if_pos ha] at hq'
  obtain ⟨kk, hr, hF⟩ := k.room hc
  obtain ⟨f, fd, ps, hm, hk, F, hA⟩ := hF x n ha
  obtain ⟨hl, _, ds, dvs, hb, hd', hdf⟩ := hA n ha
  obtain ⟨g1, g2⟩ := glo_ok' k hg
  have tl : tL W Wx (den t r) σ H fun vs H1 => ∃ ρ1 hd1 ys, RH W ρ1 H1 hd1 ∧ RVs W ρ1 H1 ys vs ∧ ys.length = n ∧ Post W ρ1 H1 (callD (t.orc x) (ys ++ t.dfl x n) hd1) Q (fun c dd H' => Wx c dd σ H') :=
    ⟨ρ, σd, hd, rs, rh, PostL.bind hq' (fun d h nt => by cases d <;> first | rfl | exact absurd rfl (nt _)) fun ρ1 H1 ys hd1 xs y1 rh1 rvs hq1 => by
      have hq2 : Post W ρ1 H1 (if ys.length = n then callD (t.orc x) (ys ++ t.dfl x n) hd1 else .bad) Q (fun c dd H' => Wx c dd σ H') := hq1
      by_cases e : ys.length = n
      · rw [if_pos e] at hq2
        exact ⟨ρ1, hd1, ys, rh1, rvs, e, hq2⟩
      · rw [if_neg e] at hq2
        exact hq2.elim⟩
  refine wpAny_Call_Name_kw (ld_glob I g1 hm ?_ g2)
  cases es with
  | nil =>
    refine PySem.W.callWith_K0 I.kIn hk ?_
    have e0 : n = 0 := hn.symm
    subst e0
    cases r with
    | nil =>
      obtain ⟨ρ1, σ1, hd1, _, rh1, hq1⟩ := tl
      obtain ⟨ρ2, hd2, ys, rh2, rv2, yl, hq2⟩ := hq1 ρ1 H [] (Ext.refl _ _) rh1 rfl
      have y0 : ys = [] := List.eq_nil_of_length_eq_zero yl
      subst y0
      exact run_held (us := []) (ys := []) k hc F hr hb hd' hdf hl I .nil rh2 rv2 hq2
    | _ => cases hs
  | cons e es =>
    have hstar : starEach (e :: es) X.env = (false, eval e X.env) :: starEach es X.env ∧ (backTo pos (starEach es X.env)).any (·.1) = false := by
      cases r with
      | cons a r' =>
        obtain ⟨h1, h2⟩ := and3 (show (notStar e && (chk c (.e e) a && chk c (.l es) r')) = true from hs)
        obtain ⟨h3, h4⟩ := and3 h2
        exact ⟨star_one h1, star_none h4⟩
      | _ => cases hs
    refine PySem.W.callWith_K (h₀ := X.base) I.ok.mod.kin hk (thn (ih.run pos pins s σ H _ I tl) fun us s1 ⟨vs, H1, I1, rr, ρ2, hd2, ys, rh2, rv2, yl, hq2⟩ => ⟨I1.kIn, ?_⟩) hstar.1 hstar.2
    subst yl
    exact run_held k hc F hr hb hd' hdf hl I1 rr rh2 rv2 hq2
theorem pe_clv_ex (k : CtxOk t c X W Wx) {x : Str} {i n : Nat} {r : Ex} {p pos : Pos} {es : List Expr} (hc : c.calm = true) (hN : c.N[i]? = some x) (hv : visB c.sc x = true) (hd : notDbg x = true) (hn : es.length = n) (hs : chk c (.l es) r = true) (ih : PA X es (tL W Wx (den t r))) :
    PE X (.Call (.Name x p) es [] pos) (tM W Wx (den t (.clv i n r))) := by
  refine ⟨fun pins s σ H Q I h => ?_⟩
  obtain ⟨ρ, σd, hd1, rs, rh, hq⟩ := h
  have hq' : Post W ρ H (match σd[i]? with
    | some (some (.fn x)) => if t.ar x n = true then (den t r σd hd1).bind fun y h1 => match y with
      | .tup ys => if ys.length = n then callD (t.orc x) (ys ++ t.dfl x n) h1 else .bad
      | _ => .bad
      else .bad
    | _ => .bad) Q (fun c dd H' => Wx c dd σ H') := hq
  split at hq'
  case h_2 => exact hq'.elim
  rename_i y ey
  by_cases ha : t.ar y n = true
  case neg => rw [if_neg ha] at hq'; exact hq'.elim
  rw [if_pos ha] at hq'
  obtain ⟨v, ev, rv⟩ := rs.2 i _ ey
  obtain ⟨f, rfl, hmf⟩ := rv
  obtain ⟨kk, hr, hF⟩ := k.room hc
  obtain ⟨f', fd, ps, hm, hk, F, hA⟩ := hF y n ha
  rw [k.mg, hm] at hmf
  cases hmf
  obtain ⟨hl, _, ds, dvs, hb, hd', hdf⟩ := hA n ha
  obtain ⟨d1, d2⟩ := notDbg_ok hd
  have tl : tL W Wx (den t r) σ H fun vs H1 => ∃ ρ1 hd1 ys, RH W ρ1 H1 hd1 ∧ RVs W ρ1 H1 ys vs ∧ ys.length = n ∧ Post W ρ1 H1 (callD (t.orc y) (ys ++ t.dfl y n) hd1) Q (fun c dd H' => Wx c dd σ H') :=
    ⟨ρ, σd, hd1, rs, rh, PostL.bind hq' (fun d h nt => by cases d <;> first | rfl | exact absurd rfl (nt _)) fun ρ1 H1 ys hd1 xs y1 rh1 rvs hq1 => by
      have hq2 : Post W ρ1 H1 (if ys.length = n then callD (t.orc y) (ys ++ t.dfl y n) hd1 else .bad) Q (fun c dd H' => Wx c dd σ H') := hq1
      by_cases e : ys.length = n
      · rw [if_pos e] at hq2
        exact ⟨ρ1, hd1, ys, rh1, rvs, e, hq2⟩
      · rw [if_neg e] at hq2
        exact hq2.elim⟩
  refine wpAny_Call_Name_kw (thn ((pe_var (pos := p) (by rw [k.N]; exact hN) (vis_ok k hv) d1 d2).run pins s σ H (fun v H1 => v = .ref f ∧ H1 = H) I ⟨.ref f, ev, rfl, rfl⟩) fun u s1 ⟨v, H1, I1, r1, q1⟩ => ?_)
  obtain ⟨rfl, rfl⟩ := q1
  cases r1
  cases es with
  | nil =>
    refine PySem.W.callWith_K0 I1.kIn hk ?_
    have e0 : n = 0 := hn.symm
    subst e0
    cases r with
    | nil =>
      obtain ⟨ρ1, σ1, hd1, _, rh1, hq1⟩ := tl
      obtain ⟨ρ2, hd2, ys, rh2, rv2, yl, hq2⟩ := hq1 ρ1 _ [] (Ext.refl _ _) rh1 rfl
      have y0 : ys = [] := List.eq_nil_of_length_eq_zero yl
      subst y0
      exact run_held (us := []) (ys := []) k hc F hr hb hd' hdf hl I1 .nil rh2 rv2 hq2
    | _ => cases hs
  | cons e es =>
    have hstar : starEach (e :: es) X.env = (false, eval e X.env) :: starEach es X.env ∧ (backTo pos (starEach es X.env)).any (·.1) = false := by
      cases r with
      | cons a r' =>
        obtain ⟨h1, h2⟩ := and3 (show (notStar e && (chk c (.e e) a && chk c (.l es) r')) = true from hs)
        obtain ⟨h3, h4⟩ := and3 h2
        exact ⟨star_one h1, star_none h4⟩
      | _ => cases hs
    refine PySem.W.callWith_K (h₀ := X.base) I.ok.mod.kin hk (thn (ih.run pos pins s1 σ _ _ I1 tl) fun us s1 ⟨vs, H1, I1, rr, ρ2, hd2, ys, rh2, rv2, yl, hq2⟩ => ⟨I1.kIn, ?_⟩) hstar.1 hstar.2
    subst yl
    exact run_held k hc F hr hb hd' hdf hl I1 rr rh2 rv2 hq2
end
end Ev

/-! Ev, part 9b: the checker, read backwards. -/
namespace Ev
open PySem PySem.Spec PyProof.Rows L2

theorem chk_var {c : Cc} {s : Src} {i : Nat} (h : chk c s (.var i) = true) : ∃ x p, s = .e (.Name x p) ∧ (decide (c.N[i]? = some x) && (visB c.sc x && notDbg x)) = true := by
  unfold chk at h
  split at h
  all_goals first | contradiction | skip
  first
    | (rename_i heq; cases heq; exact ⟨_, _, rfl, h⟩)
    | (rename_i heq hh; cases heq; exact ⟨_, _, rfl, hh⟩)
    | (rename_i heq hh; cases heq; rename_i m _ _ _; cases m <;> exact ⟨_, _, rfl, hh⟩)
    | (rename_i heq hh; cases heq; cases m <;> exact ⟨_, _, rfl, hh⟩)
theorem chk_int {c : Cc} {s : Src} {j : Int} (h : chk c s (.int j) = true) : ∃ i a b, s = .e (.Constant (.int i) a b) ∧ (decide (i = j)) = true := by
  unfold chk at h
  split at h
  all_goals first | contradiction | skip
  first
    | (rename_i heq; cases heq; exact ⟨_, _, _, rfl, h⟩)
    | (rename_i heq hh; cases heq; exact ⟨_, _, _, rfl, hh⟩)
    | (rename_i heq hh; cases heq; rename_i m _ _ _; cases m <;> exact ⟨_, _, _, rfl, hh⟩)
    | (rename_i heq hh; cases heq; cases m <;> exact ⟨_, _, _, rfl, hh⟩)
theorem chk_bl {c : Cc} {s : Src} {j : Bool} (h : chk c s (.bl j) = true) : ∃ i a b, s = .e (.Constant (.bool i) a b) ∧ (decide (i = j)) = true := by
  unfold chk at h
  split at h
  all_goals first | contradiction | skip
  first
    | (rename_i heq; cases heq; exact ⟨_, _, _, rfl, h⟩)
    | (rename_i heq hh; cases heq; exact ⟨_, _, _, rfl, hh⟩)
    | (rename_i heq hh; cases heq; rename_i m _ _ _; cases m <;> exact ⟨_, _, _, rfl, hh⟩)
    | (rename_i heq hh; cases heq; cases m <;> exact ⟨_, _, _, rfl, hh⟩)
theorem chk_str {c : Cc} {s : Src} {j : Str} (h : chk c s (.str j) = true) : ∃ i a b, s = .e (.Constant (.str i) a b) ∧ (decide (i = j)) = true := by
  unfold chk at h
  split at h
  all_goals first | contradiction | skip
  first
    | (rename_i heq; cases heq; exact ⟨_, _, _, rfl, h⟩)
    | (rename_i heq hh; cases heq; exact ⟨_, _, _, rfl, hh⟩)
    | (rename_i heq hh; cases heq; rename_i m _ _ _; cases m <;> exact ⟨_, _, _, rfl, hh⟩)
    | (rename_i heq hh; cases heq; cases m <;> exact ⟨_, _, _, rfl, hh⟩)
theorem chk_glo {c : Cc} {s : Src} {y : Str} (h : chk c s (.glo y) = true) : ∃ x p, s = .e (.Name x p) ∧ (decide (x = y) && gloB c.sc x) = true := by
  unfold chk at h
  split at h
  all_goals first | contradiction | skip
  first
    | (rename_i heq; cases heq; exact ⟨_, _, rfl, h⟩)
    | (rename_i heq hh; cases heq; exact ⟨_, _, rfl, hh⟩)
    | (rename_i heq hh; cases heq; rename_i m _ _ _; cases m <;> exact ⟨_, _, rfl, hh⟩)
    | (rename_i heq hh; cases heq; cases m <;> exact ⟨_, _, rfl, hh⟩)
theorem chk_bin {c : Cc} {s : Src} {o' : Operator} {a' b' : Ex} (h : chk c s (.bin o' a' b') = true) : ∃ a o b p, s = .e (.BinOp a o b p) ∧ (decide (o = o') && (chk c (.e a) a' && chk c (.e b) b')) = true := by
  unfold chk at h
  split at h
  all_goals first | contradiction | skip
  first
    | (rename_i heq; cases heq; exact ⟨_, _, _, _, rfl, h⟩)
    | (rename_i heq hh; cases heq; exact ⟨_, _, _, _, rfl, hh⟩)
    | (rename_i heq hh; cases heq; rename_i m _ _ _; cases m <;> exact ⟨_, _, _, _, rfl, hh⟩)
    | (rename_i heq hh; cases heq; cases m <;> exact ⟨_, _, _, _, rfl, hh⟩)
theorem chk_neg {c : Cc} {s : Src} {a' : Ex} (h : chk c s (.neg a') = true) : ∃ a p, s = .e (.UnaryOp .USub a p) ∧ (chk c (.e a) a') = true := by
  unfold chk at h
  split at h
  all_goals first | contradiction | skip
  first
    | (rename_i heq; cases heq; exact ⟨_, _, rfl, h⟩)
    | (rename_i heq hh; cases heq; exact ⟨_, _, rfl, hh⟩)
    | (rename_i heq hh; cases heq; rename_i m _ _ _; cases m <;> exact ⟨_, _, rfl, hh⟩)
    | (rename_i heq hh; cases heq; cases m <;> exact ⟨_, _, rfl, hh⟩)
theorem chk_cmp {c : Cc} {s : Src} {o' : CmpOp} {a' b' : Ex} (h : chk c s (.cmp o' a' b') = true) : ∃ a o b p, s = .e (.Compare a [o] [b] p) ∧ (decide (o = o') && (!behindInMarks o b && (chk c (.e a) a' && chk c (.e b) b'))) = true := by
  unfold chk at h
  split at h
  all_goals first | contradiction | skip
  first
    | (rename_i heq; cases heq; exact ⟨_, _, _, _, rfl, h⟩)
    | (rename_i heq hh; cases heq; exact ⟨_, _, _, _, rfl, hh⟩)
    | (rename_i heq hh; cases heq; rename_i m _ _ _; cases m <;> exact ⟨_, _, _, _, rfl, hh⟩)
    | (rename_i heq hh; cases heq; cases m <;> exact ⟨_, _, _, _, rfl, hh⟩)
theorem chk_chn {c : Cc} {s : Src} {o1' o2' : CmpOp} {a' b' d' : Ex} (h : chk c s (.chn o1' o2' a' b' d') = true) : ∃ a o1 o2 b d p, s = .e (.Compare a [o1, o2] [b, d] p) ∧ (decide (o1 = o1') && (decide (o2 = o2') && (!lastMarks [o1, o2] [b, d] && (chk c (.e a) a' && (chk c (.e b) b' && chk c (.e d) d'))))) = true := by
  unfold chk at h
  split at h
  all_goals first | contradiction | skip
  first
    | (rename_i heq; cases heq; exact ⟨_, _, _, _, _, _, rfl, h⟩)
    | (rename_i heq hh; cases heq; exact ⟨_, _, _, _, _, _, rfl, hh⟩)
    | (rename_i heq hh; cases heq; rename_i m _ _ _; cases m <;> exact ⟨_, _, _, _, _, _, rfl, hh⟩)
    | (rename_i heq hh; cases heq; cases m <;> exact ⟨_, _, _, _, _, _, rfl, hh⟩)
theorem chk_and_ {c : Cc} {s : Src} {a' r' : Ex} (h : chk c s (.and_ a' r') = true) : ∃ a b rest p, s = .e (.BoolOp .And (a :: b :: rest) p) ∧ (chk c (.e a) a' && (match rest with
    | [] => chk c (.e b) r'
    | _ :: _ => chk c (.e (.BoolOp .And (b :: rest) p)) r')) = true := by
  unfold chk at h
  split at h
  all_goals first | contradiction | skip
  first
    | (rename_i heq; cases heq; exact ⟨_, _, _, _, rfl, h⟩)
    | (rename_i heq hh; cases heq; exact ⟨_, _, _, _, rfl, hh⟩)
    | (rename_i heq hh; cases heq; rename_i m _ _ _; cases m <;> exact ⟨_, _, _, _, rfl, hh⟩)
    | (rename_i heq hh; cases heq; cases m <;> exact ⟨_, _, _, _, rfl, hh⟩)
theorem chk_or_ {c : Cc} {s : Src} {a' r' : Ex} (h : chk c s (.or_ a' r') = true) : ∃ a b rest p, s = .e (.BoolOp .Or (a :: b :: rest) p) ∧ (chk c (.e a) a' && (match rest with
    | [] => chk c (.e b) r'
    | _ :: _ => chk c (.e (.BoolOp .Or (b :: rest) p)) r')) = true := by
  unfold chk at h
  split at h
  all_goals first | contradiction | skip
  first
    | (rename_i heq; cases heq; exact ⟨_, _, _, _, rfl, h⟩)
    | (rename_i heq hh; cases heq; exact ⟨_, _, _, _, rfl, hh⟩)
    | (rename_i heq hh; cases heq; rename_i m _ _ _; cases m <;> exact ⟨_, _, _, _, rfl, hh⟩)
    | (rename_i heq hh; cases heq; cases m <;> exact ⟨_, _, _, _, rfl, hh⟩)
theorem chk_not_ {c : Cc} {s : Src} {a' : Ex} (h : chk c s (.not_ a') = true) : ∃ a p, s = .e (.UnaryOp .Not a p) ∧ (chk c (.e a) a') = true := by
  unfold chk at h
  split at h
  all_goals first | contradiction | skip
  first
    | (rename_i heq; cases heq; exact ⟨_, _, rfl, h⟩)
    | (rename_i heq hh; cases heq; exact ⟨_, _, rfl, hh⟩)
    | (rename_i heq hh; cases heq; rename_i m _ _ _; cases m <;> exact ⟨_, _, rfl, hh⟩)
    | (rename_i heq hh; cases heq; cases m <;> exact ⟨_, _, rfl, hh⟩)
theorem chk_ifx {c : Cc} {s : Src} {q' a' b' : Ex} (h : chk c s (.ifx q' a' b') = true) : ∃ q a b p, s = .e (.IfExp q a b p) ∧ (chk c (.e q) q' && (chk c (.e a) a' && chk c (.e b) b')) = true := by
  unfold chk at h
  split at h
  all_goals first | contradiction | skip
  first
    | (rename_i heq; cases heq; exact ⟨_, _, _, _, rfl, h⟩)
    | (rename_i heq hh; cases heq; exact ⟨_, _, _, _, rfl, hh⟩)
    | (rename_i heq hh; cases heq; rename_i m _ _ _; cases m <;> exact ⟨_, _, _, _, rfl, hh⟩)
    | (rename_i heq hh; cases heq; cases m <;> exact ⟨_, _, _, _, rfl, hh⟩)
theorem chk_cons {c : Cc} {s : Src} {a r : Ex} (h : chk c s (.cons a r) = true) : ∃ e es, s = .l (e :: es) ∧ (notStar e && (chk c (.e e) a && chk c (.l es) r)) = true := by
  unfold chk at h
  split at h
  all_goals first | contradiction | skip
  first
    | (rename_i heq; cases heq; exact ⟨_, _, rfl, h⟩)
    | (rename_i heq hh; cases heq; exact ⟨_, _, rfl, hh⟩)
    | (rename_i heq hh; cases heq; rename_i m _ _ _; cases m <;> exact ⟨_, _, rfl, hh⟩)
    | (rename_i heq hh; cases heq; cases m <;> exact ⟨_, _, rfl, hh⟩)
theorem chk_tup {c : Cc} {s : Src} {r : Ex} (h : chk c s (.tup r) = true) : ∃ es k p, s = .e (.Tuple es k p) ∧ (chk c (.l es) r) = true := by
  unfold chk at h
  split at h
  all_goals first | contradiction | skip
  first
    | (rename_i heq; cases heq; exact ⟨_, _, _, rfl, h⟩)
    | (rename_i heq hh; cases heq; exact ⟨_, _, _, rfl, hh⟩)
    | (rename_i heq hh; cases heq; rename_i m _ _ _; cases m <;> exact ⟨_, _, _, rfl, hh⟩)
    | (rename_i heq hh; cases heq; cases m <;> exact ⟨_, _, _, rfl, hh⟩)
theorem chk_lst {c : Cc} {s : Src} {r : Ex} (h : chk c s (.lst r) = true) : ∃ es p, s = .e (.List es p) ∧ (chk c (.l es) r) = true := by
  unfold chk at h
  split at h
  all_goals first | contradiction | skip
  first
    | (rename_i heq; cases heq; exact ⟨_, _, rfl, h⟩)
    | (rename_i heq hh; cases heq; exact ⟨_, _, rfl, hh⟩)
    | (rename_i heq hh; cases heq; rename_i m _ _ _; cases m <;> exact ⟨_, _, rfl, hh⟩)
    | (rename_i heq hh; cases heq; cases m <;> exact ⟨_, _, rfl, hh⟩)
theorem chk_lfr {c : Cc} {s : Src} {r : Ex} (h : chk c s (.lfr r) = true) : ∃ es p, s = .e (.List es p) ∧ (chk c (.l es) r) = true := by
  unfold chk at h
  split at h
  all_goals first | contradiction | skip
  first
    | (rename_i heq; cases heq; exact ⟨_, _, rfl, h⟩)
    | (rename_i heq hh; cases heq; exact ⟨_, _, rfl, hh⟩)
    | (rename_i heq hh; cases heq; rename_i m _ _ _; cases m <;> exact ⟨_, _, rfl, hh⟩)
    | (rename_i heq hh; cases heq; cases m <;> exact ⟨_, _, rfl, hh⟩)
theorem chk_call {c : Cc} {s : Src} {y : Str} {n : Nat} {r : Ex} (h : chk c s (.call y n r) = true) : ∃ x q es p, s = .e (.Call (.Name x q) es [] p) ∧ (decide (x = y) && (decide (es.length = n) && (c.calm && (gloB c.sc x && chk c (.l es) r)))) = true := by
  unfold chk at h
  split at h
  all_goals first | contradiction | skip
  first
    | (rename_i heq; cases heq; exact ⟨_, _, _, _, rfl, h⟩)
    | (rename_i heq hh; cases heq; exact ⟨_, _, _, _, rfl, hh⟩)
    | (rename_i heq hh; cases heq; rename_i m _ _ _; cases m <;> exact ⟨_, _, _, _, rfl, hh⟩)
    | (rename_i heq hh; cases heq; cases m <;> exact ⟨_, _, _, _, rfl, hh⟩)
theorem chk_clv {c : Cc} {s : Src} {i n : Nat} {r : Ex} (h : chk c s (.clv i n r) = true) : ∃ x q es p, s = .e (.Call (.Name x q) es [] p) ∧ (decide (c.N[i]? = some x) && (decide (es.length = n) && (c.calm && (visB c.sc x && (notDbg x && chk c (.l es) r))))) = true := by
  unfold chk at h
  split at h
  all_goals first | contradiction | skip
  first
    | (rename_i heq; cases heq; exact ⟨_, _, _, _, rfl, h⟩)
    | (rename_i heq hh; cases heq; exact ⟨_, _, _, _, rfl, hh⟩)
    | (rename_i heq hh; cases heq; rename_i m _ _ _; cases m <;> exact ⟨_, _, _, _, rfl, hh⟩)
    | (rename_i heq hh; cases heq; cases m <;> exact ⟨_, _, _, _, rfl, hh⟩)
theorem chk_bi {c : Cc} {s : Src} {b : Bi} {r : Ex} (h : chk c s (.bi b r) = true) : ∃ x q e es p, s = .e (.Call (.Name x q) (e :: es) [] p) ∧ (decide (x = b.name) && (c.calm && (bltB c x && chk c (.l (e :: es)) r))) = true := by
  unfold chk at h
  split at h
  all_goals first | contradiction | skip
  first
    | (rename_i heq; cases heq; exact ⟨_, _, _, _, _, rfl, h⟩)
    | (rename_i heq hh; cases heq; exact ⟨_, _, _, _, _, rfl, hh⟩)
    | (rename_i heq hh; cases heq; rename_i m _ _ _; cases m <;> exact ⟨_, _, _, _, _, rfl, hh⟩)
    | (rename_i heq hh; cases heq; cases m <;> exact ⟨_, _, _, _, _, rfl, hh⟩)
theorem chk_isi {c : Cc} {s : Src} {T : Ty} {a' : Ex} (h : chk c s (.isi T a') = true) : ∃ x q a y q2 p, s = .e (.Call (.Name x q) [a, .Name y q2] [] p) ∧ (decide (x = "isinstance") && (decide (y = T.nm) && (bltB c x && (bltB c y && (notStar a && chk c (.e a) a'))))) = true := by
  unfold chk at h
  split at h
  all_goals first | contradiction | skip
  first
    | (rename_i heq; cases heq; exact ⟨_, _, _, _, _, _, rfl, h⟩)
    | (rename_i heq hh; cases heq; exact ⟨_, _, _, _, _, _, rfl, hh⟩)
    | (rename_i heq hh; cases heq; rename_i m _ _ _; cases m <;> exact ⟨_, _, _, _, _, _, rfl, hh⟩)
    | (rename_i heq hh; cases heq; cases m <;> exact ⟨_, _, _, _, _, _, rfl, hh⟩)
theorem chk_ix {c : Cc} {s : Src} {a' i' : Ex} (h : chk c s (.ix a' i') = true) : ∃ a i p, s = .e (.Subscript a i p) ∧ (plainIxB i && (chk c (.e a) a' && chk c (.e i) i')) = true := by
  unfold chk at h
  split at h
  all_goals first | contradiction | skip
  first
    | (rename_i heq; cases heq; exact ⟨_, _, _, rfl, h⟩)
    | (rename_i heq hh; cases heq; exact ⟨_, _, _, rfl, hh⟩)
    | (rename_i heq hh; cases heq; rename_i m _ _ _; cases m <;> exact ⟨_, _, _, rfl, hh⟩)
    | (rename_i heq hh; cases heq; cases m <;> exact ⟨_, _, _, rfl, hh⟩)
theorem chk_sl {c : Cc} {s : Src} {a' lo' hi' : Ex} (h : chk c s (.sl a' lo' hi') = true) : ∃ a lo hi p2 p, s = .e (.Subscript a (.Slice lo hi none p2) p) ∧ (chk c (.e a) a' && (chk c (.o lo) lo' && chk c (.o hi) hi')) = true := by
  unfold chk at h
  split at h
  all_goals first | contradiction | skip
  first
    | (rename_i heq; cases heq; exact ⟨_, _, _, _, _, rfl, h⟩)
    | (rename_i heq hh; cases heq; exact ⟨_, _, _, _, _, rfl, hh⟩)
    | (rename_i heq hh; cases heq; rename_i m _ _ _; cases m <;> exact ⟨_, _, _, _, _, rfl, hh⟩)
    | (rename_i heq hh; cases heq; cases m <;> exact ⟨_, _, _, _, _, rfl, hh⟩)
theorem chk_pt {c : Cc} {s : Src} {a : Ex} (h : chk c s (.pt a) = true) : ∃ e, s = .o (some e) ∧ (chk c (.e e) a) = true := by
  unfold chk at h
  split at h
  all_goals first | contradiction | skip
  first
    | (rename_i heq; cases heq; exact ⟨_, rfl, h⟩)
    | (rename_i heq hh; cases heq; exact ⟨_, rfl, hh⟩)
    | (rename_i heq hh; cases heq; rename_i m _ _ _; cases m <;> exact ⟨_, rfl, hh⟩)
    | (rename_i heq hh; cases heq; cases m <;> exact ⟨_, rfl, hh⟩)
theorem chk_itS {c : Cc} {s : Src} {a : Ex} (h : chk c s (.itS a) = true) : ∃ e, s = .it e ∧ (notSet e && chk c (.e e) a) = true := by
  unfold chk at h
  split at h
  all_goals first | contradiction | skip
  first
    | (rename_i heq; cases heq; exact ⟨_, rfl, h⟩)
    | (rename_i heq hh; cases heq; exact ⟨_, rfl, hh⟩)
    | (rename_i heq hh; cases heq; rename_i m _ _ _; cases m <;> exact ⟨_, rfl, hh⟩)
    | (rename_i heq hh; cases heq; cases m <;> exact ⟨_, rfl, hh⟩)
theorem chk_itR {c : Cc} {s : Src} {r : Ex} (h : chk c s (.itR r) = true) : ∃ x q es p, s = .it (.Call (.Name x q) es [] p) ∧ (decide (x = "range") && (bltB c x && ((decide (es.length = 1) || decide (es.length = 2)) && chk c (.l es) r))) = true := by
  unfold chk at h
  split at h
  all_goals first | contradiction | skip
  first
    | (rename_i heq; cases heq; exact ⟨_, _, _, _, rfl, h⟩)
    | (rename_i heq hh; cases heq; exact ⟨_, _, _, _, rfl, hh⟩)
    | (rename_i heq hh; cases heq; rename_i m _ _ _; cases m <;> exact ⟨_, _, _, _, rfl, hh⟩)
    | (rename_i heq hh; cases heq; cases m <;> exact ⟨_, _, _, _, rfl, hh⟩)
theorem chk_mth {c : Cc} {s : Src} {m : Mt} {o' r : Ex} (h : chk c s (.mth m o' r) = true) : ∃ o po x apos e cpos, s = .e (.Call (.Attribute (.Name o po) x apos) [e] [] cpos) ∧ (decide (x = m.name) && ((match m with
      | .append => true
      | .extend => true
      | _ => false) && (decide (apos.endLine = cpos.line) && (notStar e && (chk c (.e (.Name o po)) o' && chk c (.l [e]) r))))) = true := by
  unfold chk at h
  split at h
  all_goals first | contradiction | skip
  first
    | (rename_i heq; cases heq; exact ⟨_, _, _, _, _, _, rfl, h⟩)
    | (rename_i heq hh; cases heq; exact ⟨_, _, _, _, _, _, rfl, hh⟩)
    | (rename_i heq hh; cases heq; rename_i m _ _ _; cases m <;> exact ⟨_, _, _, _, _, _, rfl, hh⟩)
    | (rename_i heq hh; cases heq; cases m <;> exact ⟨_, _, _, _, _, _, rfl, hh⟩)
theorem chk_att {c : Cc} {s : Src} {a' : Ex} {g : Str} (h : chk c s (.att a' g) = true) : ∃ o po f p, s = .e (.Attribute (.Name o po) f p) ∧ (decide (f = g) && (!c.calm && chk c (.e (.Name o po)) a')) = true := by
  unfold chk at h
  split at h
  all_goals first | contradiction | skip
  first
    | (rename_i heq; cases heq; exact ⟨_, _, _, _, rfl, h⟩)
    | (rename_i heq hh; cases heq; exact ⟨_, _, _, _, rfl, hh⟩)
    | (rename_i heq hh; cases heq; rename_i m _ _ _; cases m <;> exact ⟨_, _, _, _, rfl, hh⟩)
    | (rename_i heq hh; cases heq; cases m <;> exact ⟨_, _, _, _, rfl, hh⟩)
end Ev

/-! Ev, part 10: every expression means what is told: the plain ones. -/
namespace Ev
open PySem PySem.Spec PyProof.Rows L2
section
variable {t : Rt} {c : Cc} {X : Cx} {W : Wd} {Wx : WX}
theorem Sd.ofS (k : CtxOk t c X W Wx) {ex : Ex} (hs : ∀ s, chk c s ex = true → ∃ e, s = .e e ∧ plainT e = true ∧ PE X e (tM W Wx (den t ex))) : Sd t c X W Wx ex :=
  Sd.ofE k (fun e h => by obtain ⟨_, z, h1, h2⟩ := hs _ h; cases z; exact ⟨h1, h2⟩) (fun _ h => by obtain ⟨_, z, _⟩ := hs _ h; cases z) (fun _ h => by obtain ⟨_, z, _⟩ := hs _ h; cases z) (fun _ h => by obtain ⟨_, z, _⟩ := hs _ h; cases z)
/-- an expression with its own test -/
theorem Sd.ofT {ex : Ex} (hs : ∀ s, chk c s ex = true → ∃ e, s = .e e ∧ (∀ op es p, e ≠ .BoolOp op es p) ∧ PE X e (tM W Wx (den t ex)) ∧ PT X e (tB' W Wx fun σ h => tstD (den t ex σ h))) : Sd t c X W Wx ex :=
  ⟨(fun e h => by obtain ⟨_, z, _, h1, h2⟩ := hs _ h; cases z; exact h1), (fun e h => by obtain ⟨_, z, _, h1, h2⟩ := hs _ h; cases z; exact h2), (fun op es p h => by obtain ⟨_, z, hn, _⟩ := hs _ h; cases z; exact absurd rfl (hn _ _ _)), (fun _ h => by obtain ⟨_, z, _⟩ := hs _ h; cases z), (fun _ h => by obtain ⟨_, z, _⟩ := hs _ h; cases z), (fun _ _ h => by obtain ⟨_, z, _⟩ := hs _ h; cases z)⟩
theorem pe_const {e : Expr} {ex : Ex} {d : D} {v : V} (h : PE X e (tC v)) (hd : ∀ σ hd, den t ex σ hd = .ok d hd) (hv : ∀ ρ H, RV W ρ H d v) : PE X e (tM W Wx (den t ex)) :=
  PE.weak h fun σ H Q ⟨ρ, σd, hd', rs, rh, hq⟩ => by
    rw [hd] at hq
    exact hq.same rh (hv _ _)
theorem sd_var (k : CtxOk t c X W Wx) (i : Nat) : Sd t c X W Wx (.var i) := by
  refine Sd.ofS k fun s h => ?_
  obtain ⟨x, p, rfl, h⟩ := chk_var h
  obtain ⟨h1, h2⟩ := and3 h
  obtain ⟨h2, h3⟩ := and3 h2
  obtain ⟨d1, d2⟩ := notDbg_ok h3
  refine ⟨_, rfl, rfl, PE.weak (pe_var (i := i) (by rw [k.N]; exact dec_ h1) (vis_ok k h2) d1 d2) fun σ H Q hw => ?_⟩
  obtain ⟨ρ, σd, hd, rs, rh, hq⟩ := hw
  have hq' : Post W ρ H (match σd[i]? with
    | some (some d) => .ok d hd
    | _ => .bad) Q (fun c dd H' => Wx c dd σ H') := hq
  split at hq'
  · rename_i d e
    obtain ⟨v, ev, rv⟩ := rs.2 i _ e
    exact ⟨v, ev, hq'.same rh rv⟩
  · exact hq'.elim
theorem sd_int (k : CtxOk t c X W Wx) (j : Int) : Sd t c X W Wx (.int j) := Sd.ofS k fun s h => by
  obtain ⟨i, a, b, rfl, h⟩ := chk_int h
  cases dec_ h
  exact ⟨_, rfl, rfl, pe_const (d := .int j) pe_int (fun _ _ => rfl) fun _ _ => rfl⟩
theorem sd_bl (k : CtxOk t c X W Wx) (j : Bool) : Sd t c X W Wx (.bl j) := Sd.ofS k fun s h => by
  obtain ⟨i, a, b, rfl, h⟩ := chk_bl h
  cases dec_ h
  exact ⟨_, rfl, rfl, pe_const (d := .bl j) pe_bl (fun _ _ => rfl) fun _ _ => rfl⟩
theorem sd_str (k : CtxOk t c X W Wx) (j : Str) : Sd t c X W Wx (.str j) := Sd.ofS k fun s h => by
  obtain ⟨i, a, b, rfl, h⟩ := chk_str h
  cases dec_ h
  exact ⟨_, rfl, rfl, pe_const (d := .str j) pe_str (fun _ _ => rfl) fun _ _ => rfl⟩
theorem chk_non {c : Cc} {s : Src} (h : chk c s .non = true) : (∃ a b, s = .e (.Constant .none a b)) ∨ s = .o none := by
  unfold chk at h
  split at h
  all_goals first | contradiction | skip
  · exact .inl ⟨_, _, rfl⟩
  · exact .inr rfl
theorem sd_non (k : CtxOk t c X W Wx) : Sd t c X W Wx .non := by
  have pe : ∀ a b, PE X (.Constant .none a b) (tM W Wx (den t .non)) := fun a b => pe_const (d := .non) pe_non (fun _ _ => rfl) fun _ _ => rfl
  refine ⟨fun e h => ?_, fun e h => ?_, fun op es p h => ?_, fun es h => ?_, fun o h => ?_, fun e tg h => ?_⟩
  · rcases chk_non h with ⟨a, b, z⟩ | z <;> cases z
    exact pe _ _
  · rcases chk_non h with ⟨a, b, z⟩ | z <;> cases z
    exact pt_of k rfl (pe _ _)
  · rcases chk_non h with ⟨a, b, z⟩ | z <;> cases z
  · rcases chk_non h with ⟨a, b, z⟩ | z <;> cases z
  · rcases chk_non h with ⟨a, b, z⟩ | z <;> cases z
    refine PO.weak po_none fun σ H Q hw => ?_
    obtain ⟨ρ, σd, hd, rs, rh, hq⟩ := hw
    exact hq ρ H (Ext.refl _ _) rh
  · rcases chk_non h with ⟨a, b, z⟩ | z <;> cases z
theorem sd_glo (k : CtxOk t c X W Wx) (y : Str) : Sd t c X W Wx (.glo y) := Sd.ofS k fun s h => by
  obtain ⟨x, p, rfl, h⟩ := chk_glo h
  obtain ⟨h1, h2⟩ := and3 h
  cases dec_ h1
  obtain ⟨g1, g2⟩ := glo_ok' k h2
  refine ⟨_, rfl, rfl, ?_⟩
  cases e : t.glob y with
  | none =>
    refine ⟨fun pins s σ H Q I hw => ?_⟩
    obtain ⟨ρ, σd, hd, rs, rh, hq⟩ := hw
    have hq' : Post W ρ H (match t.glob y with | some d => .ok d hd | none => .bad) Q (fun c dd H' => Wx c dd σ H') := hq
    rw [e] at hq'
    exact hq'.elim
  | some d =>
    obtain ⟨u, v, hm, rv, hv⟩ := k.glob y d e
    refine pe_const (d := d) (pe_glob g1 hm rv g2) (fun σ hd => ?_) hv
    show (match t.glob y with | some d => (R.ok d hd : R D) | none => R.bad) = _
    rw [e]
theorem sd_bin (k : CtxOk t c X W Wx) {o : Operator} {a b : Ex} (ha : Sd t c X W Wx a) (hb : Sd t c X W Wx b) : Sd t c X W Wx (.bin o a b) := Sd.ofS k fun s h => by
  obtain ⟨ea, o', eb, p, rfl, h⟩ := chk_bin h
  obtain ⟨h1, h⟩ := and3 h
  obtain ⟨h2, h3⟩ := and3 h
  cases dec_ h1
  exact ⟨_, rfl, rfl, PE.weak (pe_op (op_bin k.K o) (ha.e _ h2) (hb.e _ h3)) fun σ H Q hw => tM_bin (fun _ _ => rfl) hw⟩
theorem sd_neg (k : CtxOk t c X W Wx) {a : Ex} (ha : Sd t c X W Wx a) : Sd t c X W Wx (.neg a) := Sd.ofS k fun s h => by
  obtain ⟨ea, p, rfl, hh⟩ := chk_neg h
  refine ⟨_, rfl, rfl, PE.weak (pe_un un_neg (ha.e _ hh)) fun σ H Q hw => ?_⟩
  obtain ⟨ρ, σd, hd, rs, rh, hq⟩ := hw
  refine ⟨ρ, σd, hd, rs, rh, Post.bind hq fun ρ1 H1 d hd1 x y1 rh1 rv hq1 => ?_⟩
  cases d with
  | int i => exact ⟨i, rv, Post.same hq1 rh1 rfl⟩
  | _ => exact hq1.elim
theorem sd_cmp (k : CtxOk t c X W Wx) {o : CmpOp} {a b : Ex} (ha : Sd t c X W Wx a) (hb : Sd t c X W Wx b) : Sd t c X W Wx (.cmp o a b) := Sd.ofT fun s h => by
  obtain ⟨ea, o', eb, p, rfl, h⟩ := chk_cmp h
  obtain ⟨h1, h⟩ := and3 h
  obtain ⟨h2, h⟩ := and3 h
  obtain ⟨h3, h4⟩ := and3 h
  cases dec_ h1
  have hm : behindInMarks o eb = false := by simpa using h2
  refine ⟨_, rfl, (fun _ _ _ z => nomatch z), PE.weak (pe_cmpR (op_cmp k.K k.units o) (ha.e _ h3) (hb.e _ h4) hm) fun σ H Q hw => tM_bin (fun _ _ => rfl) hw, PT.weak (pt_cmpR (op_cmp k.K k.units o) (ha.e _ h3) (hb.e _ h4) hm) fun σ H Q hw => ?_⟩
  obtain ⟨ρ, σd, hd, rs, rh, hq⟩ := hw
  refine ⟨ρ, σd, hd, rs, rh, Post.bind (Post.tst k.K hq) fun ρ1 H1 d hd1 x y1 rh1 rv hq1 => ⟨ρ1, σd, hd1, rs.ext y1, rh1, Post.bind hq1 fun ρ2 H2 e hd2 z y2 rh2 rw' hq2 => ⟨ρ2, hd2, d, e, _, rh2, RV.ext y2 _ _ rv, rw', post_bl k.K hq2⟩⟩⟩
/-- a comparison's end is a truth value -/
theorem post_bl2 {ρ : List Addr} {H : Hp} {op : CmpOp} {a b : D} {hd : Hd} {Q Q' : VK} {E : XK} {f : D → M D} (h : Post W ρ H ((cmpD op a b hd).bind f) Q E) (k : ∀ ρ1 H1 b hd1, Ext ρ H ρ1 H1 → RH W ρ1 H1 hd1 → Post W ρ1 H1 (f (.bl b) hd1) Q E → Q' (.bl b) H1) : Post W ρ H (cmpD op a b hd) Q' E := by
  cases e : cmpD op a b hd with
  | ok z h' =>
    rw [e] at h
    obtain ⟨b, rfl⟩ := cmpD_bl e
    intro ρ1 H1 v y rh rv
    have rv' : v = V.bl b := rv
    subst rv'
    exact k ρ1 H1 b h' y rh (Post.ext y h)
  | ex z h' => exact (cmpD_nx e).elim
  | bad => rw [e] at h; exact h
theorem sd_chn (k : CtxOk t c X W Wx) {o o' : CmpOp} {a b d : Ex} (ha : Sd t c X W Wx a) (hb : Sd t c X W Wx b) (hd : Sd t c X W Wx d) : Sd t c X W Wx (.chn o o' a b d) := Sd.ofT fun s h => by
  obtain ⟨ea, o1, o2, eb, ed, p, rfl, h⟩ := chk_chn h
  obtain ⟨h1, h⟩ := and3 h
  obtain ⟨h1', h⟩ := and3 h
  obtain ⟨h2, h⟩ := and3 h
  obtain ⟨h3, h⟩ := and3 h
  obtain ⟨h4, h5⟩ := and3 h
  cases dec_ h1
  cases dec_ h1'
  have hm : lastMarks [o, o'] [eb, ed] = false := by simpa using h2
  have core : ∀ {σ H Q}, tM W Wx (den t (.chn o o' a b d)) σ H Q → tChain (rD W (cmpD o)) (rD W (cmpD o')) (tM W Wx (den t a)) (tM W Wx (den t b)) (tM W Wx (den t d)) σ H Q := fun {σ H Q} hw => by
    obtain ⟨ρ, σd, hh, rs, rh, hq⟩ := hw
    refine ⟨ρ, σd, hh, rs, rh, Post.bind hq fun ρ1 H1 x hd1 v y1 rh1 rv hq1 => ⟨ρ1, σd, hd1, rs.ext y1, rh1, Post.bind hq1 fun ρ2 H2 y hd2 w y2 rh2 rw' hq2 => ⟨ρ2, hd2, x, y, _, rh2, RV.ext y2 _ _ rv, rw', post_bl2 hq2 fun ρ3 H3 q hd3 y3 rh3 hq3 => ⟨q, rfl, ?_⟩⟩⟩⟩
    cases q with
    | true =>
      rw [if_pos rfl]
      exact ⟨ρ3, σd, hd3, (rs.ext (y1.trans y2)).ext y3, rh3, Post.bind hq3 fun ρ4 H4 z hd4 u y4 rh4 rz hq4 => ⟨ρ4, hd4, y, z, _, rh4, RV.ext (y3.trans y4) _ _ rw', rz, hq4⟩⟩
    | false =>
      rw [if_neg (by decide)]
      exact Post.same hq3 rh3 rfl
  refine ⟨_, rfl, (fun _ _ _ z => nomatch z), PE.weak (pe_chain (op_cmp k.K k.units o) (op_cmp k.K k.units o') (ha.e _ h3) (hb.e _ h4) (hd.e _ h5) hm) fun σ H Q hw => core hw, PT.weak (pt_chain (op_cmp k.K k.units o) (op_cmp k.K k.units o') (ha.e _ h3) (hb.e _ h4) (hd.e _ h5) hm) fun σ H Q hw => core ?_⟩
  obtain ⟨ρ, σd, hh, rs, rh, hq⟩ := hw
  refine ⟨ρ, σd, hh, rs, rh, ?_⟩
  have hq' := Post.tst k.K hq
  -- the end is a truth value
  have bl : ∀ z hz, den t (.chn o o' a b d) σd hh = .ok z hz → ∃ q, z = .bl q := by
    intro z hz e
    have e' : ((den t a σd hh).bind fun x h1 => (den t b σd h1).bind fun y h2 => (cmpD o x y h2).bind fun z h3 => match z with
      | .bl true => (den t d σd h3).bind fun w => cmpD o' y w
      | .bl false => .ok (.bl false) h3
      | _ => .bad) = .ok z hz := e
    cases q1 : den t a σd hh with
    | ok x h1 =>
      rw [q1] at e'
      simp only [R.bind_ok] at e'
      cases q2 : den t b σd h1 with
      | ok y h2 =>
        rw [q2] at e'
        simp only [R.bind_ok] at e'
        cases q3 : cmpD o x y h2 with
        | ok u h3 =>
          rw [q3] at e'
          simp only [R.bind_ok] at e'
          split at e'
          · cases q4 : den t d σd h3 with
            | ok w h4 =>
              rw [q4] at e'
              exact cmpD_bl e'
            | ex _ _ => rw [q4] at e'; cases e'
            | bad => rw [q4] at e'; cases e'
          · cases e'; exact ⟨_, rfl⟩
          · cases e'
        | ex _ _ => rw [q3] at e'; cases e'
        | bad => rw [q3] at e'; cases e'
      | ex _ _ => rw [q2] at e'; cases e'
      | bad => rw [q2] at e'; cases e'
    | ex _ _ => rw [q1] at e'; cases e'
    | bad => rw [q1] at e'; cases e'
  cases e : den t (.chn o o' a b d) σd hh with
  | ok z hz =>
    rw [e] at hq'
    obtain ⟨q, rfl⟩ := bl z hz e
    intro ρ1 H1 v y rh1 rv
    have rv' : v = V.bl q := rv
    subst rv'
    obtain ⟨k', tr, q'⟩ := hq' ρ1 H1 _ y rh1 rfl
    have tr' : k' = q := tr
    subst tr'
    exact ⟨k', rfl, q'⟩
  | ex z h' => rw [e] at hq'; exact hq'
  | bad => rw [e] at hq'; exact hq'
/-- `and` as a test -/
theorem tst_and {ρ : List Addr} {H : Hp} {r : R D} {m : M D} {Q Q' : Bool → Hp → Prop} {E : XK} (h : PostB W ρ H (tstD (r.bind fun x h1 => match x with
    | .bl true => m h1
    | .bl false => .ok (.bl false) h1
    | _ => .bad)) Q E) (k : ∀ ρ1 H1 hd1, Ext ρ H ρ1 H1 → RH W ρ1 H1 hd1 → PostB W ρ1 H1 (tstD (m hd1)) Q E → Q' true H1) (k0 : ∀ H1, Q false H1 → Q' false H1) : PostB W ρ H (tstD r) Q' E := by
  cases r with
  | ok d hd =>
    cases d with
    | bl b =>
      cases b with
      | true => exact fun ρ1 H1 y rh => k ρ1 H1 hd y rh (PostB.ext y h)
      | false => exact fun ρ1 H1 y rh => k0 H1 (h ρ1 H1 y rh)
    | _ => exact h.elim
  | ex e hd => exact h
  | bad => exact h
theorem tst_or {ρ : List Addr} {H : Hp} {r : R D} {m : M D} {Q Q' : Bool → Hp → Prop} {E : XK} (h : PostB W ρ H (tstD (r.bind fun x h1 => match x with
    | .bl true => .ok (.bl true) h1
    | .bl false => m h1
    | _ => .bad)) Q E) (k : ∀ ρ1 H1 hd1, Ext ρ H ρ1 H1 → RH W ρ1 H1 hd1 → PostB W ρ1 H1 (tstD (m hd1)) Q E → Q' false H1) (k0 : ∀ H1, Q true H1 → Q' true H1) : PostB W ρ H (tstD r) Q' E := by
  cases r with
  | ok d hd =>
    cases d with
    | bl b =>
      cases b with
      | false => exact fun ρ1 H1 y rh => k ρ1 H1 hd y rh (PostB.ext y h)
      | true => exact fun ρ1 H1 y rh => k0 H1 (h ρ1 H1 y rh)
    | _ => exact h.elim
  | ex e hd => exact h
  | bad => exact h
theorem sd_and (k : CtxOk t c X W Wx) {a b : Ex} (ha : Sd t c X W Wx a) (hb : Sd t c X W Wx b) : Sd t c X W Wx (.and_ a b) := by
  have pe : ∀ ea eb rest p, chk c (.e ea) a = true → (match rest with
    | [] => chk c (.e eb) b
    | _ :: _ => chk c (.e (.BoolOp .And (eb :: rest) p)) b) = true → PE X (.BoolOp .And (ea :: eb :: rest) p) (tM W Wx (den t (.and_ a b))) := fun ea eb rest p h1 h2 => by
    have he : PE X (.BoolOp .And (eb :: rest) p) (tM W Wx (den t b)) := by
      cases rest with
      | nil => exact pe_one (hb.e _ h2)
      | cons _ _ => exact hb.e _ h2
    refine PE.weak (pe_and (ha.e _ h1) he) fun σ H Q hw => ?_
    obtain ⟨ρ, σd, hh, rs, rh, hq⟩ := hw
    refine ⟨ρ, σd, hh, rs, rh, Post.bind hq fun ρ1 H1 x hd1 v y1 rh1 rv hq1 => ?_⟩
    cases x with
    | bl q =>
      refine ⟨q, rv, ?_⟩
      cases q with
      | true => rw [if_pos rfl]; exact ⟨ρ1, σd, hd1, rs.ext y1, rh1, hq1⟩
      | false => rw [if_neg (by decide)]; exact Post.same hq1 rh1 rfl
    | _ => exact hq1.elim
  have pw : ∀ ea eb rest p, chk c (.e ea) a = true → (match rest with
    | [] => chk c (.e eb) b
    | _ :: _ => chk c (.e (.BoolOp .And (eb :: rest) p)) b) = true → PW X (.BoolOp .And (ea :: eb :: rest) p) (tB' W Wx fun σ h => tstD (den t (.and_ a b) σ h)) := fun ea eb rest p h1 h2 => by
    have he : PW X (.BoolOp .And (eb :: rest) p) (tB' W Wx fun σ h => tstD (den t b σ h)) := by
      cases rest with
      | nil => exact pw_and1 (hb.b _ h2)
      | cons _ _ => exact hb.w _ _ _ h2
    refine PW.weak (pw_and (ha.b _ h1) he) fun σ H Q hw => ?_
    obtain ⟨ρ, σd, hh, rs, rh, hq⟩ := hw
    exact ⟨ρ, σd, hh, rs, rh, tst_and hq (fun ρ1 H1 hd1 y1 rh1 hq1 => by rw [if_pos rfl]; exact ⟨ρ1, σd, hd1, rs.ext y1, rh1, hq1⟩) fun H1 q => by rw [if_neg (by decide)]; exact q⟩
  have inv : ∀ s, chk c s (.and_ a b) = true → ∃ ea eb rest p, s = .e (.BoolOp .And (ea :: eb :: rest) p) ∧ chk c (.e ea) a = true ∧ (match rest with
    | [] => chk c (.e eb) b
    | _ :: _ => chk c (.e (.BoolOp .And (eb :: rest) p)) b) = true := fun s h => by
    obtain ⟨ea, eb, rest, p, rfl, h⟩ := chk_and_ h
    obtain ⟨h1, h2⟩ := and3 h
    exact ⟨ea, eb, rest, p, rfl, h1, h2⟩
  refine ⟨fun e h => ?_, fun e h => ?_, fun op es p h => ?_, fun es h => ?_, fun o h => ?_, fun e tg h => ?_⟩ <;> obtain ⟨ea, eb, rest, p, z, h1, h2⟩ := inv _ h <;> cases z
  · exact pe _ _ _ _ h1 h2
  · exact (pw _ _ _ _ h1 h2).pt
  · exact pw _ _ _ _ h1 h2
theorem sd_or (k : CtxOk t c X W Wx) {a b : Ex} (ha : Sd t c X W Wx a) (hb : Sd t c X W Wx b) : Sd t c X W Wx (.or_ a b) := by
  have pe : ∀ ea eb rest p, chk c (.e ea) a = true → (match rest with
    | [] => chk c (.e eb) b
    | _ :: _ => chk c (.e (.BoolOp .Or (eb :: rest) p)) b) = true → PE X (.BoolOp .Or (ea :: eb :: rest) p) (tM W Wx (den t (.or_ a b))) := fun ea eb rest p h1 h2 => by
    have he : PE X (.BoolOp .Or (eb :: rest) p) (tM W Wx (den t b)) := by
      cases rest with
      | nil => exact pe_one (hb.e _ h2)
      | cons _ _ => exact hb.e _ h2
    refine PE.weak (pe_or (ha.e _ h1) he) fun σ H Q hw => ?_
    obtain ⟨ρ, σd, hh, rs, rh, hq⟩ := hw
    refine ⟨ρ, σd, hh, rs, rh, Post.bind hq fun ρ1 H1 x hd1 v y1 rh1 rv hq1 => ?_⟩
    cases x with
    | bl q =>
      refine ⟨q, rv, ?_⟩
      cases q with
      | false => rw [if_neg (by decide)]; exact ⟨ρ1, σd, hd1, rs.ext y1, rh1, hq1⟩
      | true => rw [if_pos rfl]; exact Post.same hq1 rh1 rfl
    | _ => exact hq1.elim
  have pw : ∀ ea eb rest p, chk c (.e ea) a = true → (match rest with
    | [] => chk c (.e eb) b
    | _ :: _ => chk c (.e (.BoolOp .Or (eb :: rest) p)) b) = true → PW X (.BoolOp .Or (ea :: eb :: rest) p) (tB' W Wx fun σ h => tstD (den t (.or_ a b) σ h)) := fun ea eb rest p h1 h2 => by
    have he : PW X (.BoolOp .Or (eb :: rest) p) (tB' W Wx fun σ h => tstD (den t b σ h)) := by
      cases rest with
      | nil => exact pw_or1 (hb.b _ h2)
      | cons _ _ => exact hb.w _ _ _ h2
    refine PW.weak (pw_or (ha.b _ h1) he) fun σ H Q hw => ?_
    obtain ⟨ρ, σd, hh, rs, rh, hq⟩ := hw
    exact ⟨ρ, σd, hh, rs, rh, tst_or hq (fun ρ1 H1 hd1 y1 rh1 hq1 => by rw [if_neg (by decide)]; exact ⟨ρ1, σd, hd1, rs.ext y1, rh1, hq1⟩) fun H1 q => by rw [if_pos rfl]; exact q⟩
  have inv : ∀ s, chk c s (.or_ a b) = true → ∃ ea eb rest p, s = .e (.BoolOp .Or (ea :: eb :: rest) p) ∧ chk c (.e ea) a = true ∧ (match rest with
    | [] => chk c (.e eb) b
    | _ :: _ => chk c (.e (.BoolOp .Or (eb :: rest) p)) b) = true := fun s h => by
    obtain ⟨ea, eb, rest, p, rfl, h⟩ := chk_or_ h
    obtain ⟨h1, h2⟩ := and3 h
    exact ⟨ea, eb, rest, p, rfl, h1, h2⟩
  refine ⟨fun e h => ?_, fun e h => ?_, fun op es p h => ?_, fun es h => ?_, fun o h => ?_, fun e tg h => ?_⟩ <;> obtain ⟨ea, eb, rest, p, z, h1, h2⟩ := inv _ h <;> cases z
  · exact pe _ _ _ _ h1 h2
  · exact (pw _ _ _ _ h1 h2).pt
  · exact pw _ _ _ _ h1 h2
theorem sd_not (k : CtxOk t c X W Wx) {a : Ex} (ha : Sd t c X W Wx a) : Sd t c X W Wx (.not_ a) := Sd.ofT fun s h => by
  obtain ⟨ea, p, rfl, h⟩ := chk_not_ h
  refine ⟨_, rfl, (fun _ _ _ z => nomatch z), PE.weak (pe_notT (ha.e _ h)) fun σ H Q hw => ?_, PT.weak (pt_not (ha.b _ h)) fun σ H Q hw => ?_⟩
  · obtain ⟨ρ, σd, hd, rs, rh, hq⟩ := hw
    refine ⟨ρ, σd, hd, rs, rh, Post.bind hq fun ρ1 H1 d hd1 x y1 rh1 rv hq1 => ?_⟩
    have hq2 : Post W ρ1 H1 (match truD d hd1 with
      | some b => .ok (.bl (!b)) hd1
      | none => .bad) Q (fun c dd H' => Wx c dd σ H') := hq1
    split at hq2
    · rename_i q e
      exact ⟨q, tru_of k.K rh1 rv e, Post.same hq2 rh1 rfl⟩
    · exact hq2.elim
  · obtain ⟨ρ, σd, hd, rs, rh, hq⟩ := hw
    refine ⟨ρ, σd, hd, rs, rh, ?_⟩
    have hq' : PostB W ρ H (tstD ((den t a σd hd).bind fun x => notD x)) Q (fun c dd H' => Wx c dd σ H') := hq
    show PostB W ρ H (tstD (den t a σd hd)) _ _
    cases e : den t a σd hd with
    | ok d h1 =>
      rw [e] at hq'
      have hq2 : PostB W ρ H (tstD (match truD d h1 with
        | some b => .ok (.bl (!b)) h1
        | none => .bad)) Q (fun c dd H' => Wx c dd σ H') := hq'
      show PostB W ρ H (match truD d h1 with
        | some b => .ok b h1
        | none => .bad) _ _
      split at hq2
      · exact hq2
      · exact hq2.elim
    | ex _ _ => rw [e] at hq'; exact hq'
    | bad => rw [e] at hq'; exact hq'
theorem PostB.bindB {ρ : List Addr} {H : Hp} {r : R Bool} {f : Bool → M D} {Q Q' : Bool → Hp → Prop} {E : XK} (h : PostB W ρ H (tstD (r.bind f)) Q E)
    (k : ∀ ρ1 H1 b hd1, Ext ρ H ρ1 H1 → RH W ρ1 H1 hd1 → PostB W ρ1 H1 (tstD (f b hd1)) Q E → Q' b H1) : PostB W ρ H r Q' E := by
  cases r with
  | ok d hd => exact fun ρ1 H1 y hh => k ρ1 H1 d hd y hh (PostB.ext y h)
  | ex e hd => exact h
  | bad => exact h
theorem sd_ifx (k : CtxOk t c X W Wx) {q a b : Ex} (hc : Sd t c X W Wx q) (ha : Sd t c X W Wx a) (hb : Sd t c X W Wx b) : Sd t c X W Wx (.ifx q a b) := Sd.ofT fun s h => by
  obtain ⟨eq, ea, eb, p, rfl, h⟩ := chk_ifx h
  obtain ⟨h1, h⟩ := and3 h
  obtain ⟨h2, h3⟩ := and3 h
  refine ⟨_, rfl, (fun _ _ _ z => nomatch z), PE.weak (pe_ifExp (hc.b _ h1) (ha.e _ h2) (hb.e _ h3)) fun σ H Q hw => ?_, ⟨fun pins s σ H Q I hw => ?_⟩⟩
  · obtain ⟨ρ, σd, hd, rs, rh, hq⟩ := hw
    refine ⟨ρ, σd, hd, rs, rh, PostB.bind hq fun ρ1 H1 b hd1 y1 rh1 hq1 => ?_⟩
    cases b with
    | true => rw [if_pos rfl] at hq1 ⊢; exact ⟨ρ1, σd, hd1, rs.ext y1, rh1, hq1⟩
    | false => rw [if_neg (by decide)] at hq1 ⊢; exact ⟨ρ1, σd, hd1, rs.ext y1, rh1, hq1⟩
  · obtain ⟨ρ, σd, hd, rs, rh, hq⟩ := hw
    refine isTrue_IfExp (thn ((hc.b _ h1).run pins s σ H (fun bb H1 => if bb = true then tB' W Wx (fun σ h => tstD (den t a σ h)) σ H1 Q else tB' W Wx (fun σ h => tstD (den t b σ h)) σ H1 Q) I ⟨ρ, σd, hd, rs, rh, PostB.bindB hq fun ρ1 H1 b hd1 y1 rh1 hq1 => ?_⟩) fun b s1 ⟨H1, I1, q1⟩ => ?_)
    · cases b with
      | true => rw [if_pos rfl] at hq1 ⊢; exact ⟨ρ1, σd, hd1, rs.ext y1, rh1, hq1⟩
      | false => rw [if_neg (by decide)] at hq1 ⊢; exact ⟨ρ1, σd, hd1, rs.ext y1, rh1, hq1⟩
    · cases b with
      | true => exact (ha.b _ h2).run pins s1 σ H1 Q I1 q1
      | false => exact (hb.b _ h3).run pins s1 σ H1 Q I1 q1
end
end Ev

/-! Ev, part 11: every expression means what is told: the rest. -/
namespace Ev
open PySem PySem.Spec PyProof.Rows L2
section
variable {t : Rt} {c : Cc} {X : Cx} {W : Wd} {Wx : WX}
theorem Sd.ofL {ex : Ex} (hs : ∀ s, chk c s ex = true → ∃ es, s = .l es ∧ PA X es (tL W Wx (den t ex))) : Sd t c X W Wx ex :=
  ⟨(fun e h => by obtain ⟨_, z, _⟩ := hs _ h; cases z), (fun e h => by obtain ⟨_, z, _⟩ := hs _ h; cases z), (fun op es p h => by obtain ⟨_, z, _⟩ := hs _ h; cases z), (fun _ h => by obtain ⟨_, z, g⟩ := hs _ h; cases z; exact g), (fun _ h => by obtain ⟨_, z, _⟩ := hs _ h; cases z), (fun _ _ h => by obtain ⟨_, z, _⟩ := hs _ h; cases z)⟩
theorem Sd.ofI {ex : Ex} (hs : ∀ s, chk c s ex = true → ∃ e, s = .it e ∧ ∀ tg, PI X tg e (tI W Wx (den t ex))) : Sd t c X W Wx ex :=
  ⟨(fun e h => by obtain ⟨_, z, _⟩ := hs _ h; cases z), (fun e h => by obtain ⟨_, z, _⟩ := hs _ h; cases z), (fun op es p h => by obtain ⟨_, z, _⟩ := hs _ h; cases z), (fun _ h => by obtain ⟨_, z, g⟩ := hs _ h; cases z), (fun _ h => by obtain ⟨_, z, _⟩ := hs _ h; cases z), (fun _ tg h => by obtain ⟨_, z, g⟩ := hs _ h; cases z; exact g tg)⟩
theorem Sd.ofN {ex : Ex} (hs : ∀ s, chk c s ex = true → False) : Sd t c X W Wx ex :=
  ⟨fun _ h => (hs _ h).elim, fun _ h => (hs _ h).elim, fun _ _ _ h => (hs _ h).elim, fun _ h => (hs _ h).elim, fun _ h => (hs _ h).elim, fun _ _ h => (hs _ h).elim⟩
theorem chk_nil {c : Cc} {s : Src} (h : chk c s .nil = true) : s = .l [] := by
  unfold chk at h
  split at h
  all_goals first | contradiction | rfl
theorem sd_nil : Sd t c X W Wx .nil := Sd.ofL fun s h => by
  cases chk_nil h
  refine ⟨_, rfl, PA.weak pa_nil fun σ H Q ⟨ρ, σd, hd, rs, rh, hq⟩ => hq ρ H [] (Ext.refl _ _) rh rfl⟩
theorem notTup {ds : List D} : ∀ (d : D) (h : Hd), (∀ ds, d ≠ .tup ds) → ∀ {f : List D → M D} , (match d with | .tup ys => f ys h | _ => (.bad : R D)) = .bad := by
  intro d h n f
  cases d <;> first | rfl | exact absurd rfl (n _)
theorem PostL.consB {ρ : List Addr} {H : Hp} {r : R D} {x : D} {Q Q' : List V → Hp → Prop} {E : XK} (h : PostL W ρ H (r.bind fun y h2 => match y with
    | .tup ys => .ok (.tup (x :: ys)) h2
    | _ => .bad) Q E) (k : ∀ ρ1 H1 ys hd1 xs, Ext ρ H ρ1 H1 → RH W ρ1 H1 hd1 → RVs W ρ1 H1 ys xs → PostL W ρ1 H1 (.ok (.tup (x :: ys)) hd1) Q E → Q' xs H1) : PostL W ρ H r Q' E := by
  refine PostL.bindL h (fun d h n => ?_) fun ρ1 H1 ds hd1 xs y rh rvs hq => k ρ1 H1 ds hd1 xs y rh rvs hq
  cases d <;> first | rfl | exact absurd rfl (n _)
theorem sd_cons (k : CtxOk t c X W Wx) {a r : Ex} (ha : Sd t c X W Wx a) (hr : Sd t c X W Wx r) : Sd t c X W Wx (.cons a r) := Sd.ofL fun s h => by
  obtain ⟨e, es, rfl, hh⟩ := chk_cons h
  obtain ⟨h1, hh⟩ := and3 hh
  obtain ⟨h2, h3⟩ := and3 hh
  refine ⟨_, rfl, PA.weak (pa_cons (ha.e _ h2) (hr.l _ h3) (star_one h1)) fun σ H Q hw => ?_⟩
  obtain ⟨ρ, σd, hd, rs, rh, hq⟩ := hw
  exact ⟨ρ, σd, hd, rs, rh, Post.bindL hq fun ρ1 H1 d hd1 x y1 rh1 rv hq1 => ⟨ρ1, σd, hd1, rs.ext y1, rh1, PostL.consB hq1 fun ρ2 H2 ys hd2 xs y2 rh2 rvs hq2 => hq2 ρ2 H2 (x :: xs) (Ext.refl _ _) rh2 ⟨x, xs, rfl, RV.ext y2 _ _ rv, rvs⟩⟩⟩
theorem PostL.bindT {ρ : List Addr} {H : Hp} {r : R D} {f : List D → M D} {Q : VK} {Q' : List V → Hp → Prop} {E : XK} (h : Post W ρ H (r.bind fun y h2 => match y with
    | .tup ys => f ys h2
    | _ => .bad) Q E) (k : ∀ ρ1 H1 ys hd1 xs, Ext ρ H ρ1 H1 → RH W ρ1 H1 hd1 → RVs W ρ1 H1 ys xs → Post W ρ1 H1 (f ys hd1) Q E → Q' xs H1) : PostL W ρ H r Q' E := by
  refine PostL.bind h (fun d h n => ?_) fun ρ1 H1 ds hd1 xs y rh rvs hq => k ρ1 H1 ds hd1 xs y rh rvs hq
  cases d <;> first | rfl | exact absurd rfl (n _)
theorem sd_tup (k : CtxOk t c X W Wx) {r : Ex} (hr : Sd t c X W Wx r) : Sd t c X W Wx (.tup r) := Sd.ofS k fun s h => by
  obtain ⟨es, kk, p, rfl, hh⟩ := chk_tup h
  refine ⟨_, rfl, rfl, PE.weak (pe_tup (hr.l _ hh)) fun σ H Q hw => ?_⟩
  obtain ⟨ρ, σd, hd, rs, rh, hq⟩ := hw
  refine ⟨ρ, σd, hd, rs, rh, PostL.bindT hq fun ρ1 H1 ys hd1 xs y1 rh1 rvs hq1 => ?_⟩
  have hq2 : Post W ρ1 H1 (if szB ys.length = true then .ok (.tup ys) hd1 else .bad) Q (fun c dd H' => Wx c dd σ H') := hq1
  by_cases z : szB ys.length = true
  · rw [if_pos z] at hq2
    exact ⟨by rw [rvs.length]; exact of_decide_eq_true z, hq2.newT rh1 rvs⟩
  · rw [if_neg z] at hq2; exact hq2.elim
theorem sd_lst (k : CtxOk t c X W Wx) {r : Ex} (hr : Sd t c X W Wx r) : Sd t c X W Wx (.lst r) := Sd.ofS k fun s h => by
  obtain ⟨es, p, rfl, hh⟩ := chk_lst h
  refine ⟨_, rfl, rfl, PE.weak (pe_lst (hr.l _ hh)) fun σ H Q hw => ?_⟩
  obtain ⟨ρ, σd, hd, rs, rh, hq⟩ := hw
  refine ⟨ρ, σd, hd, rs, rh, PostL.bindT hq fun ρ1 H1 ys hd1 xs y1 rh1 rvs hq1 => ?_⟩
  have hq2 : Post W ρ1 H1 (if szB ys.length = true then .ok (.loc hd1.length) (hd1 ++ [.lst ys]) else .bad) Q (fun c dd H' => Wx c dd σ H') := hq1
  by_cases z : szB ys.length = true
  · rw [if_pos z] at hq2
    exact ⟨by rw [rvs.length]; exact of_decide_eq_true z, hq2.newL rh1 rvs⟩
  · rw [if_neg z] at hq2; exact hq2.elim
theorem sd_call (k : CtxOk t c X W Wx) {y : Str} {n : Nat} {r : Ex} (hr : Sd t c X W Wx r) : Sd t c X W Wx (.call y n r) := Sd.ofS k fun s h => by
  obtain ⟨x, q, es, p, rfl, hh⟩ := chk_call h
  obtain ⟨h1, hh⟩ := and3 hh
  obtain ⟨h2, hh⟩ := and3 hh
  obtain ⟨h3, hh⟩ := and3 hh
  obtain ⟨h4, h5⟩ := and3 hh
  cases dec_ h1
  exact ⟨_, rfl, rfl, pe_call_ex k h3 h4 (dec_ h2) h5 (hr.l _ h5)⟩
theorem sd_clv (k : CtxOk t c X W Wx) {i n : Nat} {r : Ex} (hr : Sd t c X W Wx r) : Sd t c X W Wx (.clv i n r) := Sd.ofS k fun s h => by
  obtain ⟨x, q, es, p, rfl, hh⟩ := chk_clv h
  obtain ⟨h1, hh⟩ := and3 hh
  obtain ⟨h2, hh⟩ := and3 hh
  obtain ⟨h3, hh⟩ := and3 hh
  obtain ⟨h4, hh⟩ := and3 hh
  obtain ⟨h5, h6⟩ := and3 hh
  exact ⟨_, rfl, rfl, pe_clv_ex k h3 (dec_ h1) h4 h5 (dec_ h2) h6 (hr.l _ h6)⟩
theorem star_l {e : Expr} {es : List Expr} {r : Ex} {env : Env} {pos : Pos} (h : chk c (.l (e :: es)) r = true) : starEach (e :: es) env = (false, eval e env) :: starEach es env ∧ (backTo pos (starEach es env)).any (·.1) = false := by
  have : ∃ a r', r = .cons a r' := by
    cases r with
    | cons a r' => exact ⟨a, r', rfl⟩
    | _ => cases h
  obtain ⟨a, r', rfl⟩ := this
  obtain ⟨h1, h2⟩ := and3 (show (notStar e && (chk c (.e e) a && chk c (.l es) r')) = true from h)
  obtain ⟨h3, h4⟩ := and3 h2
  exact ⟨star_one h1, star_none h4⟩
theorem sd_bi (k : CtxOk t c X W Wx) {b : Bi} {r : Ex} (hr : Sd t c X W Wx r) : Sd t c X W Wx (.bi b r) := Sd.ofS k fun s h => by
  obtain ⟨x, q, e, es, p, rfl, hh⟩ := chk_bi h
  obtain ⟨h1, hh⟩ := and3 hh
  obtain ⟨h2, hh⟩ := and3 hh
  obtain ⟨h3, h4⟩ := and3 hh
  have hx := dec_ h1
  subst hx
  obtain ⟨g1, g2, g3, g4⟩ := blt_ok k h3
  obtain ⟨s1, s2⟩ := star_l (pos := p) (env := X.env) h4
  have hc : X.calm = true := by rw [k.calm]; exact h2
  have hb := Bi.boot b
  refine ⟨_, rfl, rfl, PE.weak (t := tCB (rBi W (biD b)) (tL W Wx (den t r))) ?_ fun σ H Q hw => ?_⟩
  · have cb := call_bi hc k.K b
    cases b <;> first
      | exact pe_callB cb g1 g3 hb (hr.l _ h4) g4 g2 s1 s2
      | exact pe_callTy cb g1 g3 hb (hr.l _ h4) g4 g2 s1 s2
  · obtain ⟨ρ, σd, hd, rs, rh, hq⟩ := hw
    exact ⟨ρ, σd, hd, rs, rh, PostL.bindT hq fun ρ1 H1 ys hd1 xs y1 rh1 rvs hq1 => ⟨ρ1, hd1, ys, _, rh1, rvs, hq1⟩⟩
theorem sd_isi (k : CtxOk t c X W Wx) {T : Ty} {a : Ex} (ha : Sd t c X W Wx a) : Sd t c X W Wx (.isi T a) := Sd.ofS k fun s h => by
  obtain ⟨x, q, ea, y, q2, p, rfl, hh⟩ := chk_isi h
  obtain ⟨h1, hh⟩ := and3 hh
  obtain ⟨h2, hh⟩ := and3 hh
  obtain ⟨h3, hh⟩ := and3 hh
  obtain ⟨h4, hh⟩ := and3 hh
  obtain ⟨h5, h6⟩ := and3 hh
  have hx := dec_ h1
  subst hx
  have hy := dec_ h2
  subst hy
  obtain ⟨g1, g2, g3, g4⟩ := blt_ok k h3
  obtain ⟨f1, f2, f3, f4⟩ := blt_ok k h4
  refine ⟨_, rfl, rfl, PE.weak (pe_callB call_isi g1 g3 (by decide +kernel) (pa_cons (ha.e _ h6) (pa_cons (pe_bltn (v := .ty T.name) f1 f3 (Ty.boot T) rfl f4 f2) pa_nil rfl) (star_one h5)) g4 g2 (star_one h5) rfl) fun σ H Q hw => ?_⟩
  obtain ⟨ρ, σd, hd, rs, rh, hq⟩ := hw
  refine ⟨ρ, σd, hd, rs, rh, Post.bind hq fun ρ1 H1 d hd1 v y1 rh1 rv hq1 => ?_⟩
  have hq2 : Post W ρ1 H1 (match isiD T d hd1 with
    | some b => .ok (.bl b) hd1
    | none => .bad) Q (fun c dd H' => Wx c dd σ H') := hq1
  split at hq2
  · rename_i b e
    obtain ⟨tt, ty, kb⟩ := isi_of rh1 rv e
    rw [k.K] at ty
    exact ⟨v, .ty T.name, .type tt, .type T.name, b, rfl, .ty _, ty, kb, hq2.same rh1 rfl⟩
  · exact hq2.elim
theorem sd_ix (k : CtxOk t c X W Wx) {a b : Ex} (ha : Sd t c X W Wx a) (hb : Sd t c X W Wx b) : Sd t c X W Wx (.ix a b) := Sd.ofS k fun s h => by
  obtain ⟨ea, eb, p, rfl, hh⟩ := chk_ix h
  obtain ⟨h1, hh⟩ := and3 hh
  obtain ⟨h2, h3⟩ := and3 hh
  exact ⟨_, rfl, rfl, PE.weak (pe_ix (ix_D k.K) (ha.e _ h2) (hb.e _ h3) (plainIx_ok h1)) fun σ H Q hw => tM_bin (fun _ _ => rfl) hw⟩
theorem sd_sl (k : CtxOk t c X W Wx) {a lo hi : Ex} (ha : Sd t c X W Wx a) (hl : Sd t c X W Wx lo) (hu : Sd t c X W Wx hi) : Sd t c X W Wx (.sl a lo hi) := Sd.ofS k fun s h => by
  obtain ⟨ea, el, eu, p2, p, rfl, hh⟩ := chk_sl h
  obtain ⟨h1, hh⟩ := and3 hh
  obtain ⟨h2, h3⟩ := and3 hh
  refine ⟨_, rfl, rfl, PE.weak (pe_slice (sl_D k.K) (ha.e _ h1) (hl.o _ h2) (hu.o _ h3)) fun σ H Q hw => ?_⟩
  obtain ⟨ρ, σd, hd, rs, rh, hq⟩ := hw
  refine ⟨ρ, σd, hd, rs, rh, Post.bind hq fun ρ1 H1 d hd1 x y1 rh1 rv hq1 => ⟨ρ1, σd, hd1, rs.ext y1, rh1, Post.bindO hq1 (fun d' hd' e hx => ?_) fun ρ2 H2 d2 hd2 o y2 rh2 eo hq2 => ⟨ρ2, σd, hd2, (rs.ext y1).ext y2, rh2, Post.bindO (by rw [eo] at hq2; exact hq2) (fun d' hd' e hx => ?_) fun ρ3 H3 d3 hd3 o2 y3 rh3 eo2 hq3 => ?_⟩⟩⟩
  · rw [e] at hx
    exact hx
  · rw [e] at hx
    exact hx
  · rw [eo2] at hq3
    exact ⟨ρ3, hd3, d, _, rh3, RV.ext (y2.trans y3) _ _ rv, hq3⟩
end
end Ev

/-! Ev, part 12: comprehensions, iterables, methods; the whole. -/
namespace Ev
open PySem PySem.Spec PyProof.Rows L2
section
variable {t : Rt} {c : Cc} {X : Cx} {W : Wd} {Wx : WX}
theorem lcLoop_nx {tg : Tg} {vs : List Nat} {cond : En → Hd → R Bool} {elt : En → Hd → R D} {g : D} {all : List D} {e : Xn} {h' : Hd} : ∀ {ds : List D} {σ : En} {acc : List D} {h : Hd}, lcLoop tg vs cond elt g all ds σ acc h = .ex e h' → False
  | [], σ, acc, h, q => by
    unfold lcLoop at q
    split at q <;> cases q
  | d :: r, σ, acc, h, q => by
    unfold lcLoop at q
    split at q
    · split at q
      · split at q
        · split at q
          · split at q
            · exact lcLoop_nx q
            · cases q
          · cases q
        · exact lcLoop_nx q
        · cases q
      · cases q
    · cases q
theorem lcLoop2_nx {tg : Tg} {vs : List Nat} {cond : En → Hd → R Bool} {inner : En → List D → Hd → R (List D)} {g : D} {all : List D} {e : Xn} {h' : Hd} : ∀ {ds : List D} {σ : En} {acc : List D} {h : Hd}, lcLoop2 tg vs cond inner g all ds σ acc h = .ex e h' → False
  | [], σ, acc, h, q => by
    unfold lcLoop2 at q
    split at q <;> cases q
  | d :: r, σ, acc, h, q => by
    unfold lcLoop2 at q
    split at q
    · split at q
      · split at q
        · split at q
          · exact lcLoop2_nx q
          · cases q
        · exact lcLoop2_nx q
        · cases q
      · cases q
    · cases q
theorem PostI.of {ρ : List Addr} {H : Hp} {r : R D} {f : List D → D → M D} {Q : VK} {Q' : It → Hp → Prop} {E : XK} (h : Post W ρ H (r.bind fun y h1 => match y with
    | .tup [.tup ds, g] => f ds g h1
    | _ => .bad) Q E) (k : ∀ ρ1 H1 J ds g hd1, Ext ρ H ρ1 H1 → RH W ρ1 H1 hd1 → JOk W ρ1 H1 J g ds → Post W ρ1 H1 (f ds g hd1) Q E → Q' J H1) : PostI W ρ H r Q' E := by
  cases r with
  | ok d hd =>
    unfold PostI
    split
    · rename_i ds g hd' e
      cases e
      exact fun ρ' H' J x rh jk => k ρ' H' J ds g _ x rh jk (Post.ext x h)
    · rename_i n e
      cases e
      simp only [R.bind_ok] at h
      first
        | exact h
        | (split at h
           · exact absurd rfl (n _ _)
           · exact h)
    · rename_i e; cases e
    · rename_i e; cases e
  | ex e hd => exact h
  | bad => exact h
theorem chk_lc {c : Cc} {s : Src} {vs : List Nat} {tg' : Tg} {it' cond' elt' : Ex} (h : chk c s (.lc vs tg' it' cond' elt') = true) : ∃ elt tg iter ifs a scope p, s = .e (.ListComp elt [⟨tg, iter, ifs, a⟩] scope p) ∧
    (decide (a = 0) && (c.calm && (blkC c.N c.sc scope (ownOf c.N scope) && (decide (vs = (ownOf c.N scope).map (·.2)) && (tg'.ix.all (fun i => decide (i ∈ vs)) && (notSet iter && (chk c (.it iter) it' &&
      (chkT (c.blk scope) (.inl tg) tg' && ((match ifs with
        | [] => isYes cond'
        | [q] => chk (c.blk scope) (.e q) cond'
        | _ => false) && chk (c.blk scope) (.e elt) elt'))))))))) = true := by
  unfold chk at h
  split at h
  all_goals first | contradiction | skip
  rename_i heq
  injection heq with e1 e2 e3 e4 e5
  subst e1 e2 e3 e4 e5
  exact ⟨_, _, _, _, _, _, _, rfl, h⟩
theorem chk_lc2 {c : Cc} {s : Src} {vs vs1 : List Nat} {tg' tg1' : Tg} {it' cond' it1' cond1' elt' : Ex} (h : chk c s (.lc2 vs vs1 tg' it' cond' tg1' it1' cond1' elt') = true) : ∃ elt tg iter ifs a tg1 iter1 ifs1 a1 scope p, s = .e (.ListComp elt [⟨tg, iter, ifs, a⟩, ⟨tg1, iter1, ifs1, a1⟩] scope p) ∧
    (decide (a = 0) && (decide (a1 = 0) && (c.calm && (blkC c.N c.sc scope (ownOf c.N scope) && (decide (vs = (ownOf c.N scope).map (·.2)) &&
      (vs1.all (fun i => decide (i ∈ vs)) && (tg'.ix.all (fun i => decide (i ∈ vs)) && (tg1'.ix.all (fun i => decide (i ∈ vs1)) && (notSet iter && (notSet iter1 && (chk c (.it iter) it' && (chkT (c.blk scope) (.inl tg) tg' && ((match ifs with
        | [] => isYes cond'
        | [q] => chk (c.blk scope) (.e q) cond'
        | _ => false) && (chk (c.blk scope) (.it iter1) it1' && (chkT (c.blk scope) (.inl tg1) tg1' && ((match ifs1 with
        | [] => isYes cond1'
        | [q] => chk (c.blk scope) (.e q) cond1'
        | _ => false) && chk (c.blk scope) (.e elt) elt')))))))))))))))) = true := by
  unfold chk at h
  split at h
  all_goals first | contradiction | skip
  rename_i heq
  injection heq with e1 e2 e3 e4 e5 e6 e7 e8 e9
  subst e1 e2 e3 e4 e5 e6 e7 e8 e9
  exact ⟨_, _, _, _, _, _, _, _, _, _, _, rfl, h⟩
/-- the tests of a clause -/
theorem pts_ex {cond : Ex} {ifs : List Expr} (hc : Sd t c X W Wx cond) (h : (match ifs with
        | [] => isYes cond
        | [q] => chk c (.e q) cond
        | _ => false) = true) : PTs X ifs (tB' W Wx fun σ h => tstD (den t cond σ h)) := by
  cases ifs with
  | nil =>
    have e : cond = .bl true := by
      cases cond with
      | bl b => cases b <;> first | rfl | cases h
      | _ => cases h
    subst e
    refine ⟨fun pins s σ H Q I hw => pts_nil.run pins s σ H Q I ?_⟩
    obtain ⟨ρ, σd, hd, rs, rh, hq⟩ := hw
    exact hq ρ H (Ext.refl _ _) rh
  | cons q r =>
    cases r with
    | nil => exact pts_one (hc.b _ h)
    | cons _ _ => cases h
theorem all_mem {l vs : List Nat} (h : l.all (fun i => decide (i ∈ vs)) = true) : ∀ i ∈ l, i ∈ vs := fun i hi => of_decide_eq_true (List.all_eq_true.mp h i hi)
theorem sd_lc (k : CtxOk t c X W Wx) {vs : List Nat} {tg : Tg} {it cond elt : Ex} (hi : Sd t c X W Wx it) (hc : ∀ c X W Wx, CtxOk t c X W Wx → Sd t c X W Wx cond) (he : ∀ c X W Wx, CtxOk t c X W Wx → Sd t c X W Wx elt) : Sd t c X W Wx (.lc vs tg it cond elt) := Sd.ofS k fun s h => by
  obtain ⟨eelt, etg, eit, ifs, a, scope, p, rfl, hh⟩ := chk_lc h
  obtain ⟨h0, hh⟩ := and3 hh
  obtain ⟨h1, hh⟩ := and3 hh
  obtain ⟨h2, hh⟩ := and3 hh
  obtain ⟨h3, hh⟩ := and3 hh
  obtain ⟨h4, hh⟩ := and3 hh
  obtain ⟨h5, hh⟩ := and3 hh
  obtain ⟨h6, hh⟩ := and3 hh
  obtain ⟨h7, hh⟩ := and3 hh
  obtain ⟨h8, h9⟩ := and3 hh
  have ha := dec_ h0
  subst ha
  have hv := dec_ h3
  subst hv
  have hcX : X.calm = true := by rw [k.calm]; exact h1
  have bo := blkOk_by h2
  rw [← k.N, ← k.sc] at bo
  rw [k.N] at bo
  have kb := fun s H C cl fp => CtxOk.blk k h1 (scope := scope) s H C cl fp
  refine ⟨_, rfl, rfl, PE.weak (pe_lc (own := ownOf c.N scope) hcX (by rw [k.N]; exact k.nd) (hi.i _ etg h6) (by rw [k.N]; exact bo) (fun s H C cl fp => (tg_ok (kb s H C cl fp) tg).1 _ h7) (fun s H C cl fp => pts_ex (hc _ _ _ _ (kb s H C cl fp)) h8) (fun s H C cl fp => (he _ _ _ _ (kb s H C cl fp)).e _ h9) (folded_ok h5)) fun σ H Q hw => ?_⟩
  obtain ⟨ρ, σd, hd, rs, rh, hq⟩ := hw
  refine ⟨ρ, σd, hd, rs, rh, PostI.of hq fun ρ1 H1 J ds g hd1 x1 rh1 jk hq1 => ?_⟩
  intro A nA
  cases e : lcLoop tg ((ownOf c.N scope).map (·.2)) (fun σ h => tstD (den t cond σ h)) (den t elt) g ds ds σd [] hd1 with
  | ok accF hdF =>
    rw [e] at hq1
    have nin : A ∉ ρ1 := rh1.out nA
    have xn : Ext ρ1 H1 ρ1 (upd H1 A (.lst [])) := Ext.new nA
    exact lc_gen (all_mem h4) upd_same nin (show RVs W ρ1 _ [] [] from rfl) (rh1.beside nA) ((rs.ext x1).ext xn) (jk.mono xn.to0) e fun ρ2 H2 ys b b0 rh2 hA2 nA2 ra2 => lc_fin nA hq1 b rh2 hA2 nA2 ra2
  | ex z hz => exact (lcLoop_nx e).elim
  | bad => rw [e] at hq1; exact hq1.elim
theorem sd_lc2 (k : CtxOk t c X W Wx) {vs vs1 : List Nat} {tg tg1 : Tg} {it cond it1 cond1 elt : Ex} (hi : Sd t c X W Wx it) (hc : ∀ c X W Wx, CtxOk t c X W Wx → Sd t c X W Wx cond) (hi1 : ∀ c X W Wx, CtxOk t c X W Wx → Sd t c X W Wx it1) (hc1 : ∀ c X W Wx, CtxOk t c X W Wx → Sd t c X W Wx cond1)
    (he : ∀ c X W Wx, CtxOk t c X W Wx → Sd t c X W Wx elt) : Sd t c X W Wx (.lc2 vs vs1 tg it cond tg1 it1 cond1 elt) := Sd.ofS k fun s h => by
  obtain ⟨eelt, etg, eit, ifs, a, etg1, eit1, ifs1, a1, scope, p, rfl, hh⟩ := chk_lc2 h
  obtain ⟨h0, hh⟩ := and3 hh
  obtain ⟨h0', hh⟩ := and3 hh
  obtain ⟨h1, hh⟩ := and3 hh
  obtain ⟨h2, hh⟩ := and3 hh
  obtain ⟨h3, hh⟩ := and3 hh
  obtain ⟨h3', hh⟩ := and3 hh
  obtain ⟨h4, hh⟩ := and3 hh
  obtain ⟨h4', hh⟩ := and3 hh
  obtain ⟨h5, hh⟩ := and3 hh
  obtain ⟨h5', hh⟩ := and3 hh
  obtain ⟨h6, hh⟩ := and3 hh
  obtain ⟨h7, hh⟩ := and3 hh
  obtain ⟨h8, hh⟩ := and3 hh
  obtain ⟨h9, hh⟩ := and3 hh
  obtain ⟨h10, hh⟩ := and3 hh
  obtain ⟨h11, h12⟩ := and3 hh
  have ha := dec_ h0
  subst ha
  have ha' := dec_ h0'
  subst ha'
  have hv := dec_ h3
  subst hv
  have hcX : X.calm = true := by rw [k.calm]; exact h1
  have bo := blkOk_by h2
  rw [← k.sc] at bo
  have kb := fun s H C cl fp => CtxOk.blk k h1 (scope := scope) s H C cl fp
  refine ⟨_, rfl, rfl, PE.weak (pe_lc2 (own := ownOf c.N scope) (vs1 := vs1) hcX (by rw [k.N]; exact k.nd) (hi.i _ etg h6) (by rw [k.N]; exact bo) (all_mem h3') (fun s H C cl fp => (tg_ok (kb s H C cl fp) tg).1 _ h7) (fun s H C cl fp => pts_ex (hc _ _ _ _ (kb s H C cl fp)) h8)
    (fun s H C cl fp => (hi1 _ _ _ _ (kb s H C cl fp)).i _ etg1 h9) (fun s H C cl fp => (tg_ok (kb s H C cl fp) tg1).1 _ h10) (fun s H C cl fp => pts_ex (hc1 _ _ _ _ (kb s H C cl fp)) h11) (fun s H C cl fp => (he _ _ _ _ (kb s H C cl fp)).e _ h12) (folded_ok h5) (fun env => folded_ok h5')) fun σ H Q hw => ?_⟩
  obtain ⟨ρ, σd, hd, rs, rh, hq⟩ := hw
  refine ⟨ρ, σd, hd, rs, rh, PostI.of hq fun ρ1 H1 J ds g hd1 x1 rh1 jk hq1 => ?_⟩
  intro A nA
  cases e : lcLoop2 tg ((ownOf c.N scope).map (·.2)) (fun σ h => tstD (den t cond σ h)) (lcIn tg1 vs1 (den t it1) (fun σ h => tstD (den t cond1 σ h)) (den t elt)) g ds ds σd [] hd1 with
  | ok accF hdF =>
    rw [e] at hq1
    have nin : A ∉ ρ1 := rh1.out nA
    have xn : Ext ρ1 H1 ρ1 (upd H1 A (.lst [])) := Ext.new nA
    exact lc_gen2 (all_mem h4) (all_mem h4') upd_same nin (show RVs W ρ1 _ [] [] from rfl) (rh1.beside nA) ((rs.ext x1).ext xn) (jk.mono xn.to0) e fun ρ2 H2 ys b b0 rh2 hA2 nA2 ra2 => lc_fin nA hq1 b rh2 hA2 nA2 ra2
  | ex z hz => exact (lcLoop2_nx e).elim
  | bad => rw [e] at hq1; exact hq1.elim
/-! ### a list that nobody changes -/
def tLstF (t : TA) : TE := fun σ H Q => t σ H fun xs H1 => xs.length ≤ sizeLine ∧ ∀ p o, H1 p = none → Q (.ref p) (upd H1 p (.frz o (.lst xs)))
theorem pe_lstF {es : List Expr} {t : TA} {pos : Pos} (h : PA X es t) : PE X (.List es pos) (tLstF t) := by
  refine ⟨fun pins s σ H Q I hq => ?_⟩
  refine wpAny_List_spliced (thn (h.run pos pins s σ H _ I hq) fun us s1 ⟨xs, H1, I1, r, z, q⟩ => ⟨by rw [← r.length]; exact z, ?_⟩)
  have hf : H1 s1.heap.objs.size = none := I1.hok.fresh (Nat.le_refl _)
  have g : (s1.heap.push { cls := .type "list", data := .seq us.toArray }).get? s1.heap.objs.size = some { cls := .type "list", data := .seq us.toArray } := Heap.get?_push_size _ rfl
  refine ⟨.ref s1.heap.objs.size, upd H1 s1.heap.objs.size (.frz { cls := .type "list", data := .seq us.toArray } (.lst xs)), I1.laid (t' := s1.toks) (fun b u e => Heap.get?_push_of_some _ e) (Nat.le_refl _) ⟨g, z, us, 0, r, g⟩, rfl, q _ _ hf⟩
theorem sd_lfr (k : CtxOk t c X W Wx) {r : Ex} (hr : Sd t c X W Wx r) : Sd t c X W Wx (.lfr r) := Sd.ofS k fun s h => by
  obtain ⟨es, p, rfl, hh⟩ := chk_lfr h
  refine ⟨_, rfl, rfl, PE.weak (pe_lstF (hr.l _ hh)) fun σ H Q hw => ?_⟩
  obtain ⟨ρ, σd, hd, rs, rh, hq⟩ := hw
  refine ⟨ρ, σd, hd, rs, rh, PostL.bindT hq fun ρ1 H1 ys hd1 xs y1 rh1 rvs hq1 => ?_⟩
  have hq2 : Post W ρ1 H1 (if szB ys.length = true then .ok (.fro ys) hd1 else .bad) Q (fun c dd H' => Wx c dd σ H') := hq1
  by_cases z : szB ys.length = true
  · rw [if_pos z] at hq2
    exact ⟨by rw [rvs.length]; exact of_decide_eq_true z, fun p o n => hq2 ρ1 _ _ (Ext.new n) (rh1.beside n) ⟨p, xs, rfl, .inl ⟨o, upd_same⟩, RVs.ext (Ext.new n) _ _ rvs⟩⟩
  · rw [if_neg z] at hq2; exact hq2.elim
/-! ### iterables -/
theorem sd_itS (k : CtxOk t c X W Wx) {a : Ex} (ha : Sd t c X W Wx a) : Sd t c X W Wx (.itS a) := Sd.ofI fun s h => by
  obtain ⟨e, rfl, hh⟩ := chk_itS h
  obtain ⟨h1, h2⟩ := and3 hh
  refine ⟨_, rfl, fun tg => PI.weak (pi_seq (ha.e _ h2)) fun σ H Q hw => ?_⟩
  obtain ⟨ρ, σd, hd, rs, rh, hq⟩ := hw
  refine ⟨ρ, σd, hd, rs, rh, Post.bindI hq (fun ρ' H' r' x h => PostI.ext x h) fun ρ1 H1 d hd1 x y1 rh1 rv hq1 => ?_⟩
  have K1 := k.K
  cases d with
  | tup ds =>
    obtain ⟨a, vs, rfl, q, r⟩ := rv
    rw [K1] at q
    refine ⟨a, rfl, .inr ⟨vs, q, hq1 ρ1 H1 _ (Ext.refl _ _) rh1 (jok_tup q r)⟩⟩
  | fro ds =>
    obtain ⟨a, vs, rfl, q, r⟩ := rv
    rw [K1] at q
    refine ⟨a, rfl, .inl ⟨vs, q.sq, hq1 ρ1 H1 _ (Ext.refl _ _) rh1 (jok_fro q r)⟩⟩
  | loc l =>
    have hq2 : PostI W ρ1 H1 (match hd1[l]? with
      | some (.lst ds) => .ok (.tup [.tup ds, .loc l]) hd1
      | _ => .bad) Q (fun c dd H' => Wx c dd σ H') := hq1
    split at hq2
    · rename_i ds e
      obtain ⟨a, vs, rfl, ea, q, r⟩ := rh1.list rv e
      exact ⟨a, rfl, .inl ⟨vs, .of q, hq2 ρ1 H1 _ (Ext.refl _ _) rh1 (jok_lst ea)⟩⟩
    · exact hq2.elim
  | _ => exact hq1.elim
theorem small62_ok {i : Int} (h : small62 i = true) : -(2 ^ 62) ≤ i ∧ i < 2 ^ 62 := by
  unfold small62 at h
  simpa using h
theorem rngI_one {ρ : List Addr} {H : Hp} {ys : List D} {hd : Hd} {vs : List V} {Q : It → Hp → Prop} {E : XK} (rh : RH W ρ H hd) (rv : RVs W ρ H ys vs) (hl : vs.length = 1) (h : PostI W ρ H (rngI ys hd) Q E) : ∃ j : Int, vs = [.int j] ∧ -(2 ^ 62) ≤ j ∧ j < 2 ^ 62 ∧ Q (Itr 0 j.toNat) H := by
  unfold rngI at h
  split at h
  · obtain ⟨v, r, rfl, h1, h2⟩ := rv
    cases h2
    cases (show v = V.int _ from h1)
    split at h
    · rename_i z
      obtain ⟨z1, z2⟩ := small62_ok z
      exact ⟨_, rfl, z1, z2, h ρ H _ (Ext.refl _ _) rh jok_rng⟩
    · exact h.elim
  · rw [rv.length] at hl; simp at hl
  · exact h.elim
theorem rngI_two {ρ : List Addr} {H : Hp} {ys : List D} {hd : Hd} {vs : List V} {Q : It → Hp → Prop} {E : XK} (rh : RH W ρ H hd) (rv : RVs W ρ H ys vs) (hl : vs.length = 2) (h : PostI W ρ H (rngI ys hd) Q E) : ∃ i j : Int, vs = [.int i, .int j] ∧ (-(2 ^ 62) ≤ i ∧ i < 2 ^ 62 ∧ -(2 ^ 62) ≤ j ∧ j < 2 ^ 62) ∧ Q (Itr i (j - i).toNat) H := by
  unfold rngI at h
  split at h
  · rw [rv.length] at hl; simp at hl
  · obtain ⟨v, r, rfl, h1, v2, r2, rfl, h2, h3⟩ := rv
    cases h3
    cases (show v = V.int _ from h1)
    cases (show v2 = V.int _ from h2)
    split at h
    · rename_i z
      obtain ⟨z1, z2⟩ := and3 z
      obtain ⟨a1, a2⟩ := small62_ok z1
      obtain ⟨b1, b2⟩ := small62_ok z2
      exact ⟨_, _, rfl, ⟨a1, a2, b1, b2⟩, h ρ H _ (Ext.refl _ _) rh jok_rng⟩
    · exact h.elim
  · exact h.elim
theorem PostL.bindI {ρ : List Addr} {H : Hp} {r : R D} {f : List D → Hd → R D} {Q : It → Hp → Prop} {Q' : List V → Hp → Prop} {E : XK} (h : PostI W ρ H (r.bind fun y h2 => match y with
    | .tup ys => f ys h2
    | _ => .bad) Q E) (k : ∀ ρ1 H1 ys hd1 xs, Ext ρ H ρ1 H1 → RH W ρ1 H1 hd1 → RVs W ρ1 H1 ys xs → PostI W ρ1 H1 (f ys hd1) Q E → Q' xs H1) : PostL W ρ H r Q' E := by
  cases r with
  | ok d hd =>
    cases d with
    | tup ds => exact fun ρ1 H1 x y hh rv => k ρ1 H1 ds hd x y hh rv (PostI.ext y h)
    | _ => exact h.elim
  | ex e hd => exact h
  | bad => exact h
theorem PA.len {es : List Expr} {r : Ex} (hc : chk c (.l es) r = true) {σd : En} {hd hd1 : Hd} {ys : List D} : den t r σd hd = .ok (.tup ys) hd1 → ys.length = es.length := by
  induction es generalizing r hd ys with
  | nil =>
    intro e
    have : r = .nil := by
      cases r <;> first | rfl | cases hc
    subst this
    cases e
    rfl
  | cons e es ih =>
    intro q
    cases r with
    | cons a r =>
      obtain ⟨h1, hh⟩ := and3 (show (notStar e && (chk c (.e e) a && chk c (.l es) r)) = true from hc)
      obtain ⟨h2, h3⟩ := and3 hh
      have q' : ((den t a σd hd).bind fun x h1 => (den t r σd h1).bind fun y h2 => match y with
        | .tup ys => (R.ok (D.tup (x :: ys)) h2 : R D)
        | _ => R.bad) = .ok (.tup ys) hd1 := q
      cases q1 : den t a σd hd with
      | ok x h1 =>
        rw [q1] at q'
        simp only [R.bind_ok] at q'
        cases q2 : den t r σd h1 with
        | ok y h2 =>
          rw [q2] at q'
          simp only [R.bind_ok] at q'
          split at q'
          · rename_i zs
            cases q'
            have := ih h3 q2
            simp [this]
          · cases q'
        | ex _ _ => rw [q2] at q'; cases q'
        | bad => rw [q2] at q'; cases q'
      | ex _ _ => rw [q1] at q'; cases q'
      | bad => rw [q1] at q'; cases q'
    | _ => cases hc
theorem rngI_len {ρ : List Addr} {H : Hp} {r : R D} {Q : It → Hp → Prop} {E : XK} {n : Nat} (hn : ∀ ys hd1, r = .ok (.tup ys) hd1 → ys.length = n) (h : PostI W ρ H (r.bind fun y h1 => match y with
    | .tup ys => rngI ys h1
    | _ => .bad) Q E) : PostI W ρ H (r.bind fun y h1 => match y with
    | .tup ys => if ys.length = n then rngI ys h1 else .bad
    | _ => .bad) Q E := by
  cases r with
  | ok d hd =>
    cases d with
    | tup ys =>
      have := hn ys hd rfl
      show PostI W ρ H (if ys.length = n then rngI ys hd else .bad) Q E
      rw [if_pos this]
      exact h
    | _ => exact h
  | ex e hd => exact h
  | bad => exact h
theorem sd_itR (k : CtxOk t c X W Wx) {r : Ex} (hr : Sd t c X W Wx r) : Sd t c X W Wx (.itR r) := Sd.ofI fun s h => by
  obtain ⟨x, q, es, p, rfl, hh⟩ := chk_itR h
  obtain ⟨h1, hh⟩ := and3 hh
  obtain ⟨h2, hh⟩ := and3 hh
  obtain ⟨h3, h4⟩ := and3 hh
  have hx := dec_ h1
  subst hx
  obtain ⟨g1, g2, g3, g4⟩ := blt_ok k h2
  refine ⟨_, rfl, fun tg => ?_⟩
  have two : es.length = 1 ∨ es.length = 2 := by simpa using h3
  rcases two with z | z
  · obtain ⟨a, rfl⟩ := List.length_eq_one_iff.mp z
    obtain ⟨s1, s2⟩ := star_l (pos := p) (env := X.env) h4
    refine PI.weak (pi_range1 g1 g3 (hr.l _ h4) s1) fun σ H Q hw => ?_
    obtain ⟨ρ, σd, hd, rs, rh, hq⟩ := hw
    refine ⟨ρ, σd, hd, rs, rh, PostL.bindI (f := fun ys h1 => if ys.length = 1 then rngI ys h1 else .bad) (rngI_len (fun ys hd1 e => PA.len h4 e) hq) fun ρ1 H1 ys hd1 xs y1 rh1 rvs hq1 => ?_⟩
    by_cases e : ys.length = 1
    · rw [if_pos e] at hq1
      exact rngI_one rh1 rvs (by rw [rvs.length]; exact e) hq1
    · rw [if_neg e] at hq1; exact hq1.elim
  · obtain ⟨a, b, rfl⟩ : ∃ a b, es = [a, b] := by
      match es, z with
      | [a, b], _ => exact ⟨a, b, rfl⟩
    obtain ⟨s1, s2⟩ := star_l (pos := p) (env := X.env) h4
    have h4' : ∃ a' r', r = .cons a' r' ∧ chk c (.l [b]) r' = true := by
      cases r with
      | cons a' r' =>
        obtain ⟨_, hh⟩ := and3 (show (notStar a && (chk c (.e a) a' && chk c (.l [b]) r')) = true from h4)
        exact ⟨a', r', rfl, (and3 hh).2⟩
      | _ => cases h4
    obtain ⟨a', r', rfl, h5⟩ := h4'
    obtain ⟨s3, s4⟩ := star_l (pos := p) (env := X.env) h5
    refine PI.weak (pi_range2 g1 g3 (hr.l _ h4) (by rw [s1, s3]; rfl) (by rw [s3]; rfl)) fun σ H Q hw => ?_
    obtain ⟨ρ, σd, hd, rs, rh, hq⟩ := hw
    refine ⟨ρ, σd, hd, rs, rh, PostL.bindI (f := fun ys h1 => if ys.length = 2 then rngI ys h1 else .bad) (rngI_len (fun ys hd1 e => PA.len h4 e) hq) fun ρ1 H1 ys hd1 xs y1 rh1 rvs hq1 => ?_⟩
    by_cases e : ys.length = 2
    · rw [if_pos e] at hq1
      exact rngI_two rh1 rvs (by rw [rvs.length]; exact e) hq1
    · rw [if_neg e] at hq1; exact hq1.elim
end
end Ev

/-! Ev, part 13: every expression means what is told. -/
namespace Ev
open PySem PySem.Spec PyProof.Rows L2
section
variable {t : Rt} {c : Cc} {X : Cx} {W : Wd} {Wx : WX}
theorem sd_pt (k : CtxOk t c X W Wx) {a : Ex} (ha : Sd t c X W Wx a) : Sd t c X W Wx (.pt a) := by
  refine ⟨fun e h => ?_, fun e h => ?_, fun op es p h => ?_, fun es h => ?_, fun o h => ?_, fun e tg h => ?_⟩ <;> obtain ⟨e', z, hh⟩ := chk_pt h <;> cases z
  refine PO.weak (po_some (ha.e _ hh)) fun σ H Q hw => ?_
  obtain ⟨ρ, σd, hd, rs, rh, hq⟩ := hw
  have hq' : PostO W ρ H ((den t a σd hd).bind fun x h1 => match x with
    | .int i => .ok (.int i) h1
    | _ => .bad) Q (fun c dd H' => Wx c dd σ H') := hq
  refine ⟨ρ, σd, hd, rs, rh, ?_⟩
  cases e : den t a σd hd with
  | ok d h1 =>
    rw [e] at hq'
    cases d with
    | int i =>
      intro ρ1 H1 v y rh1 rv
      exact ⟨i, rv, hq' ρ1 H1 y rh1⟩
    | _ => exact hq'.elim
  | ex z h1 => rw [e] at hq'; exact hq'
  | bad => rw [e] at hq'; exact hq'
theorem few1 {e : Expr} {env : Env} {cpos : Pos} (hs : starEach [e] env = (false, eval e env) :: starEach [] env) : ((backTo cpos (starEach [e] env)).all (fun x => !x.1) && (backToKw cpos (keywordEach [] env)).all (fun x => x.1.isSome)
      && decide ([e].length + ([] : List Keyword).length + (if ([] : List Keyword).isEmpty then 0 else 1) < 30)) = true := by
  rw [hs]
  rfl
theorem sd_mth (k : CtxOk t c X W Wx) {m : Mt} {o r : Ex} (ho : Sd t c X W Wx o) (hr : Sd t c X W Wx r) : Sd t c X W Wx (.mth m o r) := Sd.ofS k fun s h => by
  obtain ⟨ob, po, x, apos, e, cpos, rfl, hh⟩ := chk_mth h
  obtain ⟨h1, hh⟩ := and3 hh
  obtain ⟨h2, hh⟩ := and3 hh
  obtain ⟨h3, hh⟩ := and3 hh
  obtain ⟨h4, hh⟩ := and3 hh
  obtain ⟨h5, h6⟩ := and3 hh
  have hx := dec_ h1
  subst hx
  have hs := star_one (es := []) (env := X.env) h4
  have hl : (apos.endLine == cpos.line) = true := by simpa using h3
  have core : ∀ {σ H Q}, (m = .append ∨ m = .extend) → tM W Wx (den t (.mth m o r)) σ H Q → tBM X.K "list" (rMt W (mthD m)) (tM W Wx (den t o)) (tL W Wx (den t r)) σ H Q := fun {σ H Q} hm hw => by
    obtain ⟨ρ, σd, hd, rs, rh, hq⟩ := hw
    refine ⟨ρ, σd, hd, rs, rh, Post.bind hq fun ρ1 H1 d hd1 v y1 rh1 rv hq1 => ?_⟩
    have hq2 : Post W ρ1 H1 (if mtyD m d hd1 = true then (den t r σd hd1).bind fun y h2 => match y with
      | .tup ys => mthD m d ys h2
      | _ => .bad
      else .bad) Q (fun c dd H' => Wx c dd σ H') := hq1
    by_cases z : mtyD m d hd1 = true
    · rw [if_pos z] at hq2
      refine ⟨?_, ρ1, σd, hd1, rs.ext y1, rh1, PostL.bindT hq2 fun ρ2 H2 ys hd2 xs y2 rh2 rvs hq3 => ⟨ρ2, hd2, d, ys, _, rh2, RV.ext y2 _ _ rv, rvs, hq3⟩⟩
      unfold mtyD at z
      split at z
      · split at z
        · rename_i el
          obtain ⟨a, vs, rfl, _, q, _⟩ := rh1.list rv el
          exact .inl ⟨rfl, _, .of q⟩
        · rcases hm with rfl | rfl <;> cases z
        · cases z
      · cases z
    · rw [if_neg z] at hq2; exact hq2.elim
  cases m with
  | append => exact ⟨_, rfl, rfl, PE.weak (pe_bm F.plainAttrs_list F.slot_list_append F.type_list_append (mt_app k.K) (ho.e _ h5) (hr.l _ h6) rfl (few1 hs) hl hs rfl) fun σ H Q hw => core (.inl rfl) hw⟩
  | extend => exact ⟨_, rfl, rfl, PE.weak (pe_bm F.plainAttrs_list F.slot_list_extend F.type_list_extend (mt_ext k.K) (ho.e _ h5) (hr.l _ h6) rfl (few1 hs) hl hs rfl) fun σ H Q hw => core (.inr rfl) hw⟩
  | pop => cases h2
  | get => cases h2
theorem sd_att (k : CtxOk t c X W Wx) {a : Ex} {f : Str} (ha : Sd t c X W Wx a) : Sd t c X W Wx (.att a f) := Sd.ofS k fun s h => by
  obtain ⟨ob, po, x, p, rfl, hh⟩ := chk_att h
  obtain ⟨h1, hh⟩ := and3 hh
  obtain ⟨h2, h3⟩ := and3 hh
  cases dec_ h1
  have pe := ha.e _ h3
  refine ⟨_, rfl, rfl, ?_⟩
  -- what the value is
  have core : ∀ {σ H Q} {Q' : VK}, (∀ a0 C dd x g d v' H1 ρ1 hd1, W.xa = some (a0, C, dd) → W.mg x = some (.ref C) → H1 dd = some (.xd [(g, v')]) → RV W ρ1 H1 d v' → RH W ρ1 H1 hd1 → t.exf x = some (some g) → g = f → Q v' H1 → Q' (.ref a0) H1) → tM W Wx (den t (.att a f)) σ H Q → tM W Wx (den t a) σ H Q' := fun {σ H Q Q'} k hw => by
    obtain ⟨ρ, σd, hd, rs, rh, hq⟩ := hw
    refine ⟨ρ, σd, hd, rs, rh, Post.bind hq fun ρ1 H1 d hd1 v y1 rh1 rv hq1 => ?_⟩
    cases d with
    | exn x g d =>
      have hq2 : Post W ρ1 H1 (if t.exf x = some (some g) ∧ g = f then .ok d hd1 else .bad) Q (fun c dd H' => Wx c dd σ H') := hq1
      obtain ⟨a0, C, dd, v', rfl, r1, r2, r3, r4⟩ := rv
      by_cases z : t.exf x = some (some g) ∧ g = f
      · rw [if_pos z] at hq2
        exact k a0 C dd x g d v' H1 ρ1 hd1 r1 r2 r3 r4 rh1 z.1 z.2 (hq2.same rh1 r4)
      · rw [if_neg z] at hq2; exact hq2.elim
    | _ => exact hq1.elim
  by_cases ex : ∃ a0 C dd x, W.xa = some (a0, C, dd) ∧ t.exf x = some (some f) ∧ X.mg x = some (.ref C)
  · obtain ⟨a0, C, dd, x, e1, e2, e3⟩ := ex
    obtain ⟨Y, oe, pn, hX, hz, hf⟩ := k.suite a0 C dd e1
    have xo := k.xc x f C e2 e3
    subst hX
    refine PE.weak (pe_xf xo.xf xo.no hz hf pe rfl) fun σ H Q hw => core (fun a1 C1 dd1 x1 g d v' H1 ρ1 hd1 r1 r2 r3 r4 r5 r6 r7 q => ?_) hw
    rw [e1] at r1
    cases r1
    subst r7
    exact ⟨rfl, rfl, _, _, v', rfl, r3, by simp, q⟩
  · refine ⟨fun pins s σ H Q I hw => ?_⟩
    refine attr_of rfl (thn (pe.run pins s σ H (fun _ _ => False) I (core (fun a1 C1 dd1 x1 g d v' H1 ρ1 hd1 r1 r2 r3 r4 r5 r6 r7 q => ?_) hw)) fun u s1 ⟨_, _, _, _, z⟩ => z.elim)
    exact ex ⟨a1, C1, dd1, x1, r1, by rw [← r7]; exact r6, by rw [← k.mg]; exact r2⟩
theorem sd : ∀ (ex : Ex) (c : Cc) (X : Cx) (W : Wd) (Wx : WX), CtxOk t c X W Wx → Sd t c X W Wx ex := by
  intro ex
  have none : ∀ {ex : Ex}, (∀ c s, chk c s ex = true → False) → ∀ (c : Cc) (X : Cx) (W : Wd) (Wx : WX), CtxOk t c X W Wx → Sd t c X W Wx ex := fun h c X W Wx k => Sd.ofN fun s => h c s
  induction ex with
  | var i => exact fun c X W Wx k => sd_var k i
  | int i => exact fun c X W Wx k => sd_int k i
  | bl i => exact fun c X W Wx k => sd_bl k i
  | non => exact fun c X W Wx k => sd_non k
  | str i => exact fun c X W Wx k => sd_str k i
  | glo i => exact fun c X W Wx k => sd_glo k i
  | bin o a b ha hb => exact fun c X W Wx k => sd_bin k (ha c X W Wx k) (hb c X W Wx k)
  | neg a ha => exact fun c X W Wx k => sd_neg k (ha c X W Wx k)
  | cmp o a b ha hb => exact fun c X W Wx k => sd_cmp k (ha c X W Wx k) (hb c X W Wx k)
  | chn o o' a b d ha hb hd => exact fun c X W Wx k => sd_chn k (ha c X W Wx k) (hb c X W Wx k) (hd c X W Wx k)
  | and_ a b ha hb => exact fun c X W Wx k => sd_and k (ha c X W Wx k) (hb c X W Wx k)
  | or_ a b ha hb => exact fun c X W Wx k => sd_or k (ha c X W Wx k) (hb c X W Wx k)
  | not_ a ha => exact fun c X W Wx k => sd_not k (ha c X W Wx k)
  | ifx q a b hq ha hb => exact fun c X W Wx k => sd_ifx k (hq c X W Wx k) (ha c X W Wx k) (hb c X W Wx k)
  | nil => exact fun c X W Wx k => sd_nil
  | cons a r ha hr => exact fun c X W Wx k => sd_cons k (ha c X W Wx k) (hr c X W Wx k)
  | tup r hr => exact fun c X W Wx k => sd_tup k (hr c X W Wx k)
  | lst r hr => exact fun c X W Wx k => sd_lst k (hr c X W Wx k)
  | lfr r hr => exact fun c X W Wx k => sd_lfr k (hr c X W Wx k)
  | call x n r hr => exact fun c X W Wx k => sd_call k (hr c X W Wx k)
  | clv i n r hr => exact fun c X W Wx k => sd_clv k (hr c X W Wx k)
  | bi b r hr => exact fun c X W Wx k => sd_bi k (hr c X W Wx k)
  | isi T a ha => exact fun c X W Wx k => sd_isi k (ha c X W Wx k)
  | ix a b ha hb => exact fun c X W Wx k => sd_ix k (ha c X W Wx k) (hb c X W Wx k)
  | sl a l u ha hl hu => exact fun c X W Wx k => sd_sl k (ha c X W Wx k) (hl c X W Wx k) (hu c X W Wx k)
  | rev a ha => exact none fun c s h => by unfold chk at h; split at h <;> contradiction
  | itS a ha => exact fun c X W Wx k => sd_itS k (ha c X W Wx k)
  | itR a ha => exact fun c X W Wx k => sd_itR k (ha c X W Wx k)
  | itE a ha => exact none fun c s h => by unfold chk at h; split at h <;> contradiction
  | itZ a b ha hb => exact none fun c s h => by unfold chk at h; split at h <;> contradiction
  | lc vs tg it cond elt hi hc he => exact fun c X W Wx k => sd_lc k (hi c X W Wx k) hc he
  | lc2 vs vs1 tg it cond tg1 it1 cond1 elt hi hc hi1 hc1 he => exact fun c X W Wx k => sd_lc2 k (hi c X W Wx k) hc hi1 hc1 he
  | mth m o r ho hr => exact fun c X W Wx k => sd_mth k (ho c X W Wx k) (hr c X W Wx k)
  | att a f ha => exact fun c X W Wx k => sd_att k (ha c X W Wx k)
  | dnew => exact none fun c s h => by unfold chk at h; split at h <;> contradiction
  | pt a ha => exact fun c X W Wx k => sd_pt k (ha c X W Wx k)
end
end Ev

/-! Ev, part 14: statements: readings, loops, try. -/
namespace Ev
open PySem PySem.Spec PyProof.Rows L2
/-! ### readings -/
def PostS (W : Wd) (ρ : List Addr) (H : Hp) (r : RS') (D : Ends) (E : WX) : Prop := match r with
  | .nx σd hd => ∀ ρ' H' σ', Ext ρ H ρ' H' → RH W ρ' H' hd → RS W ρ' H' σd σ' → D.nx σ' H'
  | .bk σd hd => ∀ ρ' H' σ', Ext ρ H ρ' H' → RH W ρ' H' hd → RS W ρ' H' σd σ' → D.bk σ' H'
  | .ct σd hd => ∀ ρ' H' σ', Ext ρ H ρ' H' → RH W ρ' H' hd → RS W ρ' H' σd σ' → D.ct σ' H'
  | .rt d hd => ∀ ρ' H' v, Ext ρ H ρ' H' → RH W ρ' H' hd → RV W ρ' H' d v → D.rt v H'
  | .ex e σd hd => ∀ ρ' H' σ' cls dd, Ext ρ H ρ' H' → RH W ρ' H' hd → RS W ρ' H' σd σ' → RX W ρ' H' e cls dd → E cls dd σ' H'
  | .bad => False
def tS (W : Wd) (Wx : WX) (m : En → Hd → RS') : TS := fun D σ H => ∃ ρ σd hd, RS W ρ H σd σ ∧ RH W ρ H hd ∧ PostS W ρ H (m σd hd) D Wx
theorem PostS.ext {W : Wd} {ρ ρ' : List Addr} {H H' : Hp} {r : RS'} {D : Ends} {E : WX} (x : Ext ρ H ρ' H') (h : PostS W ρ H r D E) : PostS W ρ' H' r D E := by
  cases r with
  | nx σd hd => exact fun ρ2 H2 σ y => h ρ2 H2 σ (x.trans y)
  | bk σd hd => exact fun ρ2 H2 σ y => h ρ2 H2 σ (x.trans y)
  | ct σd hd => exact fun ρ2 H2 σ y => h ρ2 H2 σ (x.trans y)
  | rt d hd => exact fun ρ2 H2 σ y => h ρ2 H2 σ (x.trans y)
  | ex e σd hd => exact fun ρ2 H2 σ c dd y => h ρ2 H2 σ c dd (x.trans y)
  | bad => exact h
section
variable {W : Wd} {ρ : List Addr} {H : Hp} {D : Ends} {E : WX} {σd : En} {σ : St}
theorem PostS.thn {r : R Ev.D} {f : Ev.D → Hd → RS'} {Q' : VK} (h : PostS W ρ H (r.thn σd f) D E) (rs : RS W ρ H σd σ)
    (k : ∀ ρ1 H1 d hd1 x, Ext ρ H ρ1 H1 → RH W ρ1 H1 hd1 → RV W ρ1 H1 d x → PostS W ρ1 H1 (f d hd1) D E → Q' x H1) : Post W ρ H r Q' (fun c dd H' => E c dd σ H') := by
  cases r with
  | ok d hd => exact fun ρ1 H1 x y hh rv => k ρ1 H1 d hd x y hh rv (PostS.ext y h)
  | ex e hd => exact fun ρ1 H1 c dd y hh rx => h ρ1 H1 σ c dd y hh (rs.ext y) rx
  | bad => exact h
theorem PostS.thnB {r : R Bool} {f : Bool → Hd → RS'} {Q' : Bool → Hp → Prop} (h : PostS W ρ H (r.thn σd f) D E) (rs : RS W ρ H σd σ)
    (k : ∀ ρ1 H1 b hd1, Ext ρ H ρ1 H1 → RH W ρ1 H1 hd1 → PostS W ρ1 H1 (f b hd1) D E → Q' b H1) : PostB W ρ H r Q' (fun c dd H' => E c dd σ H') := by
  cases r with
  | ok d hd => exact fun ρ1 H1 y hh => k ρ1 H1 d hd y hh (PostS.ext y h)
  | ex e hd => exact fun ρ1 H1 c dd y hh rx => h ρ1 H1 σ c dd y hh (rs.ext y) rx
  | bad => exact h
theorem PostS.thnL {r : R Ev.D} {f : Ev.D → Hd → RS'} {Q' : List V → Hp → Prop} (h : PostS W ρ H (r.thn σd f) D E) (rs : RS W ρ H σd σ) (hf : ∀ d h, (∀ ds, d ≠ .tup ds) → f d h = .bad)
    (k : ∀ ρ1 H1 ds hd1 xs, Ext ρ H ρ1 H1 → RH W ρ1 H1 hd1 → RVs W ρ1 H1 ds xs → PostS W ρ1 H1 (f (.tup ds) hd1) D E → Q' xs H1) : PostL W ρ H r Q' (fun c dd H' => E c dd σ H') := by
  cases r with
  | ok d hd =>
    cases d with
    | tup ds => exact fun ρ1 H1 x y hh rv => k ρ1 H1 ds hd x y hh rv (PostS.ext y h)
    | _ =>
      have e : PostS W ρ H (f _ hd) D E := h
      rw [hf _ hd (fun ds z => by cases z)] at e
      exact e
  | ex e hd => exact fun ρ1 H1 c dd y hh rx => h ρ1 H1 σ c dd y hh (rs.ext y) rx
  | bad => exact h
theorem PostS.thnI {r : R Ev.D} {f : List Ev.D → Ev.D → Hd → RS'} {Q' : It → Hp → Prop} (h : PostS W ρ H (r.thn σd fun y h1 => match y with
    | .tup [.tup ds, g] => f ds g h1
    | _ => .bad) D E) (rs : RS W ρ H σd σ)
    (k : ∀ ρ1 H1 J ds g hd1, Ext ρ H ρ1 H1 → RH W ρ1 H1 hd1 → JOk W ρ1 H1 J g ds → PostS W ρ1 H1 (f ds g hd1) D E → Q' J H1) : PostI W ρ H r Q' (fun c dd H' => E c dd σ H') := by
  cases r with
  | ok d hd =>
    unfold PostI
    split
    · rename_i ds g hd' e
      cases e
      exact fun ρ' H' J x rh jk => k ρ' H' J ds g _ x rh jk (PostS.ext x h)
    · rename_i n e
      cases e
      simp only [R.thn_ok] at h
      first
        | exact h
        | (split at h
           · exact absurd rfl (n _ _)
           · exact h)
    · rename_i e; cases e
    · rename_i e; cases e
  | ex e hd => exact fun ρ1 H1 c dd y hh rx => h ρ1 H1 σ c dd y hh (rs.ext y) rx
  | bad => exact h
/-- a loop's turn: what comes behind it -/
theorem PostS.turn {r : RS'} {f : En → Hd → RS'} {N : St → Hp → Prop} (h : PostS W ρ H (match r with
      | .nx σ1 h1 => f σ1 h1
      | .ct σ1 h1 => f σ1 h1
      | .bk σ1 h1 => .nx σ1 h1
      | .rt d h1 => .rt d h1
      | .ex e σ1 h1 => .ex e σ1 h1
      | .bad => .bad) D E) (k : ∀ ρ1 H1 σ1 hd1 σ', Ext ρ H ρ1 H1 → RH W ρ1 H1 hd1 → RS W ρ1 H1 σ1 σ' → PostS W ρ1 H1 (f σ1 hd1) D E → N σ' H1) : PostS W ρ H r { D with nx := N, ct := N, bk := D.nx } E := by
  cases r with
  | nx σ1 h1 => exact fun ρ1 H1 σ' y rh rs => k ρ1 H1 σ1 h1 σ' y rh rs (PostS.ext y h)
  | ct σ1 h1 => exact fun ρ1 H1 σ' y rh rs => k ρ1 H1 σ1 h1 σ' y rh rs (PostS.ext y h)
  | bk σ1 h1 => exact h
  | rt d h1 => exact h
  | ex e σ1 h1 => exact h
  | bad => exact h
theorem for_gen {ρ1 : List Addr} {H1 : Hp} {hd1 : Hd} {J : It} {g : Ev.D} {ds : List Ev.D} {tg : Tg} {b : En → Hd → RS'} (rh : RH W ρ1 H1 hd1) (rs : RS W ρ1 H1 σd σ) (jk : JOk W ρ1 H1 J g ds) (hr : PostS W ρ1 H1 (forD tg b g ds ds σd hd1) D E) :
    ∃ W0 : Nat → Nat → St → Hp → Prop, (∃ m, W0 0 m σ H1) ∧ ∀ i m σ H, W0 i m σ H →
      (J.stop i H ∧ D.nx σ H) ∨ (J.go i H ∧ ∃ N : St → Hp → Prop, (∀ σ' H', N σ' H' → ∃ m', m' < m ∧ W0 (i + 1) m' σ' H') ∧ ∀ x H', J.yld i H x H' → gD W tg x σ H' fun σ2 H2 => tS W E b { D with nx := N, ct := N, bk := D.nx } σ2 H2) := by
  refine ⟨fun i m σ H => m = ds.length - i ∧ i ≤ ds.length ∧ ∃ ρ σd hd, Ext0 ρ1 H1 ρ H ∧ RS W ρ H σd σ ∧ RH W ρ H hd ∧ PostS W ρ H (forD tg b g ds (ds.drop i) σd hd) D E, ⟨_, rfl, Nat.zero_le _, ρ1, σd, hd1, Ext0.refl _ _, rs, rh, by simpa using hr⟩, ?_⟩
  rintro i m σ H ⟨rfl, hi, ρ, σd, hd, x0, rs, rh, e⟩
  by_cases hlt : i < ds.length
  · have hd0 : ds.drop i = ds[i] :: ds.drop (i + 1) := List.drop_eq_getElem_cons hlt
    rw [hd0] at e
    unfold forD at e
    split at e
    case isFalse => exact e.elim
    rename_i st
    obtain ⟨_, jg⟩ := jk ρ H hd x0 rh st
    obtain ⟨go, jy⟩ := jg i ds[i] (List.getElem?_eq_getElem hlt)
    split at e
    case h_2 => exact e.elim
    rename_i σ' eb
    refine .inr ⟨go, fun σ H => ∃ ρ σd hd, Ext0 ρ1 H1 ρ H ∧ RS W ρ H σd σ ∧ RH W ρ H hd ∧ PostS W ρ H (forD tg b g ds (ds.drop (i + 1)) σd hd) D E, fun σ' H' h => ⟨_, by omega, rfl, hlt, h⟩, fun v H' hy => ?_⟩
    obtain ⟨y1, y2, y3⟩ := jy v H' hy
    exact ⟨ρ, σd, hd, _, σ', rs.ext y1, y2, y3, eb, fun σ2 rs2 _ => ⟨ρ, σ', hd, rs2, y2, PostS.turn (f := forD tg b g ds (ds.drop (i + 1))) (PostS.ext y1 e) fun ρ2 H2 σ3 hd3 σ4 z1 z2 z3 z4 => ⟨ρ2, σ3, hd3, (x0.trans y1.to0).trans z1.to0, z3, z2, z4⟩⟩⟩
  · have hi' : i = ds.length := by omega
    subst hi'
    rw [List.drop_length] at e
    unfold forD at e
    split at e
    case isFalse => exact e.elim
    rename_i st
    obtain ⟨stop, _⟩ := jk ρ H _ x0 rh st
    exact .inl ⟨stop, e ρ H σ (Ext.refl _ _) rh rs⟩
theorem while_gen {ρ1 : List Addr} {H1 : Hp} {hd1 : Hd} {c : En → Hd → R Bool} {b : En → Hd → RS'} (rh : RH W ρ1 H1 hd1) (rs : RS W ρ1 H1 σd σ) (hr : PostS W ρ1 H1 (whD c b σd hd1) D E) : tWhile (tB' W E c) (tS W E b) D σ H1 := by
  unfold whD at hr
  split at hr
  case isFalse => exact hr.elim
  rename_i ex
  have e0 := ex.choose_spec.choose_spec
  refine ⟨fun m σ H => ∃ ρ σd hd r, RS W ρ H σd σ ∧ RH W ρ H hd ∧ whIter c b m σd hd = some r ∧ PostS W ρ H r D E, ⟨_, ρ1, σd, hd1, _, rs, rh, e0, hr⟩, ?_⟩
  rintro m σ H ⟨ρ, σd, hd, r, rs, rh, e, hp⟩
  cases m with
  | zero => cases e
  | succ m =>
    unfold whIter at e
    refine ⟨ρ, σd, hd, rs, rh, ?_⟩
    split at e
    · rename_i h1 ec
      rw [ec]
      intro ρ2 H2 y rh2
      rw [if_pos rfl]
      refine ⟨fun σ H => ∃ ρ σd hd r, RS W ρ H σd σ ∧ RH W ρ H hd ∧ whIter c b m σd hd = some r ∧ PostS W ρ H r D E, fun σ' H' h => ⟨m, Nat.lt_succ_self m, h⟩, ρ2, σd, h1, rs.ext y, rh2, ?_⟩
      have hp2 := PostS.ext y hp
      cases eb : b σd h1 with
      | nx σ1 h2 =>
        rw [eb] at e
        exact fun ρ3 H3 σ3 z rh3 rs3 => ⟨ρ3, σ1, h2, r, rs3, rh3, e, PostS.ext z hp2⟩
      | ct σ1 h2 =>
        rw [eb] at e
        exact fun ρ3 H3 σ3 z rh3 rs3 => ⟨ρ3, σ1, h2, r, rs3, rh3, e, PostS.ext z hp2⟩
      | bk σ1 h2 => rw [eb] at e; cases e; exact hp2
      | rt d h2 => rw [eb] at e; cases e; exact hp2
      | ex x σ1 h2 => rw [eb] at e; cases e; exact hp2
      | bad => rw [eb] at e; cases e; exact hp2
    · rename_i h1 ec
      rw [ec]
      cases e
      intro ρ2 H2 y rh2
      rw [if_neg (by decide)]
      exact hp ρ2 H2 σ y rh2 (rs.ext y)
    · rename_i x h1 ec
      rw [ec]
      cases e
      exact fun ρ2 H2 cls dd y rh2 rx => hp ρ2 H2 σ cls dd y rh2 (rs.ext y) rx
    · cases e; exact hp.elim
end

/-! ### try with several clauses, named ones among them -/
abbrev Hd1 := Value × Option Nat × (Addr → Value → Option Addr → TS)
def endsN : Option Nat → Ends → Ends
  | none, D => D
  | some i, D => { nx := fun σ' H' => D.nx (σ'.set i none) H', rt := D.rt, bk := fun σ' H' => D.bk (σ'.set i none) H', ct := fun σ' H' => D.ct (σ'.set i none) H' }
def slotN : Option Nat → Addr → St → St
  | none, _, σ => σ
  | some i, a, σ => σ.set i (some (.ref a))
def wMix (K : PySem.W.Frag) (Wout : WX) (D : Ends) : List Hd1 → WX
  | [] => Wout
  | (c, n, ts) :: r => fun cls d σ H => ∃ b, PySem.W.exmOne K cls c = some b ∧ (b = true → ∀ a, H a = none → ts a cls d (endsN n D) (slotN n a σ) H) ∧ (b = false → wMix K Wout D r cls d σ H)
def nmOk (X : Cx) : Option Str → Option Nat → Prop
  | none, none => True
  | some n, some i => X.N[i]? = some n ∧ X.env.kindOf n = some .local
  | _, _ => False
inductive HdM (X : Cx) : List ExceptHandler → List Hd1 → Prop
  | nil : HdM X [] []
  | cons {x : Str} {c : Value} {n : Option Str} {i : Option Nat} {ts : Addr → Value → Option Addr → TS} {b₀ : Stmt} {suite : List Stmt} {np pos' : Pos} {hds : List ExceptHandler} {l : List Hd1} (hc : Names X x c) (hn : nmOk X n i)
      (hsu : ∀ (a : Addr) (oe : Obj) (cls : Value) (d : Option Addr) (pn : List (Addr × Obj)), Zc cls d oe → (∃ vs, oe.data = .fields vs) → PSs (X.suite a ((a, oe) :: pn)) (b₀ :: suite) (ts a cls d)) (r : HdM X hds l) :
      HdM X (.ExceptHandler (some (.Name x np)) n (b₀ :: suite) pos' :: hds) ((c, i, ts) :: l)
section
variable {X : Cx} {body : List Stmt} {h₀ : ExceptHandler} {hds : List ExceptHandler} {l : List Hd1} {pos : Pos} {tb : WX → TS} {Wout : WX}
theorem ps_tryM (hs : X.stack = X.env :: X.outer) (hf : X.env.frame = some X.env.locals) (hN : X.N.Nodup) (tk : Takes X Wout)
    (hb : ∀ (W : WX) (pn : List (Addr × Obj)) (xe : Value → Shared → Prop), Takes (X.tr pn xe) W → PassesOwn (model X.prog X.w) X.A X.env xe → PSs (X.tr pn xe) body (tb W))
    (hh : HdM X (h₀ :: hds) l) : PS X (.Try body (h₀ :: hds) [] [] pos) (fun D σ H => tb (wMix X.K Wout D l) D σ H) := by
  refine ⟨fun pins s σ H D I h => ?_⟩
  have ok := I.ok
  have hfr : X.A.frames = some (X.env :: X.outer) := by rw [ok.frames, hs]
  refine wpAny_Try_except ?_
  refine wpAny_mono ((hb (wMix X.K Wout D l) (X.pn ++ pins) (fun e s₁ => wpAny (model X.prog X.w) X.A (noteFrame e X.env) (fun _ s₂ => wpAny (model X.prog X.w) X.A (setFlight e none) (fun _ s₃ =>
    wpAny (model X.prog X.w) X.A (handleBy e X.env (h₀ :: hds)) (SP X pins D) X.xe s₃) X.xe s₂) X.xe s₁) (fun u s' xx => ?_) PassesOwn.looking).run [] s σ H D (I.toTry _) h) (fun f s1 hsp => ?_) (fun e s1 he => he)
  · obtain ⟨a, B, sI, pins', σ', H', cls, d, rfl, J', nb, up, sky, na, os, ag, w⟩ := xx
    have J : Inv X pins σ' H' sI := J'.ofTry ok
    have sky' : Sky B (X.env :: X.outer) a (Zc cls d) X.env.locals s'.heap := by rw [← hs]; exact sky
    show wpAny (model X.prog X.w) X.A (noteFrame (.ref a) X.env) _ _ _
    refine Sky.land Zc.steady hfr hf sky' fun h3 fl3 up3 => ?_
    have J3 : Inv X pins σ' H' { s' with heap := h3 } := J.landed nb fl3.1 (up.trans up3) os ag
    obtain ⟨oe3, vs3, he3, hz3, hd3⟩ := fl3.there
    have notFr : ∀ {h : Heap} {o : Obj} {vs : Array Value}, h.FunFrames B (X.env :: X.outer) → h.get? a = some o → o.data = .fields vs → a ∉ frs (X.env :: X.outer) := fun {h o vs} ff e dd hm => by
      obtain ⟨_, o', e', hnf⟩ := ff.mem hm
      rw [e] at e'; cases e'
      exact hnf _ dd
    have nfr := notFr fl3.2.2.1 he3 hd3
    have nL : a ≠ X.env.locals := fun z => nfr (List.mem_filterMap.mpr ⟨X.env, List.mem_cons_self, by rw [hf, z]⟩)
    have nF : a ∉ X.fs := fun hm => by
      obtain ⟨e, he, q⟩ := List.mem_filterMap.mp hm
      exact nfr (List.mem_filterMap.mpr ⟨e, List.mem_cons_of_mem _ he, q⟩)
    have S3 := J3.suite he3 hd3 na nL nF
    have go : ∀ {hds' : List ExceptHandler} {l' : List Hd1}, HdM X hds' l' → wMix X.K Wout D l' cls d σ' H' →
        wpAny (model X.prog X.w) X.A (handleBy (.ref a) X.env hds') (SP X pins D) X.xe { s' with heap := h3 } := by
      intro hds' l' hk
      induction hk with
      | nil =>
        intro w
        refine wpAny_handleBy_nil ?_
        obtain ⟨k1, k2, k3, oe, vs, T, oT, ts', he, hz, hd, h1, hr⟩ := id fl3
        unfold PySem.passOn
        refine wpAny_bind (wpAny_field he hd h1 ?_)
        rw [if_neg (show ¬ ((Value.ref T == Value.none) = true) from by simp)]
        have fin : wpAny (model X.prog X.w) X.A (setFlight (.ref a) X.env.frame) (fun _ s4 => wpAny (model X.prog X.w) X.A (throw (.ref a) : Sem Flow) (SP X pins D) X.xe s4) X.xe { s' with heap := h3 } := by
          rw [hf]
          refine HandSPX.setFlight_upZ fl3 fun h4 hh4 up4 => wpAny_throw (tk _ _ ?_)
          exact ⟨a, B, sI, pins, σ', H', cls, d, rfl, J, nb, (up.trans up3).trans up4, .inr (.inr (by rw [hs]; exact hh4)), na, os, ag, w⟩
        first
          | exact wpAny_bind (wpAny_pure (wpAny_bind fin))
          | exact wpAny_bind fin
      | @cons x c n i ts b₀ suite np pos' hds2 l2 hc hn hsu r ih =>
        intro w
        obtain ⟨b, hb1, hyes, hno⟩ := w
        refine wpAny_handleBy_cons (codeAny_handlers_test ?_) (by intro q; cases q)
        have LT : PySem.W.Looks (model X.prog X.w) h3 (typeOf (.ref a)) cls := fun A Q E s k q => wpAny_typeOf_ref (k _ _ he3) (by rw [hz3.1]; exact q)
        have LM := PySem.W.exm_one (M := model X.prog X.w) (J3.kIn) LT hb1
        have test : ∀ {Q : Value → Shared → Prop} {E : Value → Shared → Prop}, Q c { s' with heap := h3 } → wpAny (model X.prog X.w) (X.A.mark (some (.ref a))) (eval (.Name x np) X.env) Q E { s' with heap := h3 } := fun {Q E} q => by
          obtain ⟨hg, hdbg, hm | ⟨hm, hv, hnn⟩⟩ := hc
          · exact ld_glob (X := X.suite a ((a, oe3) :: (X.pn ++ pins))) S3 hg hm q hdbg
          · exact ld_blt (X := X.suite a ((a, oe3) :: (X.pn ++ pins))) S3 hg hm hv q hnn hdbg
        refine test (LM.here ?_)
        cases b with
        | true =>
          cases n with
          | none =>
            cases i with
            | some i => exact hn.elim
            | none =>
              refine codeAny_handlers_suite ?_
              refine HandSPX.lands_againZ fl3 fun h4 fl4 up4 => ?_
              have J4 : Inv X pins σ' H' { s' with heap := h4 } := J.landed nb fl4.1 ((up.trans up3).trans up4) os ag
              obtain ⟨oe4, vs4, he4, hz4, hd4⟩ := fl4.there
              have S4 := J4.suite he4 hd4 na nL nF
              refine wpAny_mono ((hsu a oe4 cls d (X.pn ++ pins) hz4 ⟨_, hd4⟩).run [] _ _ H' _ S4 (hyes rfl a na)) (fun f s6 hsp => ?_) (fun _ _ z => False.elim z)
              cases f with
              | next =>
                obtain ⟨σ6, H6, S6, q6⟩ := hsp
                exact ⟨_, _, S6.unsuite ok, q6⟩
              | brk =>
                obtain ⟨σ6, H6, S6, q6⟩ := hsp
                exact ⟨_, _, S6.unsuite ok, q6⟩
              | cont =>
                obtain ⟨σ6, H6, S6, q6⟩ := hsp
                exact ⟨_, _, S6.unsuite ok, q6⟩
              | ret u =>
                obtain ⟨v6, σ6, H6, S6, r6, q6⟩ := hsp
                exact ⟨_, _, _, S6.unsuite ok, r6, q6⟩
          | some n =>
            cases i with
            | none => exact hn.elim
            | some i =>
              obtain ⟨hi, hln⟩ := hn
              have hloc : L2.Loc X.env.scope n := .inl hln
              refine codeAny_handlers_suite_as ?_
              refine HandSPX.lands_againZ fl3 fun h4 fl4 up4 => ?_
              have J4 : Inv X pins σ' H' { s' with heap := h4 } := J.landed nb fl4.1 ((up.trans up3).trans up4) os ag
              obtain ⟨oe4, vs4, he4, hz4, hd4⟩ := fl4.there
              have S4 := J4.suite he4 hd4 na nL nF
              refine store_ok (X := X.suite a ((a, oe4) :: (X.pn ++ pins))) (v := .ref a) S4 hN hi hloc rfl (fun s5 S5 => ?_) (.inr hln)
              refine wpAny_mono ((hsu a oe4 cls d (X.pn ++ pins) hz4 ⟨_, hd4⟩).run [] s5 _ H' _ S5 (hyes rfl a na)) (fun f s6 hsp => ?_) (fun _ _ z => False.elim z)
              have end_ : ∀ {σ6 : St} {H6 : Hp} {Q : Shared → Prop}, Inv (X.suite a ((a, oe4) :: (X.pn ++ pins))) [] σ6 H6 s6 → (∀ s7, Inv X pins (σ6.set i none) H6 s7 → Q s7) →
                  wpAny (model X.prog X.w) X.A (do bindName X.env n .none; unbindBehindTheSuite X.env n pos') (fun _ s7 => Q s7) X.xe s6 := fun {σ6 H6 Q} S6 hq => gone_ok (S6.unsuite ok) hN hi hln hq
              cases f with
              | next =>
                obtain ⟨σ6, H6, S6, q6⟩ := hsp
                exact end_ S6 fun s7 J7 => ⟨_, _, J7, q6⟩
              | brk =>
                obtain ⟨σ6, H6, S6, q6⟩ := hsp
                exact end_ S6 fun s7 J7 => ⟨_, _, J7, q6⟩
              | cont =>
                obtain ⟨σ6, H6, S6, q6⟩ := hsp
                exact end_ S6 fun s7 J7 => ⟨_, _, J7, q6⟩
              | ret u =>
                obtain ⟨v6, σ6, H6, S6, r6, q6⟩ := hsp
                exact end_ S6 fun s7 J7 => ⟨_, _, _, J7, r6, q6⟩
        | false =>
          show wpAny _ X.A (handleBy (.ref a) X.env hds2) _ _ _
          exact ih (hno rfl)
    exact go hh w
  · cases f with
    | next =>
      obtain ⟨σ', H', J', q⟩ := hsp
      exact wpAny_execs_nil ⟨σ', H', J'.ofTry ok, q⟩
    | brk =>
      obtain ⟨σ', H', J', q⟩ := hsp
      exact ⟨σ', H', J'.ofTry ok, q⟩
    | cont =>
      obtain ⟨σ', H', J', q⟩ := hsp
      exact ⟨σ', H', J'.ofTry ok, q⟩
    | ret u =>
      obtain ⟨v, σ', H', J', r, q⟩ := hsp
      exact ⟨v, σ', H', J'.ofTry ok, r, q⟩
end
end Ev

namespace Ev
open PySem PySem.Spec PyProof.Rows L2
theorem kindOf_eq (env : Env) (x : Str) : env.kindOf x = env.scope.names.lookup x := rfl
theorem star_any : ∀ {es : List Expr}, es.all notStar = true → (es.any fun | .Starred .. => true | _ => false) = false
  | [], _ => rfl
  | e :: es, h => by
    obtain ⟨h1, h2⟩ := Bool.and_eq_true_iff.mp (show (notStar e && es.all notStar) = true from h)
    show (_ || es.any _) = false
    rw [star_any h2]
    cases e <;> first | rfl | cases h1
theorem pos_Name {x : Str} {p : Pos} : (Expr.Name x p).pos = p := rfl
theorem sw2_yes {env : Env} {x y : Str} {px py kt pt k2 p2} {a b : Expr} (hk : env.blockKind = .function) (hs : [a, b].all notStar = true) (hx : env.scope.names.lookup x = some .local) (hy : env.scope.names.lookup y = some .local) (hl : py.line = px.line) (hne : x ≠ y)
    (hf : [a, b].all (foldedForSure 8) = false) (hc : [a, b].all (constantsAlone 8) = false) :
    swappedStores [.Tuple [.Name x px, .Name y py] kt pt] (.Tuple [a, b] k2 p2) env = pure (some [x, y]) := by
  have h1 := star_any hs
  unfold swappedStores
  simp only [hk, kindOf_eq, h1, hf, hc, List.filterMap_cons, List.filterMap_nil, hx, hy, hl, pos_Name, List.head?_cons, Option.map_some, Option.getD_some]
  simp [List.eraseDups_cons, hne, Ne.symm hne]
  intro h
  exfalso
  rcases h with h | h
  · cases a <;> first | (cases h; done) | (cases hs; done)
  · cases b <;> first | (cases h; done) | (simp [notStar] at hs; done)
theorem sw3_yes {env : Env} {x y z : Str} {px py pz kt pt k2 p2} {a b c : Expr} (hk : env.blockKind = .function) (hs : [a, b, c].all notStar = true) (hx : env.scope.names.lookup x = some .local) (hy : env.scope.names.lookup y = some .local) (hz : env.scope.names.lookup z = some .local) (hl : py.line = px.line) (hl2 : pz.line = px.line) (hne : x ≠ y) (hne2 : x ≠ z) (hne3 : y ≠ z)
    (hf : [a, b, c].all (foldedForSure 8) = false) (hc : [a, b, c].all (constantsAlone 8) = false) :
    swappedStores [.Tuple [.Name x px, .Name y py, .Name z pz] kt pt] (.Tuple [a, b, c] k2 p2) env = pure (some [x, y, z]) := by
  have h1 := star_any hs
  unfold swappedStores
  simp only [hk, kindOf_eq, h1, hf, hc, List.filterMap_cons, List.filterMap_nil, hx, hy, hz, hl, hl2, pos_Name, List.head?_cons, Option.map_some, Option.getD_some]
  simp [List.eraseDups_cons, hne, Ne.symm hne, hne2, Ne.symm hne2, hne3, Ne.symm hne3]
  intro h
  exfalso
  rcases h with h | h | h
  · cases a <;> first | (cases h; done) | (cases hs; done)
  · cases b <;> first | (cases h; done) | (simp [notStar] at hs; done)
  · cases c <;> first | (cases h; done) | (simp [notStar] at hs; done)
theorem sw_fold {env : Env} {ts vs : List Expr} {kt pt k2 p2} (hs : vs.all notStar = true) (hf : vs.all (foldedForSure 8) = true) : swappedStores [.Tuple ts kt pt] (.Tuple vs k2 p2) env = pure none := by
  have h1 := star_any hs
  unfold swappedStores
  simp only [h1, hf]
  (repeat' split) <;> first | rfl | contradiction
theorem sw_len {env : Env} {ts vs : List Expr} {kt pt k2 p2} (h2 : ts.length ≠ 2) (h3 : ts.length ≠ 3) : swappedStores [.Tuple ts kt pt] (.Tuple vs k2 p2) env = pure none := by
  unfold swappedStores
  simp [h2, h3]

theorem fm_len {f : Expr → Option Str} : ∀ {ts : List Expr} {e : Expr}, e ∈ ts → f e = none → (ts.filterMap f).length < ts.length
  | [], _, h, _ => nomatch h
  | t :: ts, e, h, q => by
    rcases List.mem_cons.mp h with z | z
    · subst z
      rw [List.filterMap_cons, q]
      exact Nat.lt_succ_of_le (List.length_filterMap_le _ _)
    · have ih := fm_len z q
      rw [List.filterMap_cons]
      split
      · exact Nat.lt_succ_of_lt ih
      · exact Nat.succ_lt_succ ih
theorem sw_cell {env : Env} {ts vs : List Expr} {kt pt k2 p2} {x : Str} {p : Pos} (hm : Expr.Name x p ∈ ts) (hx : env.scope.names.lookup x ≠ some .local) : swappedStores [.Tuple ts kt pt] (.Tuple vs k2 p2) env = pure none := by
  unfold swappedStores
  simp only
  split
  · rfl
  split
  · rfl
  split
  · rfl
  rename_i h
  exfalso
  simp only [Bool.or_eq_true, bne_iff_ne, ne_eq, not_or, Decidable.not_not] at h
  refine absurd h.1 (Nat.ne_of_lt (fm_len hm ?_))
  have hx' : ¬ (env.kindOf x == some .local) = true := fun z => hx (show env.kindOf x = _ from beq_iff_eq.mp z)
  simp only [hx']
  simp
def isCell (sc : Scope) : Expr → Bool
  | .Name x _ => !decide (sc.names.lookup x = some .local)
  | _ => false

/-! ### the checker of statements -/
inductive SrcS where
  | s (st : Stmt) | l (sts : List Stmt) | h (hs : List ExceptHandler)
def swN (sc : Scope) (x : Str) (p : Pos) (s : Scope) (ep : Pos) : Bool := sc.names.lookup x == some .local && p.line == ep.line && !(s.names.any fun (n, k) => n == x && (k == .local || k == .cell))
def locB (c : Cc) (x : Str) : Bool := decide (c.sc.names.lookup x = some .local)
def asgB (c : Cc) : Expr → Expr → Bool
  | .Tuple ts _ _, .Tuple vs _ _ => vs.all notStar && (ts.any (isCell c.sc) || ((decide (ts.length ≠ 2) && decide (ts.length ≠ 3)) || (vs.all (foldedForSure 8) || (match ts, vs with
    | [.Name x px, .Name y py], [a, b] => c.calm && (locB c x && (locB c y && (decide (py.line = px.line) && (decide (x ≠ y) && (!([a, b].all (foldedForSure 8)) && !([a, b].all (constantsAlone 8)))))))
    | [.Name x px, .Name y py, .Name z pz], [a, b, d] => c.calm && (locB c x && (locB c y && (locB c z && (decide (py.line = px.line) && (decide (pz.line = px.line) && (decide (x ≠ y) && (decide (x ≠ z) && (decide (y ≠ z) && (!([a, b, d].all (foldedForSure 8)) && !([a, b, d].all (constantsAlone 8)))))))))))
    | _, _ => false))))
  | _, _ => true
def notComp : Expr → Bool
  | .ListComp _ _ _ _ => false
  | _ => true
def Sm.isNil : Sm → Bool
  | .nil => true
  | _ => false
/-- the names of a clause -/
def hdN (c : Cc) : Option Str → Option Nat → Bool
  | none, none => true
  | some n, some i => decide (c.N[i]? = some n) && locB c n
  | _, _ => false
def Cc.hot (c : Cc) : Cc := { c with calm := false }
def isStr1 : List Expr → Bool
  | [.Constant (.str _) _ _] => true
  | _ => false
def nonempty {α : Type} : List α → Bool
  | [] => false
  | _ => true
def chkS (t : Rt) (c : Cc) : SrcS → Sm → Bool
  | .l [], .nil => true
  | .l (s :: r), .seq a b => chkS t c (.s s) a && chkS t c (.l r) b
  | .s (.Assign [tg] e _), .asg tg' e' => chkT c (.inl tg) tg' && (chk c (.e e) e' && asgB c tg e)
  | .s (.Assign [.Subscript o i _] e _), .six o' i' e' => chk c (.e o) o' && (chk c (.e i) i' && chk c (.e e) e')
  | .s (.If q a b _), .ife q' a' b' => chk c (.e q) q' && (chkS t c (.l a) a' && chkS t c (.l b) b')
  | .s (.While q b [] _), .whl q' b' => c.calm && (chk c (.e q) q' && chkS t c (.l b) b')
  | .s (.For tg it b [] _), .for_ tg' it' b' => c.calm && (notSet it && (chkT c (.inl tg) tg' && (chk c (.it it) it' && chkS t c (.l b) b')))
  | .s (.Break _), .brk => true
  | .s (.Continue _), .cnt => true
  | .s (.Return (some e) _), .ret e' => chk c (.e e) e'
  | .s (.Return none _), .retN => true
  | .s (.Pass _), .pas => true
  | .s (.Expr (.Constant (.str _) _ _) _), .pas => true
  | .s (.Expr e _), .exp e' => notComp e && chk c (.e e) e'
  | .s (.Raise (some (.Call (.Name x _) es [] _)) none _), .rai y r => decide (x = y) && (c.calm && (gloB c.sc x && (nonempty es && ((match t.exf y with
    | some none => isStr1 es
    | some (some _) => true
    | none => false) && chk c (.l es) r))))
  | .s (.Try b (h :: hs) [] [] _), .try_ b' hs' => c.calm && (chkS t c (.l b) b' && chkS t c (.h (h :: hs)) hs')
  | .h [], .hnil => true
  | .h (.ExceptHandler (some (.Name x _)) n (b0 :: su) _ :: r), .hcons y i su' rest => decide (x = y) && (gloB c.sc x && ((t.isa y y).isSome && (hdN c n i && (chkS t c.hot (.l (b0 :: su)) su' && chkS t c (.h r) rest))))
  | _, _ => false
theorem chkS_nil {t : Rt} {c : Cc} {s : SrcS}  (h : chkS t c s (.nil) = true) : s = .l [] ∧ (true) = true := by
  unfold chkS at h
  split at h
  all_goals first | contradiction | skip
  first
    | exact ⟨rfl, h⟩
    | (rename_i heq; cases heq; exact ⟨rfl, h⟩)
theorem chkS_seq {t : Rt} {c : Cc} {s : SrcS} {a b : Sm} (h : chkS t c s (.seq a b) = true) : ∃ st r, s = .l (st :: r) ∧ (chkS t c (.s st) a && chkS t c (.l r) b) = true := by
  unfold chkS at h
  split at h
  all_goals first | contradiction | skip
  first
    | exact ⟨_, _, rfl, h⟩
    | (rename_i heq; cases heq; exact ⟨_, _, rfl, h⟩)
theorem chkS_pas {t : Rt} {c : Cc} {s : SrcS} (h : chkS t c s .pas = true) : (∃ p, s = .s (.Pass p)) ∨ ∃ x k p p2, s = .s (.Expr (.Constant (.str x) k p) p2) := by
  unfold chkS at h
  split at h
  all_goals first | contradiction | skip
  · exact .inl ⟨_, rfl⟩
  · exact .inr ⟨_, _, _, _, rfl⟩
theorem chkS_asg {t : Rt} {c : Cc} {s : SrcS} {tg' : Tg} {e' : Ex} (h : chkS t c s (.asg tg' e') = true) : ∃ tg e p, s = .s (.Assign [tg] e p) ∧ (chkT c (.inl tg) tg' && (chk c (.e e) e' && asgB c tg e)) = true := by
  unfold chkS at h
  split at h
  all_goals first | contradiction | skip
  first
    | exact ⟨_, _, _, rfl, h⟩
    | (rename_i heq; cases heq; exact ⟨_, _, _, rfl, h⟩)
theorem chkS_six {t : Rt} {c : Cc} {s : SrcS} {o' i' e' : Ex} (h : chkS t c s (.six o' i' e') = true) : ∃ o i p1 e p, s = .s (.Assign [.Subscript o i p1] e p) ∧ (chk c (.e o) o' && (chk c (.e i) i' && chk c (.e e) e')) = true := by
  unfold chkS at h
  split at h
  all_goals first | contradiction | skip
  first
    | exact ⟨_, _, _, _, _, rfl, h⟩
    | (rename_i heq; cases heq; exact ⟨_, _, _, _, _, rfl, h⟩)
theorem chkS_ife {t : Rt} {c : Cc} {s : SrcS} {q' : Ex} {a' b' : Sm} (h : chkS t c s (.ife q' a' b') = true) : ∃ q a b p, s = .s (.If q a b p) ∧ (chk c (.e q) q' && (chkS t c (.l a) a' && chkS t c (.l b) b')) = true := by
  unfold chkS at h
  split at h
  all_goals first | contradiction | skip
  first
    | exact ⟨_, _, _, _, rfl, h⟩
    | (rename_i heq; cases heq; exact ⟨_, _, _, _, rfl, h⟩)
theorem chkS_whl {t : Rt} {c : Cc} {s : SrcS} {q' : Ex} {b' : Sm} (h : chkS t c s (.whl q' b') = true) : ∃ q b p, s = .s (.While q b [] p) ∧ (c.calm && (chk c (.e q) q' && chkS t c (.l b) b')) = true := by
  unfold chkS at h
  split at h
  all_goals first | contradiction | skip
  first
    | exact ⟨_, _, _, rfl, h⟩
    | (rename_i heq; cases heq; exact ⟨_, _, _, rfl, h⟩)
theorem chkS_for_ {t : Rt} {c : Cc} {s : SrcS} {tg' : Tg} {it' : Ex} {b' : Sm} (h : chkS t c s (.for_ tg' it' b') = true) : ∃ tg it b p, s = .s (.For tg it b [] p) ∧ (c.calm && (notSet it && (chkT c (.inl tg) tg' && (chk c (.it it) it' && chkS t c (.l b) b')))) = true := by
  unfold chkS at h
  split at h
  all_goals first | contradiction | skip
  first
    | exact ⟨_, _, _, _, rfl, h⟩
    | (rename_i heq; cases heq; exact ⟨_, _, _, _, rfl, h⟩)
theorem chkS_brk {t : Rt} {c : Cc} {s : SrcS}  (h : chkS t c s (.brk) = true) : ∃ p, s = .s (.Break p) ∧ (true) = true := by
  unfold chkS at h
  split at h
  all_goals first | contradiction | skip
  first
    | exact ⟨_, rfl, h⟩
    | (rename_i heq; cases heq; exact ⟨_, rfl, h⟩)
theorem chkS_cnt {t : Rt} {c : Cc} {s : SrcS}  (h : chkS t c s (.cnt) = true) : ∃ p, s = .s (.Continue p) ∧ (true) = true := by
  unfold chkS at h
  split at h
  all_goals first | contradiction | skip
  first
    | exact ⟨_, rfl, h⟩
    | (rename_i heq; cases heq; exact ⟨_, rfl, h⟩)
theorem chkS_ret {t : Rt} {c : Cc} {s : SrcS} {e' : Ex} (h : chkS t c s (.ret e') = true) : ∃ e p, s = .s (.Return (some e) p) ∧ (chk c (.e e) e') = true := by
  unfold chkS at h
  split at h
  all_goals first | contradiction | skip
  first
    | exact ⟨_, _, rfl, h⟩
    | (rename_i heq; cases heq; exact ⟨_, _, rfl, h⟩)
theorem chkS_retN {t : Rt} {c : Cc} {s : SrcS}  (h : chkS t c s (.retN) = true) : ∃ p, s = .s (.Return none p) ∧ (true) = true := by
  unfold chkS at h
  split at h
  all_goals first | contradiction | skip
  first
    | exact ⟨_, rfl, h⟩
    | (rename_i heq; cases heq; exact ⟨_, rfl, h⟩)
theorem chkS_exp {t : Rt} {c : Cc} {s : SrcS} {e' : Ex} (h : chkS t c s (.exp e') = true) : ∃ e p, s = .s (.Expr e p) ∧ (notComp e && chk c (.e e) e') = true := by
  unfold chkS at h
  split at h
  all_goals first | contradiction | skip
  first
    | exact ⟨_, _, rfl, h⟩
    | (rename_i heq; cases heq; exact ⟨_, _, rfl, h⟩)
theorem chkS_rai {t : Rt} {c : Cc} {s : SrcS} {y : Str} {r : Ex} (h : chkS t c s (.rai y r) = true) : ∃ x p1 es p2 p, s = .s (.Raise (some (.Call (.Name x p1) es [] p2)) none p) ∧ (decide (x = y) && (c.calm && (gloB c.sc x && (nonempty es && ((match t.exf y with
    | some none => isStr1 es
    | some (some _) => true
    | none => false) && chk c (.l es) r))))) = true := by
  unfold chkS at h
  split at h
  all_goals first | contradiction | skip
  first
    | exact ⟨_, _, _, _, _, rfl, h⟩
    | (rename_i heq; cases heq; exact ⟨_, _, _, _, _, rfl, h⟩)
theorem chkS_try_ {t : Rt} {c : Cc} {s : SrcS} {b' hs' : Sm} (h : chkS t c s (.try_ b' hs') = true) : ∃ b h hs p, s = .s (.Try b (h :: hs) [] [] p) ∧ (c.calm && (chkS t c (.l b) b' && chkS t c (.h (h :: hs)) hs')) = true := by
  unfold chkS at h
  split at h
  all_goals first | contradiction | skip
  first
    | exact ⟨_, _, _, _, rfl, h⟩
    | (rename_i heq; cases heq; exact ⟨_, _, _, _, rfl, h⟩)
theorem chkS_hnil {t : Rt} {c : Cc} {s : SrcS}  (h : chkS t c s (.hnil) = true) : s = .h [] ∧ (true) = true := by
  unfold chkS at h
  split at h
  all_goals first | contradiction | skip
  first
    | exact ⟨rfl, h⟩
    | (rename_i heq; cases heq; exact ⟨rfl, h⟩)
theorem chkS_hcons {t : Rt} {c : Cc} {s : SrcS} {y : Str} {i : Option Nat} {su' rest : Sm} (h : chkS t c s (.hcons y i su' rest) = true) : ∃ x p n b0 su p2 r, s = .h (.ExceptHandler (some (.Name x p)) n (b0 :: su) p2 :: r) ∧ (decide (x = y) && (gloB c.sc x && ((t.isa y y).isSome && (hdN c n i && (chkS t c.hot (.l (b0 :: su)) su' && chkS t c (.h r) rest))))) = true := by
  unfold chkS at h
  split at h
  all_goals first | contradiction | skip
  first
    | exact ⟨_, _, _, _, _, _, _, rfl, h⟩
    | (rename_i heq; cases heq; exact ⟨_, _, _, _, _, _, _, rfl, h⟩)
end Ev

/-! Ev, part 16: every statement means what is told. -/
namespace Ev
open PySem PySem.Spec PyProof.Rows L2
structure StOk (c : Cc) (X : Cx) : Prop where
  hs : X.stack = X.env :: X.outer
  hf : X.env.frame = some X.env.locals
  hp : c.calm = true → PassesOwn (model X.prog X.w) X.A X.env X.xe
  kf : X.env.scope.kind = .function
structure SdS (t : Rt) (c : Cc) (X : Cx) (W : Wd) (Wx : WX) (sm : Sm) : Prop where
  s : ∀ st, chkS t c (.s st) sm = true → PS X st (tS W Wx (denS t sm none))
  l : ∀ sts, chkS t c (.l sts) sm = true → PSs X sts (tS W Wx (denS t sm none))
section
variable {t : Rt} {c : Cc} {X : Cx} {W : Wd} {Wx : WX}
theorem SdS.ofS {sm : Sm} (h : ∀ s, chkS t c s sm = true → ∃ st, s = .s st ∧ PS X st (tS W Wx (denS t sm none))) : SdS t c X W Wx sm :=
  ⟨(fun st q => by obtain ⟨_, z, g⟩ := h _ q; cases z; exact g), (fun sts q => by obtain ⟨_, z, g⟩ := h _ q; cases z)⟩
theorem SdS.ofN {sm : Sm} (h : ∀ s, chkS t c s sm = true → ∃ hs, s = .h hs) : SdS t c X W Wx sm :=
  ⟨(fun st q => by obtain ⟨_, z⟩ := h _ q; cases z), (fun sts q => by obtain ⟨_, z⟩ := h _ q; cases z)⟩
theorem ss_nil : SdS t c X W Wx .nil :=
  ⟨(fun st q => by obtain ⟨z, _⟩ := chkS_nil q; cases z), fun sts q => by
    obtain ⟨z, _⟩ := chkS_nil q
    cases z
    exact PSs.weak pss_nil fun D σ H ⟨ρ, σd, hd, rs, rh, hq⟩ => hq ρ H σ (Ext.refl _ _) rh rs⟩
theorem PostS.seq {ρ : List Addr} {H : Hp} {D : Ends} {E : WX} {r : RS'} {f : En → Hd → RS'} (h : PostS W ρ H (match r with
    | .nx σ' h' => f σ' h'
    | e => e) D E) : PostS W ρ H r { D with nx := tS W E f D } E := by
  cases r with
  | nx σ1 h1 => exact fun ρ' H' σ' y rh rs => ⟨ρ', σ1, h1, rs, rh, PostS.ext y h⟩
  | ct σ1 h1 => exact h
  | bk σ1 h1 => exact h
  | rt d h1 => exact h
  | ex e σ1 h1 => exact h
  | bad => exact h
theorem ss_seq {a b : Sm} (ha : SdS t c X W Wx a) (hb : SdS t c X W Wx b) : SdS t c X W Wx (.seq a b) :=
  ⟨(fun st q => by obtain ⟨_, _, z, _⟩ := chkS_seq q; cases z), fun sts q => by
    obtain ⟨st, r, z, hh⟩ := chkS_seq q
    cases z
    obtain ⟨h1, h2⟩ := and3 hh
    refine PSs.weak (pss_cons (ha.s _ h1) (hb.l _ h2)) fun D σ H ⟨ρ, σd, hd, rs, rh, hq⟩ => ⟨ρ, σd, hd, rs, rh, ?_⟩
    have hq' : PostS W ρ H (match denS t a none σd hd with
      | .nx σ' h' => denS t b none σ' h'
      | e => e) D Wx := hq
    refine PostS.seq (f := denS t b none) ?_
    cases e : denS t a none σd hd <;> rw [e] at hq' <;> exact hq'⟩
theorem ss_ret (k : CtxOk t c X W Wx) {e : Ex} : SdS t c X W Wx (.ret e) := SdS.ofS fun s q => by
  obtain ⟨ee, p, rfl, hh⟩ := chkS_ret q
  refine ⟨_, rfl, PS.weak (ps_ret ((sd e c X W Wx k).e _ hh)) fun D σ H ⟨ρ, σd, hd, rs, rh, hq⟩ => ⟨ρ, σd, hd, rs, rh, PostS.thn hq rs fun ρ1 H1 d hd1 x y rh1 rv hq1 => hq1 ρ1 H1 x (Ext.refl _ _) rh1 rv⟩⟩
theorem ss_retN : SdS t c X W Wx .retN := SdS.ofS fun s q => by
  obtain ⟨p, rfl, _⟩ := chkS_retN q
  exact ⟨_, rfl, PS.weak ps_retN fun D σ H ⟨ρ, σd, hd, rs, rh, hq⟩ => hq ρ H .non (Ext.refl _ _) rh rfl⟩
theorem ss_brk : SdS t c X W Wx .brk := SdS.ofS fun s q => by
  obtain ⟨p, rfl, _⟩ := chkS_brk q
  exact ⟨_, rfl, PS.weak ps_break fun D σ H ⟨ρ, σd, hd, rs, rh, hq⟩ => hq ρ H σ (Ext.refl _ _) rh rs⟩
theorem ss_cnt : SdS t c X W Wx .cnt := SdS.ofS fun s q => by
  obtain ⟨p, rfl, _⟩ := chkS_cnt q
  exact ⟨_, rfl, PS.weak ps_continue fun D σ H ⟨ρ, σd, hd, rs, rh, hq⟩ => hq ρ H σ (Ext.refl _ _) rh rs⟩
theorem ss_pas : SdS t c X W Wx .pas := SdS.ofS fun s q => by
  rcases chkS_pas q with ⟨p, rfl⟩ | ⟨x, k, p, p2, rfl⟩
  · exact ⟨_, rfl, PS.weak ps_pass fun D σ H ⟨ρ, σd, hd, rs, rh, hq⟩ => hq ρ H σ (Ext.refl _ _) rh rs⟩
  · exact ⟨_, rfl, PS.weak ps_doc fun D σ H ⟨ρ, σd, hd, rs, rh, hq⟩ => hq ρ H σ (Ext.refl _ _) rh rs⟩
theorem sw_not {e : Expr} {tg : Option Expr} {ln : Nat} {env : Env} {ex : Ex} (hc : chk c (.e e) ex = true) (h : notComp e = true) : swapsWith e tg ln env = pure false := by
  cases e with
  | ListComp => cases h
  | SetComp => cases ex <;> cases hc
  | DictComp => cases ex <;> cases hc
  | _ => rfl
theorem ss_exp (k : CtxOk t c X W Wx) {e : Ex} : SdS t c X W Wx (.exp e) := SdS.ofS fun s q => by
  obtain ⟨ee, p, rfl, hh⟩ := chkS_exp q
  obtain ⟨h1, h2⟩ := and3 hh
  refine ⟨_, rfl, PS.weak (ps_expr ((sd e c X W Wx k).e _ h2) (sw_not h2 h1)) fun D σ H ⟨ρ, σd, hd, rs, rh, hq⟩ => ⟨ρ, σd, hd, rs, rh, PostS.thn hq rs fun ρ1 H1 d hd1 x y rh1 rv hq1 => hq1 ρ1 H1 σ (Ext.refl _ _) rh1 (rs.ext y)⟩⟩
theorem ss_ife (k : CtxOk t c X W Wx) {q : Ex} {a b : Sm} (ha : SdS t c X W Wx a) (hb : SdS t c X W Wx b) : SdS t c X W Wx (.ife q a b) := SdS.ofS fun s z => by
  obtain ⟨eq, ea, eb, p, rfl, hh⟩ := chkS_ife z
  obtain ⟨h1, hh⟩ := and3 hh
  obtain ⟨h2, h3⟩ := and3 hh
  refine ⟨_, rfl, PS.weak (ps_if ((sd q c X W Wx k).b _ h1) (ha.l _ h2) (hb.l _ h3)) fun D σ H ⟨ρ, σd, hd, rs, rh, hq⟩ => ⟨ρ, σd, hd, rs, rh, PostS.thnB hq rs fun ρ1 H1 b hd1 y rh1 hq1 => ?_⟩⟩
  cases b with
  | true => rw [if_pos rfl] at hq1 ⊢; exact ⟨ρ1, σd, hd1, rs.ext y, rh1, hq1⟩
  | false => rw [if_neg (by decide)] at hq1 ⊢; exact ⟨ρ1, σd, hd1, rs.ext y, rh1, hq1⟩
theorem ss_whl (k : CtxOk t c X W Wx) (so : StOk c X) {q : Ex} {b : Sm} (hb : SdS t c X W Wx b) : SdS t c X W Wx (.whl q b) := SdS.ofS fun s z => by
  obtain ⟨eq, eb, p, rfl, hh⟩ := chkS_whl z
  obtain ⟨h1, hh⟩ := and3 hh
  obtain ⟨h2, h3⟩ := and3 hh
  exact ⟨_, rfl, PS.weak (ps_while (so.hp h1) ((sd q c X W Wx k).b _ h2) (hb.l _ h3)) fun D σ H ⟨ρ, σd, hd, rs, rh, hq⟩ => while_gen rh rs hq⟩
theorem ss_for (k : CtxOk t c X W Wx) (so : StOk c X) {tg : Tg} {it : Ex} {b : Sm} (hb : SdS t c X W Wx b) : SdS t c X W Wx (.for_ tg it b) := SdS.ofS fun s z => by
  obtain ⟨etg, eit, eb, p, rfl, hh⟩ := chkS_for_ z
  obtain ⟨h1, hh⟩ := and3 hh
  obtain ⟨h2, hh⟩ := and3 hh
  obtain ⟨h3, hh⟩ := and3 hh
  obtain ⟨h4, h5⟩ := and3 hh
  have hcX : X.calm = true := by rw [k.calm]; exact h1
  exact ⟨_, rfl, PS.weak (ps_for (so.hp h1) hcX ((sd it c X W Wx k).i _ etg h4) ((tg_ok k tg).1 _ h3) (hb.l _ h5) (folded_ok h2)) fun D σ H ⟨ρ, σd, hd, rs, rh, hq⟩ => ⟨ρ, σd, hd, rs, rh, PostS.thnI hq rs fun ρ1 H1 J ds g hd1 y rh1 jk hq1 => for_gen rh1 (rs.ext y) jk hq1⟩⟩
/-! ### stores -/
theorem tAsg_of {tg : Tg} {e : Ex} {D : Ends} {σ : St} {H : Hp} (hw : tS W Wx (denS t (.asg tg e) none) D σ H) : tAsg (tM W Wx (den t e)) (gD W tg) D σ H := by
  obtain ⟨ρ, σd, hd, rs, rh, hq⟩ := hw
  refine ⟨ρ, σd, hd, rs, rh, PostS.thn hq rs fun ρ1 H1 d hd1 x y rh1 rv hq1 => ?_⟩
  have hq2 : PostS W ρ1 H1 (match bindT tg d hd1 σd with
    | some σ' => .nx σ' hd1
    | none => .bad) D Wx := hq1
  split at hq2
  · rename_i σ' eb
    exact ⟨ρ1, σd, hd1, d, σ', rs.ext y, rh1, rv, eb, fun σ2 rs2 _ => hq2 ρ1 H1 σ2 (Ext.refl _ _) rh1 rs2⟩
  · exact hq2.elim
theorem tup_inv {es : List Expr} {k : Nat} {p : Pos} {e : Ex} (h : chk c (.e (.Tuple es k p)) e = true) : ∃ r, e = .tup r ∧ chk c (.l es) r = true := by
  cases e <;> first | exact ⟨_, rfl, h⟩ | cases h
theorem nm_inv {x : Str} {p : Pos} {tg : Tg} (h : chkT c (.inl (.Name x p)) tg = true) : ∃ i, tg = .n i ∧ c.N[i]? = some x := by
  cases tg with
  | n i => exact ⟨i, rfl, dec_ (and3 (show (decide (c.N[i]? = some x) && stoB c x) = true from h)).1⟩
  | _ => cases h
theorem tt_inv {es : List Expr} {k : Nat} {p : Pos} {tg : Tg} (h : chkT c (.inl (.Tuple es k p)) tg = true) : ∃ r, tg = .t r ∧ chkT c (.inr es) r = true := by
  cases tg with
  | t r => exact ⟨r, rfl, (and3 (show (c.calm && chkT c (.inr es) r) = true from h)).2⟩
  | _ => cases h
theorem tc_inv {e : Expr} {es : List Expr} {tg : Tg} (h : chkT c (.inr (e :: es)) tg = true) : ∃ a r, tg = .cons a r ∧ chkT c (.inl e) a = true ∧ chkT c (.inr es) r = true := by
  cases tg with
  | cons a r =>
    obtain ⟨_, hh⟩ := and3 (show (notStar e && (chkT c (.inl e) a && chkT c (.inr es) r)) = true from h)
    exact ⟨a, r, rfl, (and3 hh).1, (and3 hh).2⟩
  | _ => cases h
theorem tn_inv {tg : Tg} (h : chkT c (.inr []) tg = true) : tg = .nil := by
  cases tg <;> first | rfl | cases h
theorem locB_ok {x : Str} (k : CtxOk t c X W Wx) (h : locB c x = true) : X.env.scope.names.lookup x = some .local := by
  rw [k.sc]; exact dec_ h
theorem ne_ix (k : CtxOk t c X W Wx) {i j : Nat} {x y : Str} (hi : c.N[i]? = some x) (hj : c.N[j]? = some y) (h : x ≠ y) : i ≠ j := fun z => by
  subst z
  rw [hi] at hj
  exact h (Option.some.inj hj)
/-- the arguments of a tuple that is written, told apart -/
theorem PostS.tupL {ρ : List Addr} {H : Hp} {D : Ends} {E : WX} {σd : En} {σ : St} {r : R Ev.D} {f : Ev.D → Hd → RS'} {Q' : List V → Hp → Prop} (h : PostS W ρ H ((r.bind fun x h1 => match x with
    | .tup xs => if szB xs.length = true then .ok (.tup xs) h1 else .bad
    | _ => .bad).thn σd f) D E) (rs : RS W ρ H σd σ) (k : ∀ ρ1 H1 ds hd1 xs, Ext ρ H ρ1 H1 → RH W ρ1 H1 hd1 → RVs W ρ1 H1 ds xs → PostS W ρ1 H1 (f (.tup ds) hd1) D E → Q' xs H1) : PostL W ρ H r Q' (fun c dd H' => E c dd σ H') := by
  cases r with
  | ok d hd =>
    cases d with
    | tup ds =>
      have h' : PostS W ρ H ((if szB ds.length = true then .ok (.tup ds) hd else .bad : R Ev.D).thn σd f) D E := h
      by_cases z : szB ds.length = true
      · rw [if_pos z] at h'
        exact fun ρ1 H1 x y hh rv => k ρ1 H1 ds hd x y hh rv (PostS.ext y h')
      · rw [if_neg z] at h'
        exact h'.elim
    | _ => exact h.elim
  | ex e hd => exact fun ρ1 H1 c dd y hh rx => h ρ1 H1 σ c dd y hh (rs.ext y) rx
  | bad => exact h
theorem kind_fn (so : StOk c X) : X.env.blockKind = .function := by
  unfold Env.blockKind
  rw [so.kf]
  rfl
theorem chk_sw {e : Expr} {ex : Ex} {tg : Expr} {ln : Nat} {env : Env} (hc : chk c (.e e) ex = true) (h : (∃ x p, tg = .Name x p) → notComp e = true) : swapsWithSole [tg] e ln env = pure false := by
  show swapsWith e (some tg) ln env = _
  by_cases z : notComp e = true
  · exact sw_not hc z
  · cases e with
    | ListComp elt gens s p =>
      cases tg with
      | Name x p => exact absurd (h ⟨x, p, rfl⟩) z
      | _ => rfl
    | _ => exact absurd rfl z
theorem lc_sw {elt : Expr} {gens : List Comprehension} {s : Scope} {ep : Pos} {x : Str} {p : Pos} {ln : Nat} (so : StOk c X) (k : CtxOk t c X W Wx) : swapsWith (.ListComp elt gens s ep) (some (.Name x p)) ln X.env = pure (swN c.sc x p s ep) := by
  unfold swapsWith swN
  simp only
  rw [kind_fn so]
  show pure (_ && (X.env.scope.names.lookup x == some .local) && _ && _) = _
  rw [k.sc]
  rfl
theorem set_par {ρ : List Addr} {H : Hp} {σd : En} {σ : St} {d1 d2 : D} {v1 v2 : V} (rs : RS W ρ H σd σ) (r1 : RV W ρ H d1 v1) (r2 : RV W ρ H d2 v2) (i j : Nat) : RS W ρ H ((σd.set i (some d1)).set j (some d2)) ((σ.set i (some v1)).set j (some v2)) := (rs.set r1 i).set r2 j
theorem sw_other {tg e : Expr} {env : Env} (h : ∀ ts k p vs k2 p2, tg = .Tuple ts k p → e = .Tuple vs k2 p2 → False) (h2 : ∀ ts p, tg ≠ .List ts p) : swappedStores [tg] e env = pure none := by
  cases tg with
  | Tuple ts k p =>
    cases e with
    | Tuple vs k2 p2 => exact (h _ _ _ _ _ _ rfl rfl).elim
    | _ => rfl
  | List ts p => exact absurd rfl (h2 _ _)
  | _ => rfl
/-- [..] stored in a name on one line -/
theorem ps_lc_sw (k : CtxOk t c X W Wx) (so : StOk c X) {i : Nat} {x : Str} {px spos : Pos} {elt : Expr} {gens : List Comprehension} {scope : Scope} {p : Pos} {e : Ex} (hi : c.N[i]? = some x) (hx : X.env.scope.names.lookup x = some .local) (hsw : swN c.sc x px scope p = true) (hc : chk c (.e (.ListComp elt gens scope p)) e = true) :
    PS X (.Assign [.Name x px] (.ListComp elt gens scope p) spos) (tAsg (tM W Wx (den t e)) (gName i)) := by
  have hi' : X.N[i]? = some x := by rw [k.N]; exact hi
  have hN : X.N.Nodup := by rw [k.N]; exact k.nd
  cases e with
  | lc vs tg it cond elt' =>
    obtain ⟨eelt, etg, eit, ifs, a, scope', p', z, hh⟩ := chk_lc hc
    cases z
    obtain ⟨h0, hh⟩ := and3 hh
    obtain ⟨h1, hh⟩ := and3 hh
    obtain ⟨h2, hh⟩ := and3 hh
    obtain ⟨h3, hh⟩ := and3 hh
    obtain ⟨h4, hh⟩ := and3 hh
    obtain ⟨h5, hh⟩ := and3 hh
    obtain ⟨h6, hh⟩ := and3 hh
    obtain ⟨h7, hh⟩ := and3 hh
    obtain ⟨h8, h9⟩ := and3 hh
    have ha := dec_ h0
    subst ha
    have hv := dec_ h3
    subst hv
    have hcX : X.calm = true := by rw [k.calm]; exact h1
    have bo := blkOk_by h2
    rw [← k.sc] at bo
    have kb := fun s H C cl fp => CtxOk.blk k h1 (scope := scope) s H C cl fp
    have hsw' := lc_sw (elt := elt) (gens := [⟨etg, eit, ifs, 0⟩]) (ep := p) (x := x) (p := px) (s := scope) (ln := spos.line) so k
    rw [hsw] at hsw'
    refine PS.weak (ps_setLc (own := ownOf c.N scope) hcX hN hi' hx hsw' ((sd it c X W Wx k).i _ etg h6) (by rw [k.N]; exact bo) (fun s H C cl fp => (tg_ok (kb s H C cl fp) tg).1 _ h7) (fun s H C cl fp => pts_ex (sd cond _ _ _ _ (kb s H C cl fp)) h8) (fun s H C cl fp => (sd elt' _ _ _ _ (kb s H C cl fp)).e _ h9) (folded_ok h5)) fun D σ H hw => ?_
    obtain ⟨ρ, σd, hd, rs, rh, hq⟩ := hw
    refine ⟨ρ, σd, hd, rs, rh, PostI.of hq fun ρ1 H1 J ds g hd1 x1 rh1 jk hq1 => ?_⟩
    intro A nA
    cases e : lcLoop tg ((ownOf c.N scope).map (·.2)) (fun σ h => tstD (den t cond σ h)) (den t elt') g ds ds σd [] hd1 with
    | ok accF hdF =>
      rw [e] at hq1
      have nin : A ∉ ρ1 := rh1.out nA
      have xn : Ext ρ1 H1 ρ1 (upd H1 A (.lst [])) := Ext.new nA
      exact lc_gen (all_mem h4) upd_same nin (show RVs W ρ1 _ [] [] from rfl) (rh1.beside nA) ((rs.ext x1).ext xn) (jk.mono xn.to0) e fun ρ2 H2 ys b b0 rh2 hA2 nA2 ra2 => lc_fin nA hq1 b rh2 hA2 nA2 ra2
    | ex z hz => exact (lcLoop_nx e).elim
    | bad => rw [e] at hq1; exact hq1.elim
  | lc2 vs vs1 tg it cond tg1 it1 cond1 elt' =>
    obtain ⟨eelt, etg, eit, ifs, a, etg1, eit1, ifs1, a1, scope', p', z, hh⟩ := chk_lc2 hc
    cases z
    obtain ⟨h0, hh⟩ := and3 hh
    obtain ⟨h0', hh⟩ := and3 hh
    obtain ⟨h1, hh⟩ := and3 hh
    obtain ⟨h2, hh⟩ := and3 hh
    obtain ⟨h3, hh⟩ := and3 hh
    obtain ⟨h3', hh⟩ := and3 hh
    obtain ⟨h4, hh⟩ := and3 hh
    obtain ⟨h4', hh⟩ := and3 hh
    obtain ⟨h5, hh⟩ := and3 hh
    obtain ⟨h5', hh⟩ := and3 hh
    obtain ⟨h6, hh⟩ := and3 hh
    obtain ⟨h7, hh⟩ := and3 hh
    obtain ⟨h8, hh⟩ := and3 hh
    obtain ⟨h9, hh⟩ := and3 hh
    obtain ⟨h10, hh⟩ := and3 hh
    obtain ⟨h11, h12⟩ := and3 hh
    have ha := dec_ h0
    subst ha
    have ha' := dec_ h0'
    subst ha'
    have hv := dec_ h3
    subst hv
    have hcX : X.calm = true := by rw [k.calm]; exact h1
    have bo := blkOk_by h2
    rw [← k.sc] at bo
    have kb := fun s H C cl fp => CtxOk.blk k h1 (scope := scope) s H C cl fp
    have hsw' := lc_sw (elt := elt) (gens := [⟨etg, eit, ifs, 0⟩, ⟨etg1, eit1, ifs1, 0⟩]) (ep := p) (x := x) (p := px) (s := scope) (ln := spos.line) so k
    rw [hsw] at hsw'
    refine PS.weak (ps_setLc2 (own := ownOf c.N scope) (vs1 := vs1) hcX hN hi' hx hsw' ((sd it c X W Wx k).i _ etg h6) (by rw [k.N]; exact bo) (all_mem h3') (fun s H C cl fp => (tg_ok (kb s H C cl fp) tg).1 _ h7) (fun s H C cl fp => pts_ex (sd cond _ _ _ _ (kb s H C cl fp)) h8)
      (fun s H C cl fp => (sd it1 _ _ _ _ (kb s H C cl fp)).i _ etg1 h9) (fun s H C cl fp => (tg_ok (kb s H C cl fp) tg1).1 _ h10) (fun s H C cl fp => pts_ex (sd cond1 _ _ _ _ (kb s H C cl fp)) h11) (fun s H C cl fp => (sd elt' _ _ _ _ (kb s H C cl fp)).e _ h12) (folded_ok h5) (fun env => folded_ok h5')) fun D σ H hw => ?_
    obtain ⟨ρ, σd, hd, rs, rh, hq⟩ := hw
    refine ⟨ρ, σd, hd, rs, rh, PostI.of hq fun ρ1 H1 J ds g hd1 x1 rh1 jk hq1 => ?_⟩
    intro A nA
    cases e : lcLoop2 tg ((ownOf c.N scope).map (·.2)) (fun σ h => tstD (den t cond σ h)) (lcIn tg1 vs1 (den t it1) (fun σ h => tstD (den t cond1 σ h)) (den t elt')) g ds ds σd [] hd1 with
    | ok accF hdF =>
      rw [e] at hq1
      have nin : A ∉ ρ1 := rh1.out nA
      have xn : Ext ρ1 H1 ρ1 (upd H1 A (.lst [])) := Ext.new nA
      exact lc_gen2 (all_mem h4) (all_mem h4') upd_same nin (show RVs W ρ1 _ [] [] from rfl) (rh1.beside nA) ((rs.ext x1).ext xn) (jk.mono xn.to0) e fun ρ2 H2 ys b b0 rh2 hA2 nA2 ra2 => lc_fin nA hq1 b rh2 hA2 nA2 ra2
    | ex z hz => exact (lcLoop2_nx e).elim
    | bad => rw [e] at hq1; exact hq1.elim
  | _ => (rcases gens with _ | ⟨⟨_, _, _, _⟩, _ | ⟨⟨_, _, _, _⟩, _ | ⟨_, _⟩⟩⟩ <;> cases hc)
theorem ss_asg (k : CtxOk t c X W Wx) (so : StOk c X) {tg : Tg} {e : Ex} : SdS t c X W Wx (.asg tg e) := SdS.ofS fun s q => by
  obtain ⟨etg, ee, p, rfl, hh⟩ := chkS_asg q
  obtain ⟨h1, hh⟩ := and3 hh
  obtain ⟨h2, h3⟩ := and3 hh
  refine ⟨_, rfl, ?_⟩
  have he := (sd e c X W Wx k).e _ h2
  have hg := (tg_ok k tg).1 _ h1
  have hN : X.N.Nodup := by rw [k.N]; exact k.nd
  have star : (assignEach [etg] X.env).map (·.2) = [assign etg X.env] := by
    cases etg <;> first | rfl | (cases tg <;> cases h1)
  have notL : ∀ ts p, etg ≠ .List ts p := fun ts p z => by
    subst z
    cases tg <;> cases h1
  have plain : ((∃ x p, etg = .Name x p) → notComp ee = true) → swappedStores [etg] ee X.env = pure none → PS X (.Assign [etg] ee p) (tS W Wx (denS t (.asg tg e) none)) := fun q1 q2 =>
    PS.weak (ps_asg he hg (chk_sw h2 q1) q2 star) fun D σ H hw => tAsg_of hw
  by_cases isT : ∃ ts kt pt vs k2 p2, etg = .Tuple ts kt pt ∧ ee = .Tuple vs k2 p2
  · obtain ⟨ts, kt, pt, vs, k2, p2, rfl, rfl⟩ := isT
    obtain ⟨hst, h3⟩ := and3 (show (vs.all notStar && _) = true from h3)
    have nc : (∃ x p, Expr.Tuple ts kt pt = .Name x p) → notComp (.Tuple vs k2 p2) = true := fun _ => rfl
    rcases Bool.or_eq_true_iff.mp h3 with h3 | h3
    · obtain ⟨e, he, hq⟩ := List.any_eq_true.mp h3
      cases e with
      | Name x p =>
        exact plain nc (sw_cell he (by rw [k.sc]; simpa [isCell] using hq))
      | _ => cases hq
    rcases Bool.or_eq_true_iff.mp h3 with h3 | h3
    · obtain ⟨l2, l3⟩ := and3 h3
      exact plain nc (sw_len (dec_ l2) (dec_ l3))
    rcases Bool.or_eq_true_iff.mp h3 with h3 | h3
    · exact plain nc (sw_fold hst h3)
    split at h3
    · rename_i x px y py a b
      obtain ⟨m0, h3⟩ := and3 h3
      obtain ⟨m1, h3⟩ := and3 h3
      obtain ⟨m2, h3⟩ := and3 h3
      obtain ⟨m3, h3⟩ := and3 h3
      obtain ⟨m4, h3⟩ := and3 h3
      obtain ⟨m5, m6⟩ := and3 h3
      have hx := locB_ok k m1
      have hy := locB_ok k m2
      have sw := sw2_yes (env := X.env) (kt := kt) (pt := pt) (k2 := k2) (p2 := p2) (kind_fn so) hst hx hy (dec_ m3) (dec_ m4) (by simpa only [Bool.not_eq_true'] using m5) (by simpa only [Bool.not_eq_true'] using m6)
      obtain ⟨r, rfl, h2'⟩ := tup_inv h2
      obtain ⟨tg', rfl, h1'⟩ := tt_inv h1
      obtain ⟨t1, tg', rfl, n1, h1'⟩ := tc_inv h1'
      obtain ⟨t2, tg', rfl, n2, h1'⟩ := tc_inv h1'
      cases tn_inv h1'
      obtain ⟨i, rfl, ei⟩ := nm_inv n1
      obtain ⟨j, rfl, ej⟩ := nm_inv n2
      refine PS.weak (ps_par (by rw [k.calm]; exact m0) hN (by rw [k.N]; exact ei) (by rw [k.N]; exact ej) (ne_ix k ei ej (dec_ m4)) hx hy ((sd r c X W Wx k).l _ h2') sw rfl) fun D σ H hw => ?_
      obtain ⟨ρ, σd, hd, rs, rh, hq⟩ := hw
      refine ⟨ρ, σd, hd, rs, rh, PostS.tupL hq rs fun ρ1 H1 ds hd1 xs y rh1 rvs hq1 => ?_⟩
      have hq2 : PostS W ρ1 H1 (match bindT (.t (.cons (.n i) (.cons (.n j) .nil))) (.tup ds) hd1 σd with
        | some σ' => .nx σ' hd1
        | none => .bad) D Wx := hq1
      rcases ds with _ | ⟨d1, _ | ⟨d2, _ | ⟨d3, ds⟩⟩⟩
      · exact hq2.elim
      · exact hq2.elim
      · obtain ⟨v1, r1, rfl, a1, v2, r2, rfl, a2, a3⟩ := rvs
        cases a3
        exact ⟨v1, v2, rfl, hq2 ρ1 H1 _ (Ext.refl _ _) rh1 (((rs.ext y).set a1 i).set a2 j)⟩
      · exact hq2.elim
    · rename_i x px y py z pz a b d
      obtain ⟨m0, h3⟩ := and3 h3
      obtain ⟨m1, h3⟩ := and3 h3
      obtain ⟨m2, h3⟩ := and3 h3
      obtain ⟨m2', h3⟩ := and3 h3
      obtain ⟨m3, h3⟩ := and3 h3
      obtain ⟨m3', h3⟩ := and3 h3
      obtain ⟨m4, h3⟩ := and3 h3
      obtain ⟨m4', h3⟩ := and3 h3
      obtain ⟨m4'', h3⟩ := and3 h3
      obtain ⟨m5, m6⟩ := and3 h3
      have hx := locB_ok k m1
      have hy := locB_ok k m2
      have hz := locB_ok k m2'
      have sw := sw3_yes (env := X.env) (kt := kt) (pt := pt) (k2 := k2) (p2 := p2) (kind_fn so) hst hx hy hz (dec_ m3) (dec_ m3') (dec_ m4) (dec_ m4') (dec_ m4'') (by simpa only [Bool.not_eq_true'] using m5) (by simpa only [Bool.not_eq_true'] using m6)
      obtain ⟨r, rfl, h2'⟩ := tup_inv h2
      obtain ⟨tg', rfl, h1'⟩ := tt_inv h1
      obtain ⟨t1, tg', rfl, n1, h1'⟩ := tc_inv h1'
      obtain ⟨t2, tg', rfl, n2, h1'⟩ := tc_inv h1'
      obtain ⟨t3, tg', rfl, n3, h1'⟩ := tc_inv h1'
      cases tn_inv h1'
      obtain ⟨i, rfl, ei⟩ := nm_inv n1
      obtain ⟨j, rfl, ej⟩ := nm_inv n2
      obtain ⟨l, rfl, el⟩ := nm_inv n3
      refine PS.weak (ps_par3 (by rw [k.calm]; exact m0) hN (by rw [k.N]; exact ei) (by rw [k.N]; exact ej) (by rw [k.N]; exact el) (ne_ix k ei ej (dec_ m4)) (ne_ix k ei el (dec_ m4')) (ne_ix k ej el (dec_ m4'')) hx hy hz ((sd r c X W Wx k).l _ h2') sw rfl) fun D σ H hw => ?_
      obtain ⟨ρ, σd, hd, rs, rh, hq⟩ := hw
      refine ⟨ρ, σd, hd, rs, rh, PostS.tupL hq rs fun ρ1 H1 ds hd1 xs y rh1 rvs hq1 => ?_⟩
      have hq2 : PostS W ρ1 H1 (match bindT (.t (.cons (.n i) (.cons (.n j) (.cons (.n l) .nil)))) (.tup ds) hd1 σd with
        | some σ' => .nx σ' hd1
        | none => .bad) D Wx := hq1
      rcases ds with _ | ⟨d1, _ | ⟨d2, _ | ⟨d3, _ | ⟨d4, ds⟩⟩⟩⟩
      · exact hq2.elim
      · exact hq2.elim
      · exact hq2.elim
      · obtain ⟨v1, r1, rfl, a1, v2, r2, rfl, a2, v3, r3, rfl, a3, a4⟩ := rvs
        cases a4
        exact ⟨v1, v2, v3, rfl, hq2 ρ1 H1 _ (Ext.refl _ _) rh1 ((((rs.ext y).set a1 i).set a2 j).set a3 l)⟩
      · exact hq2.elim
    · cases h3
  · have sw : swappedStores [etg] ee X.env = pure none := sw_other (fun ts k p vs k2 p2 z1 z2 => isT ⟨ts, k, p, vs, k2, p2, z1, z2⟩) notL
    by_cases isN : ∃ x p, etg = .Name x p
    · obtain ⟨x, px, rfl⟩ := isN
      by_cases nc : notComp ee = true
      · exact plain (fun _ => nc) sw
      · cases ee with
        | ListComp elt gens s ep =>
          obtain ⟨i, rfl, ei⟩ := nm_inv h1
          by_cases hsw : swN c.sc x px s ep = true
          · have hx : X.env.scope.names.lookup x = some .local := by
              rw [k.sc]
              have := hsw
              unfold swN at this
              simp only [Bool.and_eq_true, beq_iff_eq] at this
              exact this.1.1
            refine PS.weak (ps_lc_sw k so ei hx hsw h2) fun D σ H hw => ?_
            obtain ⟨ρ, σd, hd, rs, rh, hq⟩ := hw
            exact ⟨ρ, σd, hd, rs, rh, PostS.thn hq rs fun ρ1 H1 d hd1 x y rh1 rv hq1 => hq1 ρ1 H1 _ (Ext.refl _ _) rh1 ((rs.ext y).set rv i)⟩
          · have hsw' : swapsWithSole [.Name x px] (.ListComp elt gens s ep) p.line X.env = pure false := by
              show swapsWith (.ListComp elt gens s ep) (some (.Name x px)) p.line X.env = pure false
              rw [lc_sw so k]
              have : swN c.sc x px s ep = false := by simpa using hsw
              rw [this]
            exact PS.weak (ps_asg he hg hsw' sw star) fun D σ H hw => tAsg_of hw
        | _ => exact absurd rfl nc
    · exact plain (fun z => absurd z isN) sw
/-! ### o[i] = e -/
def rSix (W : Wd) : TSet := fun o i v H Q => ∃ ρ hd od id vd h4, RH W ρ H hd ∧ RV W ρ H od o ∧ RV W ρ H id i ∧ RV W ρ H vd v ∧ sixD od id vd hd = some h4 ∧ ∀ ρ' H', Ext ρ H ρ' H' → RH W ρ' H' h4 → Q H'
theorem set_six (hK : W.K = X.K) : PSet X (rSix W) := by
  intro pins s σ H o i v ov iv u Q I r1 r2 r3 ⟨ρ, hd, od, id, vd, h4, rh, q1, q2, q3, e, hQ⟩
  unfold sixD at e
  split at e
  · rename_i l
    split at e
    · rename_i ds j el
      split at e
      · rename_i j' ej
        cases e
        obtain ⟨a, vs, rfl, ea, sa, ra⟩ := rh.list q1 el
        have q2' : i = V.int j := q2
        subst q2'
        refine set_list pins s σ H _ _ v ov iv u Q I r1 r2 r3 ⟨a, vs, j, j', rfl, rfl, sa, by rw [ra.length]; exact ej, ?_⟩
        have x : Ext ρ H ρ (upd H a (.lst (vs.set j' v))) := Ext.write sa (List.mem_of_getElem? ea) (fun z => z)
        exact hQ ρ _ x (rh.write ea sa (fun z => z) ⟨_, upd_same, RVs.ext x _ _ (ra.set q3 j')⟩)
      · cases e
    · cases e
  · cases e
theorem sub_plain {o i : Expr} {pos : Pos} {ex : Ex} {env : Env} (h : chk c (.e i) ex = true) : ∀ v, assign (.Subscript o i pos) env v = (do
      let ov ← holding [v] (eval o env)
      let iv ← holding [v, ov] (eval i env)
      standAt pos
      holding [v, ov, iv] (setItem ov iv v)
      release [v, ov, iv] []) := by
  intro v
  cases i with
  | Slice lo hi st p => cases ex <;> cases h
  | _ => rfl
theorem ss_six (k : CtxOk t c X W Wx) {o i e : Ex} : SdS t c X W Wx (.six o i e) := SdS.ofS fun s q => by
  obtain ⟨eo, ei, p1, ee, p, rfl, hh⟩ := chkS_six q
  obtain ⟨h1, hh⟩ := and3 hh
  obtain ⟨h2, h3⟩ := and3 hh
  refine ⟨_, rfl, PS.weak (ps_asg ((sd e c X W Wx k).e _ h3) (pg_sub ((sd o c X W Wx k).e _ h1) ((sd i c X W Wx k).e _ h2) (set_six k.K) (sub_plain h2)) (chk_sw h3 (fun ⟨_, _, z⟩ => nomatch z)) (sw_other (fun _ _ _ _ _ _ z => nomatch z) (fun _ _ z => nomatch z)) rfl) fun D σ H hw => ?_⟩
  obtain ⟨ρ, σd, hd, rs, rh, hq⟩ := hw
  refine ⟨ρ, σd, hd, rs, rh, PostS.thn hq rs fun ρ1 H1 d hd1 x y1 rh1 rv hq1 => ⟨ρ1, σd, hd1, rs.ext y1, rh1, PostS.thn hq1 (rs.ext y1) fun ρ2 H2 d2 hd2 x2 y2 rh2 rv2 hq2 => ⟨ρ2, σd, hd2, (rs.ext y1).ext y2, rh2, PostS.thn hq2 ((rs.ext y1).ext y2) fun ρ3 H3 d3 hd3 x3 y3 rh3 rv3 hq3 => ?_⟩⟩⟩
  have hq4 : PostS W ρ3 H3 (match sixD d2 d3 d hd3 with
    | some h4 => .nx σd h4
    | none => .bad) D Wx := hq3
  split at hq4
  · rename_i h4 e4
    exact ⟨ρ3, hd3, d2, d3, d, h4, rh3, RV.ext y3 _ _ rv2, rv3, RV.ext (y2.trans y3) _ _ rv, e4, fun ρ' H' x rh' => hq4 ρ' H' σ x rh' (((rs.ext y1).ext y2).ext (y3.trans x))⟩
  · exact hq4.elim
end
end Ev

/-! Ev, part 17: raise, try; the whole. -/
namespace Ev
open PySem PySem.Spec PyProof.Rows L2
/-! ### from a context without a handled exception to one with -/
section
variable {W W' : Wd} {ρ : List Addr} {H : Hp}
mutual
theorem RV.up (hK : W'.K = W.K) (hm : W'.mg = W.mg) (hx : W.xa = none) : ∀ (d : D) (v : V), RV W ρ H d v → RV W' ρ H d v
  | .non, _, h => h
  | .bl _, _, h => h
  | .int _, _, h => h
  | .str _, _, h => h
  | .loc _, _, h => h
  | .fn x, v, h => by
    obtain ⟨f, e, m⟩ := h
    exact ⟨f, e, by rw [hm]; exact m⟩
  | .tup ds, v, h => by
    obtain ⟨a, vs, e, s, r⟩ := h
    exact ⟨a, vs, e, by rw [hK]; exact s, RVs.up hK hm hx ds vs r⟩
  | .fro ds, v, h => by
    obtain ⟨a, vs, e, s, r⟩ := h
    exact ⟨a, vs, e, by rw [hK]; exact s, RVs.up hK hm hx ds vs r⟩
  | .exn x g d, v, h => by
    obtain ⟨a, C, dd, v', e, h1, _⟩ := h
    rw [hx] at h1; cases h1
theorem RVs.up (hK : W'.K = W.K) (hm : W'.mg = W.mg) (hx : W.xa = none) : ∀ (ds : List D) (vs : List V), RVs W ρ H ds vs → RVs W' ρ H ds vs
  | [], _, h => h
  | d :: ds, vs, h => by
    obtain ⟨v, r, e, h1, h2⟩ := h
    exact ⟨v, r, e, RV.up hK hm hx d v h1, RVs.up hK hm hx ds r h2⟩
end
theorem RK.up (hK : W'.K = W.K) (hm : W'.mg = W.mg) (hx : W.xa = none) : ∀ {ds : List (Key × D)} {vs : List (Key × V)}, RK W ρ H ds vs → RK W' ρ H ds vs
  | [], _, h => h
  | (k, d) :: ds, vs, h => by
    obtain ⟨v, r, e, h1, h2⟩ := h
    exact ⟨v, r, e, RV.up hK hm hx d v h1, RK.up hK hm hx h2⟩
theorem RO.up (hK : W'.K = W.K) (hm : W'.mg = W.mg) (hx : W.xa = none) {a : Addr} {o : O} (h : RO W ρ H a o) : RO W' ρ H a o := by
  cases o with
  | lst ds => obtain ⟨vs, h1, h2⟩ := h; exact ⟨vs, h1, RVs.up hK hm hx _ _ h2⟩
  | dk ds => obtain ⟨vs, h1, h2⟩ := h; exact ⟨vs, h1, RK.up hK hm hx h2⟩
theorem RH.up (hK : W'.K = W.K) (hm : W'.mg = W.mg) (hx : W.xa = none) {hd : Hd} (h : RH W ρ H hd) : RH W' ρ H hd := ⟨h.len, h.nd, fun l a o e1 e2 => RO.up hK hm hx (h.ob l a o e1 e2)⟩
theorem RS.up (hK : W'.K = W.K) (hm : W'.mg = W.mg) (hx : W.xa = none) {σd : En} {σ : St} (h : RS W ρ H σd σ) : RS W' ρ H σd σ := ⟨h.1, fun i d e => let ⟨v, e1, r⟩ := h.2 i d e; ⟨v, e1, RV.up hK hm hx d v r⟩⟩
theorem RO.noxU (hK : W.K = W'.K) (hm : W.mg = W'.mg) {a : Addr} {o : O} (n : o.nox = true) (h : RO W' ρ H a o) : RO W ρ H a o := by
  cases o with
  | lst ds => obtain ⟨vs, h1, h2⟩ := h; exact ⟨vs, h1, RVs.nox hK hm _ _ n h2⟩
  | dk ds => obtain ⟨vs, h1, h2⟩ := h; exact ⟨vs, h1, RK.nox hK hm n h2⟩
theorem RH.noxU (hK : W.K = W'.K) (hm : W.mg = W'.mg) {hd : Hd} (n : hd.all O.nox = true) (h : RH W' ρ H hd) : RH W ρ H hd :=
  ⟨h.len, h.nd, fun l a o e1 e2 => RO.noxU hK hm (List.all_eq_true.mp n o (List.mem_of_getElem? e2)) (h.ob l a o e1 e2)⟩
theorem RS.noxU (hK : W.K = W'.K) (hm : W.mg = W'.mg) {σd : En} {σ : St} (n : noxE σd = true) (h : RS W' ρ H σd σ) : RS W ρ H σd σ :=
  ⟨h.1, fun i d e => let ⟨v, e1, r⟩ := h.2 i d e; ⟨v, e1, RV.nox hK hm d v (List.all_eq_true.mp n _ (List.mem_of_getElem? e)) r⟩⟩
theorem RS.gone {σd : En} {σ : St} (h : RS W ρ H σd σ) (i : Nat) : RS W ρ H (σd.set i none) (σ.set i none) := by
  refine ⟨by simp [h.1], fun j e hj => ?_⟩
  by_cases hi : i = j
  · subst hi
    by_cases hl : i < σd.length
    · rw [List.getElem?_set_self hl] at hj; cases hj
    · rw [List.getElem?_eq_none (by simpa using hl)] at hj; cases hj
  · rw [List.getElem?_set_ne hi] at hj ⊢
    exact h.2 j e hj
theorem PostS.suite (hK : W.K = W'.K) (hm : W.mg = W'.mg) {i : Option Nat} {r : RS'} {D : Ends} {E : WX} (h : PostS W ρ H (suiteEnd i r) D E) : PostS W' ρ H r (endsN i D) WF := by
  cases r with
  | ex e σ h2 => exact h.elim
  | bad => exact h.elim
  | rt d h2 =>
    have h' : PostS W ρ H (if (d.nox && h2.all O.nox) = true then .rt d h2 else .bad) D E := h
    by_cases z : (d.nox && h2.all O.nox) = true
    · rw [if_pos z] at h'
      obtain ⟨z1, z2⟩ := and3 z
      cases i <;> exact fun ρ' H' v y rh rv => h' ρ' H' v y (rh.noxU hK hm z2) (RV.nox hK hm d v z1 rv)
    · rw [if_neg z] at h'; exact h'.elim
  | nx σ h2 =>
    cases i with
    | none =>
      have h' : PostS W ρ H (if (noxE σ && h2.all O.nox) = true then .nx σ h2 else .bad) D E := h
      by_cases z : (noxE σ && h2.all O.nox) = true
      · rw [if_pos z] at h'
        obtain ⟨z1, z2⟩ := and3 z
        exact fun ρ' H' σ' y rh rs => h' ρ' H' σ' y (rh.noxU hK hm z2) (rs.noxU hK hm z1)
      · rw [if_neg z] at h'; exact h'.elim
    | some i =>
      have h' : PostS W ρ H (if (noxE (σ.set i none) && h2.all O.nox) = true then .nx (σ.set i none) h2 else .bad) D E := h
      by_cases z : (noxE (σ.set i none) && h2.all O.nox) = true
      · rw [if_pos z] at h'
        obtain ⟨z1, z2⟩ := and3 z
        exact fun ρ' H' σ' y rh rs => h' ρ' H' _ y (rh.noxU hK hm z2) ((rs.gone i).noxU hK hm z1)
      · rw [if_neg z] at h'; exact h'.elim
  | bk σ h2 =>
    cases i with
    | none =>
      have h' : PostS W ρ H (if (noxE σ && h2.all O.nox) = true then .bk σ h2 else .bad) D E := h
      by_cases z : (noxE σ && h2.all O.nox) = true
      · rw [if_pos z] at h'
        obtain ⟨z1, z2⟩ := and3 z
        exact fun ρ' H' σ' y rh rs => h' ρ' H' σ' y (rh.noxU hK hm z2) (rs.noxU hK hm z1)
      · rw [if_neg z] at h'; exact h'.elim
    | some i =>
      have h' : PostS W ρ H (if (noxE (σ.set i none) && h2.all O.nox) = true then .bk (σ.set i none) h2 else .bad) D E := h
      by_cases z : (noxE (σ.set i none) && h2.all O.nox) = true
      · rw [if_pos z] at h'
        obtain ⟨z1, z2⟩ := and3 z
        exact fun ρ' H' σ' y rh rs => h' ρ' H' _ y (rh.noxU hK hm z2) ((rs.gone i).noxU hK hm z1)
      · rw [if_neg z] at h'; exact h'.elim
  | ct σ h2 =>
    cases i with
    | none =>
      have h' : PostS W ρ H (if (noxE σ && h2.all O.nox) = true then .ct σ h2 else .bad) D E := h
      by_cases z : (noxE σ && h2.all O.nox) = true
      · rw [if_pos z] at h'
        obtain ⟨z1, z2⟩ := and3 z
        exact fun ρ' H' σ' y rh rs => h' ρ' H' σ' y (rh.noxU hK hm z2) (rs.noxU hK hm z1)
      · rw [if_neg z] at h'; exact h'.elim
    | some i =>
      have h' : PostS W ρ H (if (noxE (σ.set i none) && h2.all O.nox) = true then .ct (σ.set i none) h2 else .bad) D E := h
      by_cases z : (noxE (σ.set i none) && h2.all O.nox) = true
      · rw [if_pos z] at h'
        obtain ⟨z1, z2⟩ := and3 z
        exact fun ρ' H' σ' y rh rs => h' ρ' H' _ y (rh.noxU hK hm z2) ((rs.gone i).noxU hK hm z1)
      · rw [if_neg z] at h'; exact h'.elim
end
def xaOf (a : Addr) (cls : Value) (d : Option Addr) : Option (Addr × Addr × Addr) := match cls, d with
  | .ref C, some dd => some (a, C, dd)
  | _, _ => none
theorem xaOf_some {a : Addr} {cls : Value} {d : Option Addr} {a' C dd : Addr} (h : xaOf a cls d = some (a', C, dd)) : a' = a ∧ cls = .ref C ∧ d = some dd := by
  unfold xaOf at h
  split at h
  · cases h; exact ⟨rfl, rfl, rfl⟩
  · cases h
def wdX (W : Wd) (a : Addr) (cls : Value) (d : Option Addr) : Wd := ⟨W.K, W.mg, xaOf a cls d⟩
section
variable {t : Rt} {c : Cc} {X : Cx} {W : Wd} {Wx : WX}
/-! ### raise -/
theorem str1_inv {es : List Expr} {r : Ex} (h : chk c (.l es) r = true) (h2 : isStr1 es = true) : ∃ m k p, es = [.Constant (.str m) k p] ∧ r = .cons (.str m) .nil := by
  unfold isStr1 at h2
  split at h2
  · rename_i m k p
    refine ⟨m, k, p, rfl, ?_⟩
    cases r with
    | cons a r =>
      obtain ⟨_, hh⟩ := and3 (show (notStar (.Constant (.str m) k p) && (chk c (.e (.Constant (.str m) k p)) a && chk c (.l []) r)) = true from h)
      obtain ⟨h3, h4⟩ := and3 hh
      have e1 : r = .nil := by cases r <;> first | rfl | cases h4
      have e2 : a = .str m := by
        cases a with
        | str j => rw [dec_ (show decide (m = j) = true from h3)]
        | _ => cases h3
      rw [e1, e2]
    | _ => cases h
  · cases h2
theorem ss_rai (k : CtxOk t c X W Wx) {y : Str} {r : Ex} : SdS t c X W Wx (.rai y r) := SdS.ofS fun s q => by
  obtain ⟨x, p1, es, p2, p, rfl, hh⟩ := chkS_rai q
  obtain ⟨h1, hh⟩ := and3 hh
  obtain ⟨h2, hh⟩ := and3 hh
  obtain ⟨h3, hh⟩ := and3 hh
  obtain ⟨h4, hh⟩ := and3 hh
  obtain ⟨h5, h6⟩ := and3 hh
  have hx := dec_ h1
  subst hx
  have hcX : X.calm = true := by rw [k.calm]; exact h2
  obtain ⟨g1, g2⟩ := glo_ok' k h3
  refine ⟨_, rfl, ?_⟩
  cases e : t.exf x with
  | none => rw [e] at h5; cases h5
  | some o =>
    rw [e] at h5
    have ro := k.rx h2 x o e
    cases o with
    | none =>
      obtain ⟨C, B, n1, n2, bm, gC, F, qx, kC, R⟩ := ro
      obtain ⟨m, kk, pp, rfl, rfl⟩ := str1_inv h6 h5
      refine PS.weak (ps_raise hcX k.tk (pmk_own F qx gC kC R g1 g2)) fun Dd σ H ⟨ρ, σd, hd, rs, rh, hq⟩ => ?_
      have hq' : PostS W ρ H (match (Ev.D.tup [Ev.D.str m] : Ev.D), t.exf x with
        | .tup [.str _], some none => .ex ⟨x, none⟩ σd hd
        | .tup [d], some (some g) => .ex ⟨x, some (g, d)⟩ σd hd
        | _, _ => .bad) Dd Wx := hq
      rw [e] at hq'
      exact hq' ρ H σ (.ref C) none (Ext.refl _ _) rh rs ⟨C, by rw [k.mg]; exact gC, rfl, rfl⟩
    | some g =>
      obtain ⟨C, fI, kk, fd, ps, gC, T, iC, tI, F1, hr, hb⟩ := ro
      cases es with
      | nil => cases h4
      | cons e0 es =>
        obtain ⟨s1, s2⟩ := star_l (pos := p2) (env := X.env) h6
        refine PS.weak (ps_raise hcX k.tk (pmk_oex (dvs := []) T iC tI F1 hr hb .nil (fun _ _ _ _ _ _ _ c => by obtain ⟨_, _, _, _, _, _, _, _, _, _, _, _, z⟩ := c; exact z.elim) g1 gC ((sd r c X W Wx k).l _ h6) g2 s1 s2)) fun D σ H ⟨ρ, σd, hd, rs, rh, hq⟩ => ?_
        refine ⟨ρ, σd, hd, rs, rh, PostS.thnL hq rs (fun d h n => by cases d <;> first | rfl | exact absurd rfl (n _)) fun ρ1 H1 ds hd1 xs y1 rh1 rvs hq1 => ?_⟩
        simp only [e] at hq1
        split at hq1
        · rename_i z; cases z
        · rename_i d g' z z2
          cases z
          cases z2
          obtain ⟨v, vr, rfl, rv, rn⟩ := rvs
          cases rn
          refine ⟨by simp, fun a na => ⟨a, v, rfl, upd_same, fun dx ndx ne => ⟨rfl, dx, [(g, v)], upd_same, by rw [upd_ne ne]; exact upd_same, by rw [upd_ne ne] at ndx; exact ndx, ?_⟩⟩⟩
          have ndx' : H1 dx = none := by rw [upd_ne ne] at ndx; exact ndx
          have eH : upd (del (upd (upd (upd H1 a (exo a C none)) dx (exd dx [(g, v)])) a (exo a C (some dx))) a) dx (.xd [(g, v)]) = upd H1 dx (.xd [(g, v)]) := by
            funext b
            by_cases b1 : b = dx
            · rw [b1, upd_same, upd_same]
            · rw [upd_ne b1, upd_ne b1]
              by_cases b2 : b = a
              · rw [b2, del_same, na]
              · rw [del_ne b2, upd_ne b2, upd_ne b1, upd_ne b2]
          rw [eH]
          have xx : Ext ρ1 H1 ρ1 (upd H1 dx (.xd [(g, v)])) := Ext.new ndx'
          exact hq1 ρ1 _ σ (.ref C) (some dx) xx (rh1.beside ndx') ((rs.ext y1).ext xx) ⟨C, by rw [k.mg]; exact gC, rfl, dx, v, rfl, upd_same, RV.ext xx _ _ rv⟩
        · exact hq1.elim
/-! ### try -/
structure SdH (t : Rt) (c : Cc) (X : Cx) (W : Wd) (Wx : WX) (hs : List ExceptHandler) (sm : Sm) : Prop where
  ex : ∃ l, HdM X hs l ∧ ∀ D ρ H e σd hd σ cls dd, RS W ρ H σd σ → RH W ρ H hd → RX W ρ H e cls dd → PostS W ρ H (denS t sm (some e) σd hd) D Wx → wMix X.K Wx D l cls dd σ H
theorem CtxOk.tr (k : CtxOk t c X W Wx) (hc : c.calm = true) {pn : List (Addr × Obj)} {xe : Value → Shared → Prop} {W2 : WX} (tk : Takes (X.tr pn xe) W2) : CtxOk t c (X.tr pn xe) W W2 where
  N := k.N
  nd := k.nd
  sc := k.sc
  K := k.K
  mg := k.mg
  calm := k.calm
  xa := k.xa
  tk := tk
  units := k.units
  room := k.room
  fn := k.fn
  free := k.free
  glob := k.glob
  suite := fun a C' dd e => by
    rw [k.xa hc] at e
    cases e
  xc := k.xc
  rx := k.rx
  isa := k.isa
theorem CtxOk.hot (k : CtxOk t c X W Wx) (hc : c.calm = true) {a : Addr} {oe : Obj} {pn : List (Addr × Obj)} {cls : Value} {d : Option Addr} (hz : Zc cls d oe) (hf : ∃ vs, oe.data = .fields vs) : CtxOk t c.hot (X.suite a ((a, oe) :: pn)) (wdX W a cls d) WF where
  N := k.N
  nd := k.nd
  sc := k.sc
  K := k.K
  mg := k.mg
  calm := rfl
  xa := fun z => nomatch z
  tk := takes0
  units := k.units
  room := fun z => nomatch z
  fn := k.fn
  free := k.free
  glob := fun x d' e => by
    obtain ⟨u, v, h1, h2, h3⟩ := k.glob x d' e
    exact ⟨u, v, h1, h2, fun ρ H => RV.up (W := W) (W' := wdX W a cls _) rfl rfl (k.xa hc) _ _ (h3 ρ H)⟩
  suite := fun a' C' dd e => by
    obtain ⟨rfl, rfl, rfl⟩ := xaOf_some (show xaOf a cls d = some (a', C', dd) from e)
    exact ⟨X, oe, pn, rfl, hz, hf⟩
  xc := k.xc
  rx := fun z => nomatch z
  isa := k.isa
theorem StOk.hot (so : StOk c X) {a : Addr} {pn : List (Addr × Obj)} : StOk c.hot (X.suite a pn) := ⟨so.hs, so.hf, (fun z => nomatch z), so.kf⟩
theorem sh_nil : ∀ hs, chkS t c (.h hs) .hnil = true → SdH t c X W Wx hs .hnil := fun hs h => by
  obtain ⟨z, _⟩ := chkS_hnil h
  cases z
  exact ⟨[], .nil, fun D ρ H e σd hd σ cls dd rs rh rx hq => hq ρ H σ cls dd (Ext.refl _ _) rh rs rx⟩
theorem sh_cons (k : CtxOk t c X W Wx) (so : StOk c X) (hc : c.calm = true) {y : Str} {i : Option Nat} {su rest : Sm} (hsu : ∀ X W Wx, CtxOk t c.hot X W Wx → StOk c.hot X → SdS t c.hot X W Wx su) (hr : ∀ hs, chkS t c (.h hs) rest = true → SdH t c X W Wx hs rest) :
    ∀ hs, chkS t c (.h hs) (.hcons y i su rest) = true → SdH t c X W Wx hs (.hcons y i su rest) := fun hs h => by
  obtain ⟨x, p, n, b0, sts, p2, r, z, hh⟩ := chkS_hcons h
  cases z
  obtain ⟨h1, hh⟩ := and3 hh
  obtain ⟨h2, hh⟩ := and3 hh
  obtain ⟨h3, hh⟩ := and3 hh
  obtain ⟨h4, hh⟩ := and3 hh
  obtain ⟨h5, h6⟩ := and3 hh
  have hx := dec_ h1
  subst hx
  obtain ⟨g1, g2⟩ := glo_ok' k h2
  obtain ⟨b, eb⟩ := Option.isSome_iff_exists.mp h3
  obtain ⟨_, u, _, hu, _⟩ := k.isa x x b eb
  obtain ⟨l, hl, hw⟩ := (hr r h6).ex
  have hn : nmOk X n i := by
    cases n with
    | none => cases i <;> first | trivial | cases h4
    | some n =>
      cases i with
      | none => cases h4
      | some i =>
        obtain ⟨q1, q2⟩ := and3 (show (decide (c.N[i]? = some n) && locB c n) = true from h4)
        exact ⟨by rw [k.N]; exact dec_ q1, locB_ok k q2⟩
  refine ⟨(u, i, fun a cls d => tS (wdX W a cls d) WF (denS t su none)) :: l, .cons ⟨g1, g2, .inl hu⟩ hn (fun a oe cls d pn hz hf => (hsu _ _ _ (k.hot hc hz hf) so.hot).l _ h5) hl, ?_⟩
  intro D ρ H e σd hd σ cls dd rs rh rx hq
  obtain ⟨C, hC, rfl, hfl⟩ := rx
  have hq' : PostS W ρ H (match t.isa e.cls x with
    | some true => (match suiteIn i e σd with
      | some σ' => suiteEnd i (denS t su none σ' hd)
      | none => .bad)
    | some false => denS t rest (some e) σd hd
    | none => .bad) D Wx := hq
  cases ei : t.isa e.cls x with
  | none => rw [ei] at hq'; exact hq'.elim
  | some b =>
    rw [ei] at hq'
    obtain ⟨C', u', m1, m2, m3⟩ := k.isa _ _ _ ei
    rw [hu] at m2
    cases m2
    rw [k.mg, m1] at hC
    cases hC
    refine ⟨b, m3, fun eb a na => ?_, fun eb => ?_⟩
    · subst eb
      have hq2 : PostS W ρ H (match suiteIn i e σd with
        | some σ' => suiteEnd i (denS t su none σ' hd)
        | none => .bad) D Wx := hq'
      have hK : W.K = (wdX W a (.ref C) dd).K := rfl
      have hm : W.mg = (wdX W a (.ref C) dd).mg := rfl
      have rs' : RS (wdX W a (.ref C) dd) ρ H σd σ := RS.up (W := W) (W' := wdX W a (.ref C) dd) rfl rfl (k.xa hc) rs
      have rh' : RH (wdX W a (.ref C) dd) ρ H hd := RH.up (W := W) (W' := wdX W a (.ref C) dd) rfl rfl (k.xa hc) rh
      cases i with
      | none => exact ⟨ρ, σd, hd, rs', rh', PostS.suite hK hm (i := none) hq2⟩
      | some i =>
        have hq3 : PostS W ρ H (match (match e.fld with
          | some (g, d) => some (σd.set i (some (.exn e.cls g d)))
          | none => none) with
          | some σ' => suiteEnd (some i) (denS t su none σ' hd)
          | none => .bad) D Wx := hq2
        cases ef : e.fld with
        | none => rw [ef] at hq3; exact hq3.elim
        | some gd =>
          obtain ⟨g, d⟩ := gd
          rw [ef] at hq3 hfl
          obtain ⟨ad, v, rfl, hxd, rv⟩ := hfl
          have rx : RV (wdX W a (.ref C) (some ad)) ρ H (.exn e.cls g d) (.ref a) := ⟨a, C, ad, v, rfl, rfl, (show W.mg e.cls = _ by rw [k.mg]; exact m1), hxd, RV.up (W := W) (W' := wdX W a (.ref C) (some ad)) rfl rfl (k.xa hc) _ _ rv⟩
          exact ⟨ρ, σd.set i (some (.exn e.cls g d)), hd, rs'.set rx i, rh', PostS.suite hK hm (i := some i) hq3⟩
    · subst eb
      exact hw D ρ H e σd hd σ (.ref C) dd rs rh ⟨C, by rw [k.mg]; exact m1, rfl, hfl⟩ hq'
theorem ss_try (k : CtxOk t c X W Wx) (so : StOk c X) {b hs : Sm} (hb : ∀ X W Wx, CtxOk t c X W Wx → StOk c X → SdS t c X W Wx b) (hh : c.calm = true → ∀ l, chkS t c (.h l) hs = true → SdH t c X W Wx l hs) : SdS t c X W Wx (.try_ b hs) := SdS.ofS fun s q => by
  obtain ⟨eb, h, hs', p, rfl, q⟩ := chkS_try_ q
  obtain ⟨hc, q⟩ := and3 q
  obtain ⟨h1, h2⟩ := and3 q
  obtain ⟨l, hl, hw⟩ := (hh hc _ h2).ex
  refine ⟨_, rfl, PS.weak (ps_tryM (tb := fun W2 => tS W W2 (denS t b none)) so.hs so.hf (by rw [k.N]; exact k.nd) k.tk (fun W2 pn xe tk po => (hb _ _ _ (k.tr hc tk) ⟨so.hs, so.hf, fun _ => po, so.kf⟩).l _ h1) hl) fun D σ H ⟨ρ, σd, hd, rs, rh, hq⟩ => ⟨ρ, σd, hd, rs, rh, ?_⟩⟩
  have hq' : PostS W ρ H (match denS t b none σd hd with
    | .ex e σ' h' => denS t hs (some e) σ' h'
    | r => r) D Wx := hq
  cases e : denS t b none σd hd with
  | ex e σ1 h1 =>
    rw [e] at hq'
    exact fun ρ' H' σ' cls dd y rh1 rs1 rx => hw D ρ' H' _ σ1 h1 σ' cls dd rs1 rh1 rx (PostS.ext y hq')
  | nx _ _ => rw [e] at hq'; exact hq'
  | bk _ _ => rw [e] at hq'; exact hq'
  | ct _ _ => rw [e] at hq'; exact hq'
  | rt _ _ => rw [e] at hq'; exact hq'
  | bad => rw [e] at hq'; exact hq'
theorem sdS : ∀ (sm : Sm), (∀ c X W Wx, CtxOk t c X W Wx → StOk c X → SdS t c X W Wx sm) ∧ (∀ c X W Wx, c.calm = true → CtxOk t c X W Wx → StOk c X → ∀ hs, chkS t c (.h hs) sm = true → SdH t c X W Wx hs sm) := by
  intro sm
  have noH : ∀ {sm : Sm}, (∀ c s, chkS t c s sm = true → ∀ hs, s ≠ .h hs) → ∀ c X W Wx, c.calm = true → CtxOk t c X W Wx → StOk c X → ∀ hs, chkS t c (.h hs) sm = true → SdH t c X W Wx hs sm := fun h c X W Wx _ _ _ hs q => absurd rfl (h c _ q hs)
  induction sm with
  | nil => exact ⟨fun c X W Wx k so => ss_nil, noH fun c s q hs z => by obtain ⟨e, _⟩ := chkS_nil q; rw [e] at z; cases z⟩
  | seq a b ha hb => exact ⟨fun c X W Wx k so => ss_seq (ha.1 c X W Wx k so) (hb.1 c X W Wx k so), noH fun c s q hs z => by obtain ⟨_, _, e, _⟩ := chkS_seq q; rw [e] at z; cases z⟩
  | asg tg e => exact ⟨fun c X W Wx k so => ss_asg k so, noH fun c s q hs z => by obtain ⟨_, _, _, e, _⟩ := chkS_asg q; rw [e] at z; cases z⟩
  | six o i e => exact ⟨fun c X W Wx k so => ss_six k, noH fun c s q hs z => by obtain ⟨_, _, _, _, _, e, _⟩ := chkS_six q; rw [e] at z; cases z⟩
  | ife q a b ha hb => exact ⟨fun c X W Wx k so => ss_ife k (ha.1 c X W Wx k so) (hb.1 c X W Wx k so), noH fun c s q hs z => by obtain ⟨_, _, _, _, e, _⟩ := chkS_ife q; rw [e] at z; cases z⟩
  | whl q b hb => exact ⟨fun c X W Wx k so => ss_whl k so (hb.1 c X W Wx k so), noH fun c s q hs z => by obtain ⟨_, _, _, e, _⟩ := chkS_whl q; rw [e] at z; cases z⟩
  | for_ tg it b hb => exact ⟨fun c X W Wx k so => ss_for k so (hb.1 c X W Wx k so), noH fun c s q hs z => by obtain ⟨_, _, _, _, e, _⟩ := chkS_for_ q; rw [e] at z; cases z⟩
  | brk => exact ⟨fun c X W Wx k so => ss_brk, noH fun c s q hs z => by obtain ⟨_, e, _⟩ := chkS_brk q; rw [e] at z; cases z⟩
  | cnt => exact ⟨fun c X W Wx k so => ss_cnt, noH fun c s q hs z => by obtain ⟨_, e, _⟩ := chkS_cnt q; rw [e] at z; cases z⟩
  | ret e => exact ⟨fun c X W Wx k so => ss_ret k, noH fun c s q hs z => by obtain ⟨_, _, e, _⟩ := chkS_ret q; rw [e] at z; cases z⟩
  | retN => exact ⟨fun c X W Wx k so => ss_retN, noH fun c s q hs z => by obtain ⟨_, e, _⟩ := chkS_retN q; rw [e] at z; cases z⟩
  | pas => exact ⟨fun c X W Wx k so => ss_pas, noH fun c s q hs z => by rcases chkS_pas q with ⟨_, e⟩ | ⟨_, _, _, _, e⟩ <;> (rw [e] at z; cases z)⟩
  | exp e => exact ⟨fun c X W Wx k so => ss_exp k, noH fun c s q hs z => by obtain ⟨_, _, e, _⟩ := chkS_exp q; rw [e] at z; cases z⟩
  | rai y r => exact ⟨fun c X W Wx k so => ss_rai k, noH fun c s q hs z => by obtain ⟨_, _, _, _, _, e, _⟩ := chkS_rai q; rw [e] at z; cases z⟩
  | try_ b hs hb hh => exact ⟨fun c X W Wx k so => ss_try k so (hb.1 c) (fun hc l q => hh.2 c X W Wx hc k so l q), noH fun c s q hs z => by obtain ⟨_, _, _, _, e, _⟩ := chkS_try_ q; rw [e] at z; cases z⟩
  | hnil => exact ⟨fun c X W Wx k so => SdS.ofN fun s q => by obtain ⟨e, _⟩ := chkS_hnil q; exact ⟨_, e⟩, fun c X W Wx _ _ _ => sh_nil⟩
  | hcons y i su rest hsu hr => exact ⟨fun c X W Wx k so => SdS.ofN fun s q => by obtain ⟨_, _, _, _, _, _, _, e, _⟩ := chkS_hcons q; exact ⟨_, e⟩, fun c X W Wx hc k so => sh_cons k so hc (hsu.1 c.hot) (hr.2 c X W Wx hc k so)⟩
end
end Ev

/-! Ev, part 18: defs. -/
namespace Ev
open PySem PySem.Spec PyProof.Rows L2
/-- a def's end: what nobody names any more is left out; n: the places that it was given -/
def trimR (n : Nat) : RS' → R D
  | .rt d h => (match getAll h (List.range n ++ (uniq (D.ls d)).filter fun l => decide (n ≤ l)) with
    | some os => if (os.all O.flat && d.nox) = true then .ok (d.ml fun l => posOf l (List.range n ++ (uniq (D.ls d)).filter fun l => decide (n ≤ l))) os else .bad
    | none => .bad)
  | .nx _ h => (match getAll h (List.range n) with
    | some os => if os.all O.flat = true then .ok .non os else .bad
    | none => .bad)
  | .ex e _ h => (match getAll h (List.range n) with
    | some os => if (os.all O.flat && e.flat) = true then .ex e os else .bad
    | none => .bad)
  | _ => .bad
def startD (N : List Str) (ds : List D) : En := ds.map some ++ List.replicate (N.length - ds.length) none
/-- a part of the places -/
theorem sub_places {W : Wd} {ρ ρ' : List Addr} {H H' : Hp} {h os : Hd} {ls : List Nat} {new : List Nat} (x : Ext ρ H ρ' H') (rh : RH W ρ' H' h) (hl : ls = List.range ρ.length ++ new) (nd : ls.Nodup) (eo : getAll h ls = some os) (fl : os.all O.flat = true) :
    ∃ ρ2, Ext ρ H ρ2 H' ∧ RH W ρ2 H' os ∧ ∀ (i l : Nat) (a : Addr), ls[i]? = some l → ρ'[l]? = some a → ρ2[i]? = some a := by
  have hol : os.length = ls.length := getAll_len eo
  have fl' : ∀ o ∈ os, o.flat = true := List.all_eq_true.mp fl
  have lt : ∀ {i l : Nat}, ls[i]? = some l → l < ρ'.length := fun {i l} e => by
    obtain ⟨o, _, e2⟩ := getAll_get eo e
    rw [rh.len]
    exact (List.getElem?_eq_some_iff.mp e2).1
  have atS : ∀ {i l : Nat} {a : Addr}, ls[i]? = some l → ρ'[l]? = some a → (ls.map fun l => ρ'.getD l 0)[i]? = some a := fun e1 e2 => get_map_getD e1 e2
  have ofS : ∀ {i : Nat} {a : Addr}, (ls.map fun l => ρ'.getD l 0)[i]? = some a → ∃ l, ls[i]? = some l ∧ ρ'[l]? = some a := fun {i a} e => by
    have hi : i < ls.length := by
      have := (List.getElem?_eq_some_iff.mp e).1
      simpa using this
    have e1 : ls[i]? = some ls[i] := List.getElem?_eq_getElem hi
    have e2 : ρ'[ls[i]]? = some (ρ'[ls[i]]'(lt e1)) := List.getElem?_eq_getElem (lt e1)
    have e3 := atS e1 e2
    rw [e] at e3
    cases e3
    exact ⟨_, e1, e2⟩
  obtain ⟨⟨s, es, ns⟩, keep, there⟩ := x
  have pre : ∃ s2, (ls.map fun l => ρ'.getD l 0) = ρ ++ s2 ∧ ∀ a ∈ s2, H a = none := by
    refine ⟨new.map fun l => ρ'.getD l 0, ?_, fun a ha => ?_⟩
    · rw [hl, List.map_append]
      congr 1
      apply List.ext_getElem?
      intro i
      by_cases hi : i < ρ.length
      · rw [List.getElem?_map, List.getElem?_range hi, Option.map_some, es, List.getD_eq_getElem?_getD, List.getElem?_append_left hi, List.getElem?_eq_getElem hi]
        rfl
      · rw [List.getElem?_eq_none (by simpa using hi), List.getElem?_eq_none (by omega)]
    · obtain ⟨l, hm, rfl⟩ := List.mem_map.mp ha
      obtain ⟨j, hj, ej⟩ := List.mem_iff_getElem.mp hm
      have ej' : ls[ρ.length + j]? = some l := by
        rw [hl, List.getElem?_append_right (by simp)]
        simp only [List.length_range]
        rw [show ρ.length + j - ρ.length = j by omega, List.getElem?_eq_getElem hj, ej]
      have hlt := lt ej'
      have hge : ρ.length ≤ l := by
        rcases Nat.lt_or_ge l ρ.length with z | z
        · have e2 : ls[l]? = some l := by
            rw [hl, List.getElem?_append_left (by simpa using z), List.getElem?_range z]
          have h1 := (List.getElem?_eq_some_iff.mp ej')
          have h2 := (List.getElem?_eq_some_iff.mp e2)
          obtain ⟨a1, b1⟩ := h1
          obtain ⟨a2, b2⟩ := h2
          have := (List.getElem_inj nd).mp (b1.trans b2.symm)
          omega
        · exact z
      rw [List.getD_eq_getElem?_getD, List.getElem?_eq_getElem hlt]
      show H (ρ'[l]) = none
      have : ρ'[l] ∈ s := by
        have e3 : ρ'[l]? = s[l - ρ.length]? := by rw [es, List.getElem?_append_right hge]
        rw [List.getElem?_eq_getElem hlt] at e3
        exact List.mem_of_getElem? e3.symm
      exact ns _ this
  refine ⟨_, ⟨pre, keep, there⟩, ⟨by rw [List.length_map, hol], ?_, fun i a o e1 e2 => ?_⟩, fun i l a e1 e2 => atS e1 e2⟩
  · refine List.pairwise_iff_getElem.mpr fun i j hi hj hij e => ?_
    have ej : (ls.map fun l => ρ'.getD l 0)[j]? = some (ls.map fun l => ρ'.getD l 0)[j] := List.getElem?_eq_getElem hj
    have ei : (ls.map fun l => ρ'.getD l 0)[i]? = some (ls.map fun l => ρ'.getD l 0)[j] := by rw [List.getElem?_eq_getElem hi, e]
    obtain ⟨l, e1, e2⟩ := ofS ej
    obtain ⟨l', e3, e4⟩ := ofS ei
    obtain ⟨h1, z1⟩ := List.getElem?_eq_some_iff.mp e2
    obtain ⟨h2, z2⟩ := List.getElem?_eq_some_iff.mp e4
    have := (List.getElem_inj rh.nd).mp (z1.trans z2.symm)
    subst this
    obtain ⟨h1, z1⟩ := List.getElem?_eq_some_iff.mp e1
    obtain ⟨h2, z2⟩ := List.getElem?_eq_some_iff.mp e3
    have := (List.getElem_inj nd).mp (z1.trans z2.symm)
    omega
  · obtain ⟨l, e3, e4⟩ := ofS e1
    obtain ⟨o', e5, e6⟩ := getAll_get eo e3
    rw [e2] at e5
    cases e5
    exact RO.flat rfl rfl (fl' o (List.mem_of_getElem? e2)) (rh.ob l a o e4 e6)
theorem nd_new (n : Nat) (d : D) : (List.range n ++ (uniq (D.ls d)).filter fun l => decide (n ≤ l)).Nodup := by
  rw [List.nodup_append]
  refine ⟨List.nodup_range, (nd_uniq _).filter _, fun a ha b hb e => ?_⟩
  have h1 := List.mem_range.mp ha
  have h2 := of_decide_eq_true (List.mem_filter.mp hb).2
  omega
theorem trim_ok {W : Wd} {ρ : List Addr} {H : Hp} {n : Nat} {r : RS'} {Q : VK} {E : XK} (hn : ρ.length = n) (h : Post W ρ H (trimR n r) Q E) : PostS W ρ H r { nx := fun _ H' => Q .non H', rt := Q } (fun cls d _ H' => E cls d H') := by
  subst hn
  cases r with
  | rt d hd =>
    unfold trimR at h
    simp only at h
    split at h
    case h_2 => exact h.elim
    rename_i os eo
    split at h
    case isFalse => exact h.elim
    rename_i c
    obtain ⟨c1, c2⟩ := Bool.and_eq_true_iff.mp c
    intro ρ' H' v x rh rv
    obtain ⟨ρ2, x2, rh2, at_⟩ := sub_places x rh rfl (nd_new _ _) eo c1
    refine h ρ2 H' v x2 rh2 (RV.ren rfl rfl d v c2 (fun l hl a e => at_ _ l a (posOf_get ?_) e) rv)
    rw [List.mem_append, List.mem_range, List.mem_filter]
    rcases Nat.lt_or_ge l ρ.length with z | z
    · exact .inl z
    · exact .inr ⟨mem_uniq.mpr hl, decide_eq_true z⟩
  | nx σ hd =>
    unfold trimR at h
    simp only at h
    split at h
    case h_2 => exact h.elim
    rename_i os eo
    split at h
    case isFalse => exact h.elim
    rename_i c
    intro ρ' H' v x rh rs
    obtain ⟨ρ2, x2, rh2, at_⟩ := sub_places (new := []) x rh (by simp) (by simpa using List.nodup_range) eo c
    exact h ρ2 H' .non x2 rh2 rfl
  | ex e σ hd =>
    unfold trimR at h
    simp only at h
    split at h
    case h_2 => exact h.elim
    rename_i os eo
    split at h
    case isFalse => exact h.elim
    rename_i c
    obtain ⟨c1, c2⟩ := Bool.and_eq_true_iff.mp c
    intro ρ' H' σ' cls dd x rh rs rx
    obtain ⟨ρ2, x2, rh2, at_⟩ := sub_places (new := []) x rh (by simp) (by simpa using List.nodup_range) eo c1
    refine h ρ2 H' cls dd x2 rh2 ?_
    obtain ⟨C, g1, g2, g3⟩ := rx
    refine ⟨C, g1, g2, ?_⟩
    obtain ⟨cl, fld⟩ := e
    cases fld with
    | none => exact g3
    | some p =>
      obtain ⟨g, d⟩ := p
      have c3 : d.flat = true := c2
      obtain ⟨a, v, z1, z2, z3⟩ := g3
      exact ⟨a, v, z1, z2, RV.flat rfl rfl d v c3 z3⟩
  | bk σ hd => exact h.elim
  | ct σ hd => exact h.elim
  | bad => exact h.elim
theorem rs_start {W : Wd} {ρ : List Addr} {H : Hp} {N : List Str} : ∀ {ds : List D} {vs : List V}, RVs W ρ H ds vs → RS W ρ H (startD N ds) (start N vs) := by
  intro ds vs h
  have hl := h.length
  refine ⟨by unfold startD L2.start; simp [hl], fun i d e => ?_⟩
  unfold startD at e
  unfold L2.start
  by_cases hi : i < ds.length
  · rw [List.getElem?_append_left (by simpa using hi), List.getElem?_map, List.getElem?_eq_getElem hi] at e
    cases e
    obtain ⟨v, e1, r⟩ := h.get (List.getElem?_eq_getElem hi)
    exact ⟨v, by rw [List.getElem?_append_left (by simpa [hl] using hi), List.getElem?_map, e1]; rfl, r⟩
  · rw [List.getElem?_append_right (by simpa using hi)] at e
    have := List.mem_of_getElem? e
    rw [List.mem_replicate] at this
    cases this.2
/-- how an exception of the class x is made, at the room k -/
def RaiK (P : Program) (w : World) (K : PySem.W.Frag) (mg : Str → Option Value) (base : Heap) (k : Nat) (x : Str) : Option Str → Prop
  | none => ∃ (C : Addr) (B newId initId : String) (bmB : List Value), mg x = some (.ref C) ∧ PySem.ExcBaseFacts B newId initId bmB ∧ PySem.W.excIn K C bmB newId = true ∧ PySem.W.keepIn K (.ref C) = true ∧
      PySem.W.subIn K (.ref C) (.type "BaseException") = some true ∧ PySem.W.typeIn K (.ref C) = some (.type "type")
  | some g => ∃ (C fI : Addr) (j : Nat) (fd : FuncData) (ps : List Str), j + 1 ≤ k ∧ mg x = some (.ref C) ∧ OexC K C ∧ PySem.W.findIn K (.ref C) "__init__" = some (some (.ref fI)) ∧ PySem.W.typeIn K (.ref fI) = some (.type "function") ∧
      FnOk P w K mg base (L2.CX P w) j fI fd ps (spI C g) ∧ Binds K fd ps []
/-- what the module says -/
structure GOk (t : Rt) (P : Program) (w : World) (K : PySem.W.Frag) (mg : Str → Option Value) (base : Heap) (free : Str → Bool) (k : Nat) : Prop where
  free : ∀ x, free x = true → mg x = none
  glob : ∀ x d, t.glob x = some d → ∃ u v, mg x = some u ∧ RelV v u ∧ ∀ ρ H, RV ⟨K, mg, none⟩ ρ H d v
  xc : ∀ x g C, t.exf x = some (some g) → mg x = some (.ref C) → XcOk K C g
  rai : ∀ x g, t.exf x = some g → RaiK P w K mg base k x g
  isa : ∀ x y b, t.isa x y = some b → ∃ C u, mg x = some (.ref C) ∧ mg y = some u ∧ PySem.W.exmOne K (.ref C) u = some b
theorem def_ok {t : Rt} {P : Program} {w : World} {K : PySem.W.Frag} {mg : Str → Option Value} {base : Heap} {k : Nat} {x qual : Str} {params : Arguments} {body : List Stmt} {scope : Scope} {dvs : List V} {kws : List (Str × V)} {f : Addr} {fd : FuncData} {N ps : List Str} {sm : Sm} {free : Str → Bool} {spec : List D → Hd → R D}
    (F : FunD K x qual params body scope dvs kws f fd) (S : FnScope N ps scope) (G : GOk t P w K mg base free k) (hc : chkS t ⟨N, scope, true, fun _ => true, free⟩ (.l body) sm = true) (held : ∀ x n, t.ar x n = true → FnHeld t P w K mg base k x)
    (hs : ∀ ds os, ds.length = ps.length → spec ds os = .bad ∨ trimR os.length (denS t sm none (startD N ds) os) = spec ds os) :
    FnOk P w K mg base (L2.CX P w) (k + 1) f fd ps (spOf ⟨K, mg, none⟩ ps.length spec) := by
  refine F.ok S (fun vs H Q E h => ?_) (fun cdv A outer s H vs Q E hr h => ?_)
  · obtain ⟨ρ, ds, os, e, r, _⟩ := h
    rw [r.length, e]
  obtain ⟨ρ, ds, os, e, r, rh, hp⟩ := h
  let X := cxOf (L2.CX P w) P w K mg base N qual scope f cdv A outer s H E
  have tk : Takes X (fun cls d _ H' => E cls d H') := takes_of rfl rfl rfl rfl
  have kk : CtxOk t ⟨N, scope, true, fun _ => true, free⟩ X ⟨K, mg, none⟩ (fun cls d _ H' => E cls d H') := {
    N := rfl
    nd := S.nd
    sc := rfl
    K := rfl
    mg := rfl
    calm := rfl
    xa := fun _ => rfl
    tk := tk
    units := by have := hr.un; show (A.deeper _).units + 64 < cLine; omega
    room := fun _ => ⟨k, hr, held⟩
    fn := fun _ _ => rfl
    free := G.free
    glob := G.glob
    suite := fun a C dd e => by cases e
    xc := G.xc
    rx := fun _ x g eg => by
      have q := G.rai x g eg
      cases g with
      | none =>
        obtain ⟨C, B, n1, n2, bm, h1, h2, h3, h4, h5, h6⟩ := q
        exact ⟨C, B, n1, n2, bm, h1, h2, h3, h4, raises_own h5 h6⟩
      | some g =>
        obtain ⟨C, fI, j, fd, ps, hj, h1, h2, h3, h4, h5, h6⟩ := q
        exact ⟨C, fI, j, fd, ps, h1, h2, h3, h4, h5, hr.mono hj, h6⟩
    isa := G.isa }
  have so : StOk ⟨N, scope, true, fun _ => true, free⟩ X := ⟨rfl, rfl, fun _ => passes_of (K := fun e s'' => L2.CX P w outer H s E e s'') rfl, S.kind⟩
  refine ⟨_, ((sdS sm).1 _ X _ _ kk so).l _ hc, ?_⟩
  refine ⟨ρ, startD N ds, os, rs_start r, rh, trim_ok (n := os.length) rh.len ?_⟩
  rcases hs ds os e with z | z
  · rw [z] at hp; exact hp.elim
  · rw [z]; exact hp
end Ev

/-! Ev, part 19: own exception classes with an __init__; the head's hook. -/
namespace Ev
open PySem PySem.Spec PyProof.Rows L2
/-! ### the hook -/
abbrev AlE : Type := He.AlD × Bool
def obsE (n : Nat) (fa : List He.Fa) (fn : List He.DefD) (ex : PySem.W.Frag → Bool) (g : Addr → Option Obj) : AlE := (He.obsD fa fn (He.frG g (He.asD g n ++ [cStatics])), ex (He.frG g (He.asD g n ++ [cStatics])))
def hookE (n : Nat) (fa : List He.Fa) (fn : List He.DefD) (ex : PySem.W.Frag → Bool) : PySem.W.Hook where
  α := AlE
  obs := fun s => obsE n fa fn ex s.heap.get?
  val := fun _ => (He.valD fn, true)
  says := fun _ h => ∃ K : PySem.W.Frag, K.In h ∧ He.SaysD fa fn K ∧ ex K = true
  of := fun _ _ e => ⟨_, He.frG_in, congrArg (fun z : AlE => z.1) e, congrArg (fun z : AlE => z.2) e⟩
  keeps := fun _ _ _ ⟨K, hK, c⟩ k => ⟨K, PySem.W.Frag.In.keeps hK k, c⟩
theorem obsE_eq {n : Nat} {fa : List He.Fa} {fn : List He.DefD} {ex : PySem.W.Frag → Bool} {g : Addr → Option Obj} {s : Shared} (h : ∀ a, g a = s.heap.get? a) : obsE n fa fn ex g = (hookE n fa fn ex).obs s := by
  have e : g = s.heap.get? := funext h
  rw [e] <;> rfl
/-! ### the class -/
def oexB (K : PySem.W.Frag) (C : Addr) : Bool := (match K.lookup C with
  | some ⟨.type "type", _, .cls cd, sl⟩ => (match cd.mro, sl.toList with
    | .ref C' :: bm, [_, _, _, _, some (.builtin n), _] => C' == C && (n == "ValueError.__new__" && (!cd.hasDel && (cd.hasDict && PySem.HandSPX.refsVE bm)))
    | _, _ => false)
  | _ => false) && (He.eqO (PySem.W.findIn K (.ref C) "__setattr__") (some (some (.builtin "object.__setattr__"))) && (decide (PySem.W.subIn K (.ref C) (.type "BaseException") = some true) && (decide (PySem.W.typeIn K (.ref C) = some (.type "type")) && PySem.W.keepIn K (.ref C))))
theorem oexB_ok {K : PySem.W.Frag} {C : Addr} (h : oexB K C = true) : OexC K C := by
  obtain ⟨q, h⟩ := and3 h
  obtain ⟨h2, h⟩ := and3 h
  obtain ⟨h3, h⟩ := and3 h
  obtain ⟨h4, h5⟩ := and3 h
  refine ⟨?_, He.eqO_ok h2, dec_ h3, dec_ h4, h5⟩
  split at q
  · rename_i dd cd sl ho
    split at q
    · rename_i C' bm k0 k1 k2 k3 n k5 hm hs
      simp only [Bool.and_eq_true, beq_iff_eq, Bool.not_eq_true'] at q
      obtain ⟨rfl, rfl, hdel, hdi, hr⟩ := q
      obtain ⟨nm, bs, mro, ns, qn, hd, sn, sub, ab, col, del⟩ := cd
      dsimp only at hm hdel hdi hr
      subst hm hdel hdi
      have hsl : sl = #[k0, k1, k2, k3, some (.builtin "ValueError.__new__"), k5] := by
        obtain ⟨l⟩ := sl
        simp only at hs
        rw [hs]
      subst hsl
      exact ⟨nm, qn, ns, bs, _, sn, sub, ab, col, dd, k0, k1, k2, k3, k5, ho, hr⟩
    · cases q
  · cases q
def valB (f : Option PySem.W.CFound) : Bool := match f with
  | some (.val (.builtin n)) => n == "ValueError.__init__"
  | _ => false
theorem valB_ok {f : Option PySem.W.CFound} (h : valB f = true) : f = some (.val (.builtin "ValueError.__init__")) := by
  unfold valB at h
  split at h
  · rw [beq_iff_eq.mp h]
  · cases h
/-- x: the class; B: the class whose __init__ its __init__ calls; g: its field -/
def xoB (K : PySem.W.Frag) (x B g : Str) : Bool := oexB K (He.ga K x) && (He.eqO (PySem.W.findIn K (.ref (He.ga K x)) "__init__") (some (some (.ref (He.fAd K (x, some "__init__"))))) && (decide (PySem.W.typeIn K (.ref (He.fAd K (x, some "__init__"))) = some (.type "function")) &&
  (PySem.W.readsIn K (He.ga K B) (.type "type") && (He.eqO (PySem.W.specialIn K (.ref (He.ga K B)) "__getattribute__") (some (some (.builtin "type.__getattribute__"))) && (valB (PySem.W.findCls K (.ref (He.ga K B)) (.type "type") "__init__") &&
  (He.eqO (PySem.W.findIn K (.ref (He.ga K x)) g) (some none) && xfB K (He.ga K x)))))))
section
variable {X : Cx} {e : Expr} {es : List Expr} {ta : TA} {p1 p2 pos : Pos}
theorem pe_veinit2 {B : Str} {CF : Addr} {pl : Sem Bool} (hg : Gl X B) (hd : (B == ("__debug__" : Str)) = false) (hm : X.mg B = some (.ref CF)) (hr : PySem.W.readsIn X.K CF (.type "type") = true) (hga : PySem.W.specialIn X.K (.ref CF) "__getattribute__" = some (some (.builtin "type.__getattribute__")))
    (hv : PySem.W.findCls X.K (.ref CF) (.type "type") "__init__" = some (.val (.builtin "ValueError.__init__"))) (ha : PA X (e :: es) ta)
    (hc : eval (.Call (.Attribute (.Name B p1) "__init__" p2) (e :: es) [] pos) X.env = (do
      let ov ← eval (.Name B p1) X.env
      standAt p2.atName
      let (f, first) ← holding [ov] (getMethod ov "__init__" pl)
      callWith pos f first (backTo pos (starEach (e :: es) X.env)) (backToKw pos (keywordEach [] X.env))) := by rfl)
    (he : starEach (e :: es) X.env = (false, eval e X.env) :: starEach es X.env := by rfl) (hpl : (backTo pos (starEach es X.env)).any (·.1) = false := by rfl) :
    PE X (.Call (.Attribute (.Name B p1) "__init__" p2) (e :: es) [] pos) (tVeI X.K ta) := by
  refine ⟨fun pins s σ H Q I h => ?_⟩
  refine PySem.W.methodCall_KW (ld_glob I hg hm ?_ hd) hc
  refine PySem.W.method_cls I.kIn hga (PySem.W.cls_value I.kIn hr hv (by decide +kernel) ?_)
  show wpAny _ _ (callWith pos (Value.builtin "ValueError.__init__") [] (backTo pos (starEach (e :: es) X.env)) []) _ _ _
  refine PyProof.Rows.callWith_method1 (thn (ha.run pos pins _ σ H _ (I.tok _) h) fun us s1 ⟨vs, H1, I1, r1, a, C, ws, ev, hl, T, ea, q⟩ => ?_) he hpl
  subst ev
  cases r1 with
  | @cons _ u0 _ ur ra rw' =>
    obtain rfl : u0 = Value.ref a := ra
    have hlen : ur.length ≤ sizeLine := by
      rw [← Paired.length rw', sizeLine_eq]
      omega
    exact oinit_ok T I1 ea hlen fun s' J => ⟨.non, H1, J, rfl, q⟩
end
theorem init_ok {P : Program} {w : World} {K : PySem.W.Frag} {mg : Str → Option Value} {base : Heap} {k : Nat} {x qual : Str} {params : Arguments} {body : List Stmt} {scope : Scope} {dvs : List V} {kws : List (Str × V)} {f : Addr} {fd : FuncData} {ns nr B g : Str} {C CF : Addr}
    {p1 p2 p3 p4 p5 p6 q1 q2 q3 q4 : Pos} (F : FunD K x qual params body scope dvs kws f fd) (S : FnScope [ns, nr] [ns, nr] scope)
    (hb : body = [.Expr (.Call (.Attribute (.Name B p1) "__init__" p2) [.Name ns q1, .Name nr q2] [] p3) p4, .Assign [.Attribute (.Name ns q3) g p5] (.Name nr q4) p6])
    (hs : scope.names.lookup ns = some .local) (hr : scope.names.lookup nr = some .local) (hB : scope.names.lookup B = some .globalImplicit) (hd : (notDbg ns && (notDbg nr && notDbg B)) = true) (hm : mg B = some (.ref CF)) (h1 : PySem.W.readsIn K CF (.type "type") = true) (h2 : PySem.W.specialIn K (.ref CF) "__getattribute__" = some (some (.builtin "type.__getattribute__")))
    (h3 : PySem.W.findCls K (.ref CF) (.type "type") "__init__" = some (.val (.builtin "ValueError.__init__"))) (T : OexC K C) (hg : PySem.W.findIn K (.ref C) g = some none)
    (hc : ∀ env : Env, ∃ pl : Sem Bool, eval (.Call (.Attribute (.Name B p1) "__init__" p2) [.Name ns q1, .Name nr q2] [] p3) env = (do
      let ov ← eval (.Name B p1) env
      standAt p2.atName
      let (f, first) ← holding [ov] (getMethod ov "__init__" pl)
      callWith p3 f first (backTo p3 (starEach [.Name ns q1, .Name nr q2] env)) (backToKw p3 (keywordEach [] env)))) : FnOk P w K mg base (L2.CX P w) (k + 1) f fd [ns, nr] (spI C g) := by
  subst hb
  obtain ⟨d1, hd⟩ := and3 hd
  obtain ⟨d2, d3⟩ := and3 hd
  obtain ⟨a1, a2⟩ := notDbg_ok d1
  obtain ⟨b1, b2⟩ := notDbg_ok d2
  obtain ⟨c1, _⟩ := notDbg_ok d3
  refine F.ok S (fun vs H Q E h => ?_) (fun cdv A outer s H vs Q E hroom h => ?_)
  · obtain ⟨a, y, rfl, _⟩ := h
    rfl
  · obtain ⟨a, y, rfl, ea, q⟩ := h
    let X := cxOf (L2.CX P w) P w K mg base [ns, nr] qual scope f cdv A outer s H E
    have v0 : ∀ p, PE X (.Name ns p) (tVar 0) := fun p => pe_var (X := X) (i := 0) rfl (.inl hs) a1 a2
    have v1 : ∀ p, PE X (.Name nr p) (tVar 1) := fun p => pe_var (X := X) (i := 1) rfl (.inl hr) b1 b2
    obtain ⟨pl, hpl⟩ := hc X.env
    refine ⟨_, pss_cons (ps_expr (pe_veinit2 (X := X) hB c1 hm h1 h2 h3 (pa_cons (v0 q1) (pa_cons (v1 q2) pa_nil rfl) rfl) hpl)) (pss_one (ps_ost (X := X) (f := g) (v0 q3) (v1 q4))), ?_⟩
    refine ⟨.ref a, rfl, y, rfl, a, C, [y], rfl, by simp, T, ea, ?_⟩
    refine ⟨y, rfl, .ref a, rfl, a, C, rfl, T, hg, .inl ⟨ea, fun dx n ne => q dx n ne⟩⟩
end Ev

/-! Ev, part 20: a module of defs; pure defs; the law's end. -/
namespace Ev
open PySem PySem.Spec PyProof.Rows L2
/-! ### a module of defs -/
structure Df where
  x : Str
  N : List Str
  np : Nat
  sm : Sm
  sp : List D → Hd → R D
/-- the last def of that name among the first i -/
def orcOf (es : List Df) (i : Nat) (x : Str) : List D → Hd → R D := match (es.take i).reverse.find? (fun e => e.x == x) with
  | some e => e.sp
  | none => fun _ _ => .bad
def arOf (es : List Df) (i : Nat) (x : Str) (n : Nat) : Bool := (es.take i).any fun e => e.x == x && decide (e.np = n)
def mkT (es : List Df) (glob : Str → Option D) (exf : Str → Option (Option Str)) (isa : Str → Str → Option Bool) (i : Nat) : Rt := ⟨glob, orcOf es i, fun _ _ => [], arOf es i, exf, isa⟩
/-- what the row's text says of one def -/
structure DfOk (es : List Df) (glob : Str → Option D) (exf : Str → Option (Option Str)) (isa : Str → Str → Option Bool) (free : Str → Bool) (K : PySem.W.Frag) (mg : Str → Option Value) (e : Df) : Prop where
  ex : ∃ (f : Addr) (fd : FuncData) (params : Arguments) (body : List Stmt) (scope : Scope) (ps : List Str) (dvs : List V) (kws : List (Str × V)) (qual : Str), FunD K e.x qual params body scope dvs kws f fd ∧ mg e.x = some (.ref f) ∧ ps.length = e.np ∧ FnScope e.N ps scope ∧ Binds K fd ps [] ∧
    ∀ i, chkS (mkT es glob exf isa i) ⟨e.N, scope, true, fun _ => true, free⟩ (.l body) e.sm = true
section
variable {es : List Df} {glob : Str → Option D} {exf : Str → Option (Option Str)} {isa : Str → Str → Option Bool} {free : Str → Bool} {P : Program} {w : World} {K : PySem.W.Frag} {mg : Str → Option Value} {base : Heap}
/-- e does what it is said to do, the defs ahead of it given -/
def DoesAt (es : List Df) (glob : Str → Option D) (exf : Str → Option (Option Str)) (isa : Str → Str → Option Bool) (i : Nat) (e : Df) : Prop := ∀ ds os, ds.length = e.np → e.sp ds os = .bad ∨ trimR os.length (denS (mkT es glob exf isa i) e.sm none (startD e.N ds) os) = e.sp ds os
theorem held_all (G : ∀ i k, 3 ≤ k → GOk (mkT es glob exf isa i) P w K mg base free k) (hn : ∀ e ∈ es, ∀ e' ∈ es, e.x = e'.x → e.np = e'.np) (hd : ∀ e ∈ es, DfOk es glob exf isa free K mg e) (hs : ∀ i e, es[i]? = some e → DoesAt es glob exf isa i e) :
    ∀ i, i ≤ es.length → ∀ e ∈ es.take i, ∃ (f : Addr) (fd : FuncData) (ps : List Str), mg e.x = some (.ref f) ∧ PySem.W.keepIn K (.ref f) = true ∧ ps.length = e.np ∧ FnOk P w K mg base (L2.CX P w) (3 + i) f fd ps (spOf ⟨K, mg, none⟩ e.np e.sp) ∧ Binds K fd ps [] := by
  intro i
  induction i with
  | zero => intro _ e h; simp at h
  | succ i ih =>
    intro hi e he
    have hlt : i < es.length := hi
    rw [List.take_succ_eq_append_getElem hlt, List.mem_append, List.mem_singleton] at he
    rcases he with he | rfl
    · obtain ⟨f, fd, ps, h1, h2, h3, h4, h5⟩ := ih (Nat.le_of_succ_le hi) e he
      exact ⟨f, fd, ps, h1, h2, h3, h4.mono (by omega), h5⟩
    · have hm : es[i] ∈ es := List.getElem_mem hlt
      obtain ⟨f, fd, params, body, scope, ps, dvs, kws, qual, F, hmg, hl, S, hb, hc⟩ := (hd _ hm).ex
      refine ⟨f, fd, ps, hmg, F.kp, hl, ?_, hb⟩
      have held : ∀ x n, (mkT es glob exf isa i).ar x n = true → FnHeld (mkT es glob exf isa i) P w K mg base (3 + i) x := by
        intro x n ha
        obtain ⟨e', he', hq⟩ := List.any_eq_true.mp ha
        obtain ⟨q1, q2⟩ := Bool.and_eq_true_iff.mp hq
        have q1 := beq_iff_eq.mp q1
        subst q1
        obtain ⟨e'', hf⟩ := Option.isSome_iff_exists.mp (show ((es.take i).reverse.find? (fun e => e.x == e'.x)).isSome = true from List.find?_isSome.mpr ⟨e', List.mem_reverse.mpr he', by simp⟩)
        have hb'' := List.find?_some (p := fun (e : Df) => e.x == e'.x) hf
        have hx'' : e''.x = e'.x := beq_iff_eq.mp hb''
        have he'' : e'' ∈ es.take i := List.mem_reverse.mp (List.mem_of_find?_eq_some hf)
        obtain ⟨f', fd', ps', m1, m2, m3, m4, m5⟩ := ih (Nat.le_of_succ_le hi) e'' he''
        have ho : orcOf es i e'.x = e''.sp := by
          unfold orcOf
          rw [hf]
        refine ⟨f', fd', ps', by rw [← hx'']; exact m1, m2, ?_, fun n' ha' => ?_⟩
        · show FnOk P w K mg base (L2.CX P w) (3 + i) f' fd' ps' (spOf ⟨K, mg, none⟩ ps'.length (orcOf es i e'.x))
          rw [ho, m3]
          exact m4
        · obtain ⟨e2, he2, hq2⟩ := List.any_eq_true.mp ha'
          obtain ⟨p1, p2⟩ := Bool.and_eq_true_iff.mp hq2
          have p1 := beq_iff_eq.mp p1
          have p2 : e2.np = n' := of_decide_eq_true p2
          have e12 := hn e2 (List.mem_of_mem_take he2) e'' (List.mem_of_mem_take he'') (p1.trans hx''.symm)
          exact ⟨by show n' + 0 = _; omega, rfl, [], [], m5, .nil, fun _ _ => rfl⟩
      have ok := def_ok (k := 3 + i) (spec := es[i].sp) F S (G i (3 + i) (by omega)) (hc i) held (by rw [hl]; exact hs i _ (List.getElem?_eq_getElem hlt))
      rw [hl] at ok
      exact ok
end
/-! ### pure defs -/
inductive Rs where
  | v (d : D) | x (e : Xn) | b
def Rs.flat : Rs → Bool
  | .v d => d.flat
  | .x e => e.flat
  | .b => true
/-- no places go in, none come out -/
def pureF (g : List D → Rs) : List D → Hd → R D := fun ds os => match os with
  | [] => (match g ds with
    | .v d => if d.flat = true then .ok d [] else .bad
    | .x e => if e.flat = true then .ex e [] else .bad
    | .b => .bad)
  | _ => .bad
mutual
theorem ml_flat (f : Nat → Nat) : ∀ d : D, d.flat = true → d.ml f = d
  | .non, _ => rfl
  | .bl _, _ => rfl
  | .int _, _ => rfl
  | .str _, _ => rfl
  | .fn _, _ => rfl
  | .tup ds, h => by
    show D.tup (D.mls f ds) = _
    rw [mls_flat f ds h]
  | .fro ds, h => by
    show D.fro (D.mls f ds) = _
    rw [mls_flat f ds h]
  | .exn _ _ _, h => nomatch h
  | .loc _, h => nomatch h
theorem mls_flat (f : Nat → Nat) : ∀ ds : List D, D.flats ds = true → D.mls f ds = ds
  | [], _ => rfl
  | d :: ds, h => by
    obtain ⟨h1, h2⟩ := and3 (show (d.flat && D.flats ds) = true from h)
    show d.ml f :: D.mls f ds = _
    rw [ml_flat f d h1, mls_flat f ds h2]
end
mutual
theorem ls_flat : ∀ d : D, d.flat = true → D.ls d = []
  | .non, _ => rfl
  | .bl _, _ => rfl
  | .int _, _ => rfl
  | .str _, _ => rfl
  | .fn _, _ => rfl
  | .tup ds, h => lss_flat ds h
  | .fro ds, h => lss_flat ds h
  | .exn _ _ _, h => nomatch h
  | .loc _, h => nomatch h
theorem lss_flat : ∀ ds : List D, D.flats ds = true → D.lss ds = []
  | [], _ => rfl
  | d :: ds, h => by
    obtain ⟨h1, h2⟩ := and3 (show (d.flat && D.flats ds) = true from h)
    show D.ls d ++ D.lss ds = _
    rw [ls_flat d h1, lss_flat ds h2]
    rfl
end
mutual
theorem nox_flat : ∀ d : D, d.flat = true → d.nox = true
  | .non, _ => rfl
  | .bl _, _ => rfl
  | .int _, _ => rfl
  | .str _, _ => rfl
  | .fn _, _ => rfl
  | .tup ds, h => noxs_flat ds h
  | .fro ds, h => noxs_flat ds h
  | .exn _ _ _, h => nomatch h
  | .loc _, h => nomatch h
theorem noxs_flat : ∀ ds : List D, D.flats ds = true → D.noxs ds = true
  | [], _ => rfl
  | d :: ds, h => by
    obtain ⟨h1, h2⟩ := and3 (show (d.flat && D.flats ds) = true from h)
    show (d.nox && D.noxs ds) = true
    rw [nox_flat d h1, noxs_flat ds h2]
    rfl
end
/-- the end of a pure call -/
def Rs.toR (r : Rs) (h : Hd) : R D := match r with
  | .v d => .ok d h
  | .x e => .ex e h
  | .b => .bad
@[simp] theorem Rs.toR_v {d : D} {h : Hd} : (Rs.v d).toR h = .ok d h := rfl
@[simp] theorem Rs.toR_x {e : Xn} {h : Hd} : (Rs.x e).toR h = .ex e h := rfl
@[simp] theorem Rs.toR_b {h : Hd} : Rs.b.toR h = .bad := rfl
theorem callD_pure {g : List D → Rs} {as : List D} {h : Hd} (hf : D.flats as = true) (hg : (g as).flat = true) : callD (pureF g) as h = (g as).toR h := by
  unfold callD
  simp only [lss_flat as hf, noxs_flat as hf, uniq, getAll, mls_flat _ as hf, List.all_nil, if_true]
  unfold pureF
  simp only
  cases e : g as with
  | v d =>
    rw [e] at hg
    have hg : d.flat = true := hg
    simp [hg, nox_flat d hg, ml_flat _ d hg, backH, putAll, Rs.toR]
  | x x =>
    rw [e] at hg
    have hg : x.flat = true := hg
    simp [hg, backH, putAll, Rs.toR]
  | b => simp [Rs.toR]
/-- what a pure def's body must do -/
def EndsR : RS' → Rs → Prop
  | _, .b => True
  | .rt d _, .v d' => d = d'
  | .nx _ _, .v d' => d' = .non
  | .ex e _ _, .x e' => e = e'
  | _, _ => False
@[simp] theorem EndsR_b {r : RS'} : EndsR r .b = True := by cases r <;> rfl
@[simp] theorem EndsR_rt {d d' : D} {h : Hd} : EndsR (.rt d h) (.v d') = (d = d') := rfl
@[simp] theorem EndsR_nx {d' : D} {σ : En} {h : Hd} : EndsR (.nx σ h) (.v d') = (d' = .non) := rfl
@[simp] theorem EndsR_ex {e e' : Xn} {σ : En} {h : Hd} : EndsR (.ex e σ h) (.x e') = (e = e') := rfl
abbrev Does0 (t : Rt) (sm : Sm) (N : List Str) (g : List D → Rs) (ds : List D) : Prop := EndsR (denS t sm none (startD N ds) []) (g ds)
theorem trim_flat {d : D} {h : Hd} (hf : d.flat = true) : trimR 0 (.rt d h) = .ok d [] := by
  unfold trimR
  simp [ls_flat d hf, uniq, getAll, nox_flat d hf, ml_flat _ d hf]
theorem does_pure {t : Rt} {sm : Sm} {N : List Str} {g : List D → Rs} {ds : List D} (h : Does0 t sm N g ds) : ∀ os, pureF g ds os = .bad ∨ trimR os.length (denS t sm none (startD N ds) os) = pureF g ds os := by
  intro os
  cases os with
  | cons o os => exact .inl rfl
  | nil =>
    unfold pureF
    unfold Does0 at h
    simp only
    cases e : g ds with
    | v d =>
      rw [e] at h
      simp only at h ⊢
      by_cases hf : d.flat = true
      · rw [if_pos hf]
        right
        cases q : denS t sm none (startD N ds) [] with
        | rt d2 h2 =>
          rw [q] at h
          have h : d2 = d := h
          subst h
          exact trim_flat hf
        | nx σ h2 =>
          rw [q] at h
          have h : d = .non := h
          subst h
          unfold trimR; simp [getAll]
        | _ => rw [q] at h; exact h.elim
      · rw [if_neg hf]; exact .inl rfl
    | x x =>
      rw [e] at h
      simp only at h ⊢
      by_cases hf : x.flat = true
      · rw [if_pos hf]
        right
        cases q : denS t sm none (startD N ds) [] with
        | ex e2 σ h2 =>
          rw [q] at h
          have h : e2 = x := h
          subst h
          unfold trimR
          simp [getAll, hf]
        | _ => rw [q] at h; exact h.elim
      · rw [if_neg hf]; exact .inl rfl
    | b => exact .inl rfl
/-! ### the law -/
theorem fro_of {K : PySem.W.Frag} {H : Hp} {a : Addr} {vs : List V} (ho : Only H) (h : SqL K H a vs) : FroL K H a vs := by
  rcases h with (h | ⟨o, h⟩) | h
  · rcases ho a with z | ⟨o, xs, z⟩
    · rw [z] at h; cases h
    · rw [z] at h; cases h
  · exact .inl ⟨o, h⟩
  · exact .inr (.inr h)
theorem law_sp {K : PySem.W.Frag} {mg : Str → Option Value} {spec : List D → Hd → R D} (hs : ∀ ns : List Int, ns.length ≤ 63 → spec [.fro (ns.map .int)] [] = .ok (.bl true) []) {H : Hp} {a : Addr} {ns : List Int} (hn : ns.length ≤ 63) (ho : Only H) (h : SqL K H a (ns.map V.int)) :
    spOf ⟨K, mg, none⟩ 1 spec [.ref a] H (fun v _ => v = .bl true) (fun _ _ _ => False) := by
  refine ⟨[], [.fro (ns.map .int)], [], rfl, ⟨.ref a, [], rfl, ⟨a, ns.map V.int, rfl, fro_of ho h, RVs.of_ints ns⟩, rfl⟩, RH.nil, ?_⟩
  rw [hs ns hn]
  exact fun ρ' H' v _ _ rv => rv
theorem cx_end {P : Program} {w : World} (H : Hp) (s : Shared) (e : Value) (s' : Shared) (h : L2.CX P w [] H s (fun _ _ _ => False) e s') : False := by
  obtain ⟨_, _, _, _, _, _, _, _, _, _, _, _, z⟩ := h
  exact z
end Ev

/-! Ev, part 21: working out what a text means. -/
namespace Ev
open PySem PySem.Spec PyProof.Rows L2
/-! ### while -/
theorem whIter_up {c : En → Hd → R Bool} {b : En → Hd → RS'} {r : RS'} : ∀ {n : Nat} {σ : En} {h : Hd}, whIter c b n σ h = some r → whIter c b (n + 1) σ h = some r
  | 0, σ, h, e => nomatch e
  | n + 1, σ, h, e => by
    unfold whIter at e ⊢
    cases ec : c σ h with
    | ok k h1 =>
      rw [ec] at e
      cases k with
      | true =>
        cases eb : b σ h1 with
        | nx σ' h' =>
          simp only [eb] at e ⊢
          exact whIter_up e
        | ct σ' h' =>
          simp only [eb] at e ⊢
          exact whIter_up e
        | _ => simp only [eb] at e ⊢; exact e
      | false => exact e
    | ex x h1 => rw [ec] at e; exact e
    | bad => rw [ec] at e; exact e
theorem whIter_le {c : En → Hd → R Bool} {b : En → Hd → RS'} {r : RS'} {n m : Nat} {σ : En} {h : Hd} (e : whIter c b n σ h = some r) (hm : n ≤ m) : whIter c b m σ h = some r := by
  induction m with
  | zero => have : n = 0 := by omega
            subst this; exact e
  | succ m ih =>
    by_cases z : n = m + 1
    · subst z; exact e
    · exact whIter_up (ih (by omega))
theorem whD_of {c : En → Hd → R Bool} {b : En → Hd → RS'} {r : RS'} {n : Nat} {σ : En} {h : Hd} (e : whIter c b n σ h = some r) : whD c b σ h = r := by
  unfold whD
  have ex : ∃ n r, whIter c b n σ h = some r := ⟨n, r, e⟩
  rw [dif_pos ex]
  have e2 := ex.choose_spec.choose_spec
  have h1 := whIter_le e (Nat.le_max_left n ex.choose)
  have h2 := whIter_le e2 (Nat.le_max_right n ex.choose)
  rw [h1] at h2
  exact (Option.some.inj h2).symm
theorem whD_eq {c : En → Hd → R Bool} {b : En → Hd → RS'} {σ : En} {h : Hd} : whD c b σ h = match c σ h with
    | .ok true h1 => (match b σ h1 with
      | .nx σ' h' => whD c b σ' h'
      | .ct σ' h' => whD c b σ' h'
      | .bk σ' h' => .nx σ' h'
      | .rt d h' => .rt d h'
      | .ex e σ' h' => .ex e σ' h'
      | .bad => .bad)
    | .ok false h1 => .nx σ h1
    | .ex e h1 => .ex e σ h1
    | .bad => .bad := by
  by_cases ex : ∃ n r, whIter c b n σ h = some r
  · obtain ⟨n, r, e⟩ := ex
    rw [whD_of e]
    cases n with
    | zero => cases e
    | succ n =>
      unfold whIter at e
      split at e
      · rename_i h1 ec
        (try rw [ec])
        (try simp only)
        split at e
        · rename_i eb; (try rw [eb]); exact (whD_of e).symm
        · rename_i eb; (try rw [eb]); exact (whD_of e).symm
        all_goals (rename_i eb; (try rw [eb]); exact (Option.some.inj e).symm)
      all_goals (rename_i ec; (try rw [ec]); exact (Option.some.inj e).symm)
  · have w0 : whD c b σ h = .bad := by
      unfold whD
      rw [dif_neg ex]
    rw [w0]
    have nx : ∀ n, whIter c b n σ h = none := fun n => by
      cases q : whIter c b n σ h with
      | none => rfl
      | some r => exact absurd ⟨n, r, q⟩ ex
    have n1 := nx 1
    have key : ∀ {σ' h' h1}, c σ h = .ok true h1 → (b σ h1 = .nx σ' h' ∨ b σ h1 = .ct σ' h') → whD c b σ' h' = .bad := fun {σ' h' h1} ec eb => by
      unfold whD
      rw [dif_neg]
      rintro ⟨n, r, e⟩
      have := nx (n + 1)
      unfold whIter at this
      rw [ec] at this
      simp only at this
      rcases eb with eb | eb <;> (rw [eb] at this; simp only at this; rw [e] at this; cases this)
    cases ec : c σ h with
    | ok k h1 =>
      cases k with
      | true =>
        simp only
        cases eb : b σ h1 with
        | nx σ' h' => exact (key ec (.inl eb)).symm
        | ct σ' h' => exact (key ec (.inr eb)).symm
        | bk σ' h' => unfold whIter at n1; rw [ec] at n1; simp only at n1; rw [eb] at n1; cases n1
        | rt d h' => unfold whIter at n1; rw [ec] at n1; simp only at n1; rw [eb] at n1; cases n1
        | ex e σ' h' => unfold whIter at n1; rw [ec] at n1; simp only at n1; rw [eb] at n1; cases n1
        | bad => rfl
      | false => unfold whIter at n1; rw [ec] at n1; cases n1
    | ex e h1 => unfold whIter at n1; rw [ec] at n1; cases n1
    | bad => rfl
/-! ### data -/
def D.dat : D → Bool
  | .non => true | .bl _ => true | .int _ => true | .str _ => true
  | .tup ds => D.flats ds
  | .fro ds => D.flats ds
  | _ => false
def isT : Ty → D → Bool
  | .int, .int _ => true
  | .int, .bl _ => true
  | .bool, .bl _ => true
  | .str, .str _ => true
  | .tuple, .tup _ => true
  | .list, .fro _ => true
  | _, _ => false
theorem dat_flat {d : D} (h : d.dat = true) : d.flat = true := by
  cases d <;> first | rfl | exact h | cases h
theorem isiD_dat {T : Ty} {d : D} {h : Hd} (hd : d.dat = true) : isiD T d h = some (isT T d) := by
  cases d <;> first | (cases T <;> rfl) | cases hd
/-! ### working out -/
section
variable {i j : Int} {h : Hd} {a b d : D} {x y : Str} {t : Rt} {σ : En}
@[simp] theorem cmp_LtE : cmpD .LtE (.int i) (.int j) h = .ok (.bl (decide (i ≤ j))) h := rfl
@[simp] theorem cmp_Lt : cmpD .Lt (.int i) (.int j) h = .ok (.bl (decide (i < j))) h := rfl
@[simp] theorem cmp_Gt : cmpD .Gt (.int i) (.int j) h = .ok (.bl (decide (j < i))) h := rfl
@[simp] theorem cmp_GtE : cmpD .GtE (.int i) (.int j) h = .ok (.bl (decide (j ≤ i))) h := rfl
@[simp] theorem cmp_Is : cmpD .Is a .non h = .ok (.bl (isNon a)) h := rfl
@[simp] theorem cmp_IsNot : cmpD .IsNot a .non h = .ok (.bl (!isNon a)) h := rfl
theorem cmp_Eq {r : Bool} (e : eqD a b h = some r) : cmpD .Eq a b h = .ok (.bl r) h := by
  show (match eqD a b h with | some r => (R.ok (.bl r) h : R D) | none => .bad) = _
  rw [e]
theorem cmp_NotEq {r : Bool} (e : eqD a b h = some r) : cmpD .NotEq a b h = .ok (.bl (!r)) h := by
  show (match eqD a b h with | some r => (R.ok (.bl (!r)) h : R D) | none => .bad) = _
  rw [e]
@[simp] theorem bin_add : binD .Add (.int i) (.int j) h = .ok (.int (i + j)) h := rfl
@[simp] theorem bin_sub : binD .Sub (.int i) (.int j) h = .ok (.int (i - j)) h := rfl
theorem bin_mul (m : mulB i j = true) : binD .Mult (.int i) (.int j) h = .ok (.int (i * j)) h := by
  show (if mulB i j = true then (R.ok (.int (i * j)) h : R D) else .bad) = _
  rw [if_pos m]
theorem bin_mod (m : 0 < j) : binD .Mod (.int i) (.int j) h = .ok (.int (i % j)) h := by
  show (if 0 < j then (R.ok (.int (i % j)) h : R D) else .bad) = _
  rw [if_pos m]
theorem bin_div (m : divB j = true) : binD .FloorDiv (.int i) (.int j) h = .ok (.int (i / j)) h := by
  show (if divB j = true then (R.ok (.int (i / j)) h : R D) else .bad) = _
  rw [if_pos m]
theorem mulB_l (m : i.natAbs < 2 ^ 64) : mulB i j = true := by unfold mulB; simp [m]
theorem mulB_r (m : j.natAbs < 2 ^ 64) : mulB i j = true := by unfold mulB; simp [m]
theorem divB_of (m : 0 < j) (m2 : j < 2 ^ 63) : divB j = true := by
  unfold divB
  have : j.natAbs < 2 ^ 9000 := Nat.lt_of_lt_of_le (show j.natAbs < 2 ^ 63 by omega) (Nat.pow_le_pow_right (by decide) (by decide))
  simp only [Bool.and_eq_true, decide_eq_true_eq]
  exact ⟨m, this⟩
@[simp] theorem truD_bl {c : Bool} : truD (.bl c) h = some c := rfl
@[simp] theorem truD_int : truD (.int i) h = some (i != 0) := rfl
@[simp] theorem truD_non : truD .non h = some false := rfl
@[simp] theorem notD_bl {c : Bool} : notD (.bl c) h = .ok (.bl (!c)) h := rfl
@[simp] theorem tstD_bl {c : Bool} : tstD (.ok (.bl c) h) = .ok c h := rfl
@[simp] theorem tstD_int : tstD (.ok (.int i) h) = .ok (i != 0) h := rfl
@[simp] theorem tstD_ex {e : Xn} : tstD (.ex e h) = .ex e h := rfl
@[simp] theorem tstD_bad : tstD .bad = .bad := rfl
/-- the parts of den -/
theorem den_and {a b : Ex} {c : Bool} {h1 : Hd} (e : den t a σ h = .ok (.bl c) h1) : den t (.and_ a b) σ h = if c = true then den t b σ h1 else .ok (.bl false) h1 := by
  show ((den t a σ h).bind _) = _
  rw [e]
  cases c <;> rfl
theorem szB_le {n : Nat} (h : n ≤ 1000) : szB n = true := decide_eq_true (Nat.le_trans h (by rw [sizeLine_eq]; decide))
@[simp] theorem bindT_n {k : Nat} : bindT (.n k) d h σ = some (σ.set k (some d)) := rfl
@[simp] theorem bindTs_nil : bindTs .nil [] h σ = some σ := rfl
@[simp] theorem bindTs_cons {p r : Tg} {ds : List D} : bindTs (.cons p r) (d :: ds) h σ = match bindT p d h σ with
    | some σ' => bindTs r ds h σ'
    | none => none := rfl
@[simp] theorem bindT_t {r : Tg} {ds : List D} : bindT (.t r) (.tup ds) h σ = bindTs r ds h σ := rfl
@[simp] theorem eqD_ii : eqD (.int i) (.int j) h = some (i == j) := by
  unfold eqD toPH
  simp only [D.toP]
  rw [if_pos (by rfl)]
  rw [PyData.eqv]
@[simp] theorem eqD_pp {k l : Int} : eqD (.tup [.int i, .int j]) (.tup [.int k, .int l]) h = some (i == k && j == l) := by
  unfold eqD toPH
  simp only [D.toP, D.toPs]
  rw [if_pos (by rfl)]
  simp [PyData.eqv, PyData.eqvAll]
@[simp] theorem cmpEq_ii : cmpD .Eq (.int i) (.int j) h = .ok (.bl (i == j)) h := cmp_Eq eqD_ii
@[simp] theorem cmpNe_ii : cmpD .NotEq (.int i) (.int j) h = .ok (.bl (!(i == j))) h := cmp_NotEq eqD_ii
@[simp] theorem cmpEq_pp {k l : Int} : cmpD .Eq (.tup [.int i, .int j]) (.tup [.int k, .int l]) h = .ok (.bl (i == k && j == l)) h := cmp_Eq eqD_pp
@[simp] theorem cmpNe_pp {k l : Int} : cmpD .NotEq (.tup [.int i, .int j]) (.tup [.int k, .int l]) h = .ok (.bl (!(i == k && j == l))) h := cmp_NotEq eqD_pp
@[simp] theorem isNon_non : Ev.isNon .non = true := rfl
@[simp] theorem isNon_int : Ev.isNon (.int i) = false := rfl
@[simp] theorem isNon_tup {ds : List D} : Ev.isNon (.tup ds) = false := rfl
@[simp] theorem items_tup {ds : List D} : items (.tup ds) h = some ds := rfl
@[simp] theorem items_fro {ds : List D} : items (.fro ds) h = some ds := rfl
theorem ix_tup {ds : List D} (e : L2.atI ds i = some d) : ixD (.tup ds) (.int i) h = .ok d h := by
  show (match L2.atI ds i with | some d => (R.ok d h : R D) | none => .bad) = _
  rw [e]
@[simp] theorem ix_p0 : ixD (.tup [a, b]) (.int 0) h = .ok a h := rfl
@[simp] theorem ix_p1 : ixD (.tup [a, b]) (.int 1) h = .ok b h := rfl
@[simp] theorem bi_len_tup {ds : List D} : biD .len [.tup ds] h = .ok (.int ds.length) h := rfl
@[simp] theorem bi_len_fro {ds : List D} : biD .len [.fro ds] h = .ok (.int ds.length) h := rfl
@[simp] theorem bi_abs : biD .abs [.int i] h = .ok (.int (if i < 0 then -i else i)) h := rfl
@[simp] theorem bi_int : biD .int [.int i] h = .ok (.int i) h := rfl
@[simp] theorem stays_non {ds : List D} : stays .non ds h = True := rfl
end
/-! ### comprehensions -/
theorem rng_len (lo : Int) (n : Nat) : (rngD lo n).length = n := by simp [rngD]
theorem lc_pure {tg : Tg} {vs : List Nat} {cond : En → Hd → R Bool} {elt : En → Hd → R D} {all : List D} {σ : En} {h : Hd} {p : D → Bool} {f : D → D} : ∀ {ds : List D} {acc : List D}, (∀ d ∈ ds, ∃ σ', bindT tg d h (wipeD σ vs) = some σ' ∧ cond σ' h = .ok (p d) h ∧ (p d = true → elt σ' h = .ok (f d) h)) → acc.length + ds.length ≤ 1000000 →
    lcLoop tg vs cond elt .non all ds σ acc h = .ok (acc ++ (ds.filter p).map f) h
  | [], acc, _, _ => by
    unfold lcLoop
    rw [if_pos (by trivial)]
    simp
  | d :: ds, acc, hh, hl => by
    obtain ⟨σ', e1, e2, e3⟩ := hh d List.mem_cons_self
    unfold lcLoop
    rw [if_pos (by trivial), e1]
    simp only
    rw [e2]
    have hl' : acc.length + (ds.length + 1) ≤ 1000000 := hl
    cases q : p d with
    | true =>
      simp only
      rw [e3 q]
      have sz : decide (acc.length < sizeLine) = true := decide_eq_true (by rw [sizeLine_eq]; omega)
      simp only
      rw [if_pos sz, lc_pure (fun d' hd' => hh d' (List.mem_cons_of_mem _ hd')) (by simp; omega)]
      simp [List.filter_cons, q]
    | false =>
      simp only
      rw [lc_pure (fun d' hd' => hh d' (List.mem_cons_of_mem _ hd')) (by omega)]
      simp [List.filter_cons, q]
theorem lc2_pure {tg : Tg} {vs : List Nat} {cond : En → Hd → R Bool} {inner : En → List D → Hd → R (List D)} {all : List D} {σ : En} {h : Hd} {F : D → List D} {B : Nat} : ∀ {ds : List D} {acc : List D}, (∀ d ∈ ds, (F d).length ≤ B ∧ ∃ σ', bindT tg d h (wipeD σ vs) = some σ' ∧ cond σ' h = .ok true h ∧ ∀ acc : List D, acc.length + B ≤ 1000000 → inner σ' acc h = .ok (acc ++ F d) h) → acc.length + ds.length * B ≤ 1000000 →
    lcLoop2 tg vs cond inner .non all ds σ acc h = .ok (acc ++ ds.flatMap F) h
  | [], acc, _, _ => by
    unfold lcLoop2
    rw [if_pos (by trivial)]
    simp
  | d :: ds, acc, hh, hl => by
    obtain ⟨l1, σ', e1, e2, e3⟩ := hh d List.mem_cons_self
    have hl' : acc.length + (ds.length + 1) * B ≤ 1000000 := hl
    rw [Nat.add_mul, Nat.one_mul] at hl'
    have hm : 0 ≤ ds.length * B := Nat.zero_le _
    unfold lcLoop2
    rw [if_pos (by trivial), e1]
    simp only
    rw [e2]
    simp only
    rw [e3 acc (by omega)]
    simp only
    rw [lc2_pure (fun d' hd' => hh d' (List.mem_cons_of_mem _ hd')) (by rw [List.length_append]; omega)]
    simp
theorem fro_get {h : Hd} {o : O} : (h ++ [o])[h.length]? = some o := by simp
/-! ### for -/
theorem forD_cons {tg : Tg} {b : En → Hd → RS'} {all : List D} {d : D} {r : List D} {σ : En} {h : Hd} : forD tg b .non all (d :: r) σ h = match bindT tg d h σ with
    | some σ' => (match b σ' h with
      | .nx σ1 h1 => forD tg b .non all r σ1 h1
      | .ct σ1 h1 => forD tg b .non all r σ1 h1
      | .bk σ1 h1 => .nx σ1 h1
      | .rt d h1 => .rt d h1
      | .ex e σ1 h1 => .ex e σ1 h1
      | .bad => .bad)
    | none => .bad := by
  rw [forD]
  rw [if_pos (by trivial)]
  all_goals try (cases bindT tg d h σ <;> first | rfl | (simp only; cases b _ h <;> rfl))
theorem forD_nil {tg : Tg} {b : En → Hd → RS'} {all : List D} {σ : En} {h : Hd} : forD tg b .non all [] σ h = .nx σ h := by
  rw [forD]
  rw [if_pos (by trivial)]
end Ev

namespace K42
open PySem Ev
def N_is_integer : List Str := ["value"]
def s_is_integer : Sm := (.seq (.ret (.and_ (.isi .int (.var 0)) (.not_ (.isi .bool (.var 0)))))
    .nil)
def N_is_count : List Str := ["value", "low", "high"]
def s_is_count : Sm := (.seq (.ret (.and_ (.call "is_integer" 1 (.cons (.var 0) .nil)) (.chn .LtE .LtE (.var 1) (.var 0) (.var 2))))
    .nil)
def N_check_from : List Str := ["n", "low", "high"]
def s_check_from : Sm := (.seq (.ife (.not_ (.call "is_count" 3 (.cons (.var 0) (.cons (.var 1) (.cons (.var 2) .nil))))) (.seq (.rai "Malformed" (.cons (.str "a number") .nil))
    .nil) .nil)
    .nil)
def b_shares_of_1 : Sm := (.seq (.asg (.n 6) (.bin .FloorDiv (.var 0) (.var 1)))
    (.seq (.asg (.t (.cons (.n 0) (.cons (.n 1) (.cons (.n 2) (.cons (.n 4) (.cons (.n 3) (.cons (.n 5) .nil))))))) (.tup (.cons (.var 1) (.cons (.bin .Sub (.var 0) (.bin .Mult (.var 6) (.var 1))) (.cons (.var 4) (.cons (.bin .Sub (.var 2) (.bin .Mult (.var 6) (.var 4))) (.cons (.var 5) (.cons (.bin .Sub (.var 3) (.bin .Mult (.var 6) (.var 5))) .nil))))))))
    .nil))
def w_shares_of_2 : Sm := (.whl (.cmp .Gt (.var 1) (.int 0)) b_shares_of_1)
theorem un_w_shares_of_2 {t : Rt} {σ : En} {h : Hd} : denS t w_shares_of_2 none σ h = match tstD (den t (.cmp .Gt (.var 1) (.int 0)) σ h) with
    | .ok true h1 => (match denS t b_shares_of_1 none σ h1 with
      | .nx σ' h' => denS t w_shares_of_2 none σ' h'
      | .ct σ' h' => denS t w_shares_of_2 none σ' h'
      | .bk σ' h' => .nx σ' h'
      | .rt d h' => .rt d h'
      | .ex e σ' h' => .ex e σ' h'
      | .bad => .bad)
    | .ok false h1 => .nx σ h1
    | .ex e h1 => .ex e σ h1
    | .bad => .bad := whD_eq
def N_shares_of : List Str := ["a", "b", "x", "y", "u", "v", "q"]
def s_shares_of : Sm := (.seq (.asg (.t (.cons (.n 2) (.cons (.n 3) (.cons (.n 4) (.cons (.n 5) .nil))))) (.tup (.cons (.int 1) (.cons (.int 0) (.cons (.int 0) (.cons (.int 1) .nil))))))
    (.seq w_shares_of_2
    (.seq (.ret (.tup (.cons (.var 0) (.cons (.var 2) (.cons (.var 3) .nil)))))
    .nil)))
def N_back_rest : List Str := ["a", "n", "g", "x", "y"]
def s_back_rest : Sm := (.seq (.asg (.t (.cons (.n 2) (.cons (.n 3) (.cons (.n 4) .nil)))) (.call "shares_of" 2 (.cons (.bin .Mod (.var 0) (.var 1)) (.cons (.var 1) .nil))))
    (.seq (.ret (.ifx (.cmp .Eq (.var 2) (.int 1)) (.bin .Mod (.var 3) (.var 1)) .non))
    .nil))
def N_check_ring : List Str := ["d", "n"]
def s_check_ring : Sm := (.seq (.ife (.or_ (.not_ (.call "is_integer" 1 (.cons (.var 0) .nil))) (.cmp .Gt (.bi .abs (.cons (.var 0) .nil)) (.glo "MOST_D"))) (.seq (.rai "Malformed" (.cons (.str "a number") .nil))
    .nil) .nil)
    (.seq (.exp (.call "check_from" 3 (.cons (.var 1) (.cons (.int 3) (.cons (.glo "MOST") .nil)))))
    (.seq (.ife (.cmp .Eq (.bin .Mod (.var 1) (.int 2)) (.int 0)) (.seq (.rai "Malformed" (.cons (.str "an odd number") .nil))
    .nil) .nil)
    .nil)))
def c_is_member_1 : Ex := (.lc [3] (.n 3) (.itS (.var 2)) (.bl true) (.call "is_count" 3 (.cons (.var 3) (.cons (.int 0) (.cons (.bin .Sub (.var 1) (.int 1)) .nil)))))
def N_is_member : List Str := ["d", "n", "value", "x"]
def s_is_member : Sm := (.seq (.exp (.call "check_ring" 2 (.cons (.var 0) (.cons (.var 1) .nil))))
    (.seq (.ret (.and_ (.isi .tuple (.var 2)) (.and_ (.cmp .Eq (.bi .len (.cons (.var 2) .nil)) (.int 2)) (.bi .all (.cons c_is_member_1 .nil)))))
    .nil))
def N_check_member : List Str := ["d", "n", "value"]
def s_check_member : Sm := (.seq (.ife (.not_ (.call "is_member" 3 (.cons (.var 0) (.cons (.var 1) (.cons (.var 2) .nil))))) (.seq (.rai "Malformed" (.cons (.str "a pair") .nil))
    .nil) .nil)
    .nil)
def N_product_by : List Str := ["d", "n", "one", "two"]
def s_product_by : Sm := (.seq (.ret (.tup (.cons (.bin .Mod (.bin .Add (.bin .Mult (.ix (.var 2) (.int 0)) (.ix (.var 3) (.int 0))) (.bin .Mult (.bin .Mult (.var 0) (.ix (.var 2) (.int 1))) (.ix (.var 3) (.int 1)))) (.var 1)) (.cons (.bin .Mod (.bin .Add (.bin .Mult (.ix (.var 2) (.int 0)) (.ix (.var 3) (.int 1))) (.bin .Mult (.ix (.var 2) (.int 1)) (.ix (.var 3) (.int 0)))) (.var 1)) .nil))))
    .nil)
def N_ring_product : List Str := ["d", "n", "one", "two"]
def s_ring_product : Sm := (.seq (.exp (.call "check_member" 3 (.cons (.var 0) (.cons (.var 1) (.cons (.var 2) .nil)))))
    (.seq (.exp (.call "check_member" 3 (.cons (.var 0) (.cons (.var 1) (.cons (.var 3) .nil)))))
    (.seq (.ret (.call "product_by" 4 (.cons (.var 0) (.cons (.var 1) (.cons (.var 2) (.cons (.var 3) .nil))))))
    .nil)))
def N_ring_power : List Str := ["d", "n", "one", "k"]
def s_ring_power : Sm := (.seq (.exp (.call "check_member" 3 (.cons (.var 0) (.cons (.var 1) (.cons (.var 2) .nil)))))
    (.seq (.exp (.call "check_from" 3 (.cons (.var 3) (.cons (.int 0) (.cons (.int 10000000000000000) .nil)))))
    (.seq (.ret (.call "power_by" 4 (.cons (.var 0) (.cons (.var 1) (.cons (.var 2) (.cons (.var 3) .nil))))))
    .nil)))
def b_power_by_1 : Sm := (.seq (.ife (.cmp .Eq (.bin .Mod (.var 3) (.int 2)) (.int 1)) (.seq (.asg (.n 4) (.call "product_by" 4 (.cons (.var 0) (.cons (.var 1) (.cons (.var 4) (.cons (.var 5) .nil))))))
    .nil) .nil)
    (.seq (.asg (.t (.cons (.n 5) (.cons (.n 3) .nil))) (.tup (.cons (.call "product_by" 4 (.cons (.var 0) (.cons (.var 1) (.cons (.var 5) (.cons (.var 5) .nil))))) (.cons (.bin .FloorDiv (.var 3) (.int 2)) .nil))))
    .nil))
def w_power_by_2 : Sm := (.whl (.cmp .Gt (.var 3) (.int 0)) b_power_by_1)
theorem un_w_power_by_2 {t : Rt} {σ : En} {h : Hd} : denS t w_power_by_2 none σ h = match tstD (den t (.cmp .Gt (.var 3) (.int 0)) σ h) with
    | .ok true h1 => (match denS t b_power_by_1 none σ h1 with
      | .nx σ' h' => denS t w_power_by_2 none σ' h'
      | .ct σ' h' => denS t w_power_by_2 none σ' h'
      | .bk σ' h' => .nx σ' h'
      | .rt d h' => .rt d h'
      | .ex e σ' h' => .ex e σ' h'
      | .bad => .bad)
    | .ok false h1 => .nx σ h1
    | .ex e h1 => .ex e σ h1
    | .bad => .bad := whD_eq
def N_power_by : List Str := ["d", "n", "one", "k", "found", "own"]
def s_power_by : Sm := (.seq (.asg (.t (.cons (.n 4) (.cons (.n 5) .nil))) (.tup (.cons (.tup (.cons (.bin .Mod (.int 1) (.var 1)) (.cons (.int 0) .nil))) (.cons (.var 2) .nil))))
    (.seq w_power_by_2
    (.seq (.ret (.var 4))
    .nil)))
def N_ring_norm : List Str := ["d", "n", "one"]
def s_ring_norm : Sm := (.seq (.exp (.call "check_member" 3 (.cons (.var 0) (.cons (.var 1) (.cons (.var 2) .nil)))))
    (.seq (.ret (.bin .Mod (.bin .Sub (.bin .Mult (.ix (.var 2) (.int 0)) (.ix (.var 2) (.int 0))) (.bin .Mult (.bin .Mult (.var 0) (.ix (.var 2) (.int 1))) (.ix (.var 2) (.int 1)))) (.var 1)))
    .nil))
def N_ring_back : List Str := ["d", "n", "one", "back"]
def s_ring_back : Sm := (.seq (.exp (.call "check_member" 3 (.cons (.var 0) (.cons (.var 1) (.cons (.var 2) .nil)))))
    (.seq (.asg (.n 3) (.call "back_rest" 2 (.cons (.call "ring_norm" 3 (.cons (.var 0) (.cons (.var 1) (.cons (.var 2) .nil)))) (.cons (.var 1) .nil))))
    (.seq (.ret (.ifx (.cmp .Is (.var 3) .non) .non (.tup (.cons (.bin .Mod (.bin .Mult (.ix (.var 2) (.int 0)) (.var 3)) (.var 1)) (.cons (.bin .Mod (.bin .Mult (.neg (.ix (.var 2) (.int 1))) (.var 3)) (.var 1)) .nil)))))
    .nil)))
def N_circle_member : List Str := ["d", "n", "t", "back"]
def s_circle_member : Sm := (.seq (.exp (.call "check_ring" 2 (.cons (.var 0) (.cons (.var 1) .nil))))
    (.seq (.exp (.call "check_from" 3 (.cons (.var 2) (.cons (.int 0) (.cons (.bin .Sub (.var 1) (.int 1)) .nil)))))
    (.seq (.asg (.n 3) (.call "back_rest" 2 (.cons (.bin .Sub (.bin .Mult (.var 2) (.var 2)) (.var 0)) (.cons (.var 1) .nil))))
    (.seq (.ife (.cmp .Is (.var 3) .non) (.seq (.rai "Refused" (.cons (.str "share") .nil))
    .nil) .nil)
    (.seq (.ret (.tup (.cons (.bin .Mod (.bin .Mult (.bin .Add (.bin .Mult (.var 2) (.var 2)) (.var 0)) (.var 3)) (.var 1)) (.cons (.bin .Mod (.bin .Mult (.bin .Mult (.int 2) (.var 2)) (.var 3)) (.var 1)) .nil))))
    .nil)))))
def c_members_of_norm_1 : Ex := (.lc2 [3, 4] [4] (.n 3) (.itR (.cons (.var 1) .nil)) (.bl true) (.n 4) (.itR (.cons (.var 1) .nil)) (.cmp .Eq (.bin .Mod (.bin .Sub (.bin .Sub (.bin .Mult (.var 3) (.var 3)) (.bin .Mult (.bin .Mult (.var 0) (.var 4)) (.var 4))) (.var 2)) (.var 1)) (.int 0)) (.tup (.cons (.var 3) (.cons (.var 4) .nil))))
def N_members_of_norm : List Str := ["d", "n", "c", "u", "v"]
def s_members_of_norm : Sm := (.seq (.exp (.call "check_ring" 2 (.cons (.var 0) (.cons (.var 1) .nil))))
    (.seq (.exp (.call "check_from" 3 (.cons (.var 1) (.cons (.int 3) (.cons (.int 200) .nil)))))
    (.seq (.exp (.call "check_from" 3 (.cons (.var 2) (.cons (.int 0) (.cons (.bin .Sub (.var 1) (.int 1)) .nil)))))
    (.seq (.ret (.bi .tuple (.cons c_members_of_norm_1 .nil)))
    .nil))))
def b_order_in_ring_1 : Sm := (.seq (.asg (.t (.cons (.n 3) (.cons (.n 4) .nil))) (.tup (.cons (.call "product_by" 4 (.cons (.var 0) (.cons (.var 1) (.cons (.var 3) (.cons (.var 2) .nil))))) (.cons (.bin .Add (.var 4) (.int 1)) .nil))))
    .nil)
def w_order_in_ring_2 : Sm := (.whl (.cmp .NotEq (.var 3) (.tup (.cons (.bin .Mod (.int 1) (.var 1)) (.cons (.int 0) .nil)))) b_order_in_ring_1)
theorem un_w_order_in_ring_2 {t : Rt} {σ : En} {h : Hd} : denS t w_order_in_ring_2 none σ h = match tstD (den t (.cmp .NotEq (.var 3) (.tup (.cons (.bin .Mod (.int 1) (.var 1)) (.cons (.int 0) .nil)))) σ h) with
    | .ok true h1 => (match denS t b_order_in_ring_1 none σ h1 with
      | .nx σ' h' => denS t w_order_in_ring_2 none σ' h'
      | .ct σ' h' => denS t w_order_in_ring_2 none σ' h'
      | .bk σ' h' => .nx σ' h'
      | .rt d h' => .rt d h'
      | .ex e σ' h' => .ex e σ' h'
      | .bad => .bad)
    | .ok false h1 => .nx σ h1
    | .ex e h1 => .ex e σ h1
    | .bad => .bad := whD_eq
def N_order_in_ring : List Str := ["d", "n", "one", "own", "k"]
def s_order_in_ring : Sm := (.seq (.exp (.call "check_from" 3 (.cons (.var 1) (.cons (.int 3) (.cons (.int 2000) .nil)))))
    (.seq (.ife (.cmp .Is (.call "ring_back" 3 (.cons (.var 0) (.cons (.var 1) (.cons (.var 2) .nil)))) .non) (.seq (.rai "Refused" (.cons (.str "none") .nil))
    .nil) .nil)
    (.seq (.asg (.t (.cons (.n 3) (.cons (.n 4) .nil))) (.tup (.cons (.var 2) (.cons (.int 1) .nil))))
    (.seq w_order_in_ring_2
    (.seq (.ret (.var 4))
    .nil)))))
def N_frobenius_turns : List Str := ["d", "p", "one", "own"]
def s_frobenius_turns : Sm := (.seq (.exp (.call "check_member" 3 (.cons (.var 0) (.cons (.var 1) (.cons (.var 2) .nil)))))
    (.seq (.asg (.n 3) (.call "power_by" 4 (.cons (.var 0) (.cons (.var 1) (.cons (.var 2) (.cons (.var 1) .nil))))))
    (.seq (.ret (.cmp .Eq (.var 3) (.tup (.cons (.ix (.var 2) (.int 0)) (.cons (.bin .Mod (.neg (.ix (.var 2) (.int 1))) (.var 1)) .nil)))))
    .nil)))
def b_law_state_1 : Sm := (.seq (.asg (.n 1) (.bin .Add (.bin .Mult (.var 1) (.int 1000003)) (.bi .abs (.cons (.var 3) .nil))))
    (.seq (.asg (.n 2) (.bin .Mod (.bi .int (.cons (.bin .Add (.bin .Mult (.var 2) (.int 48271)) (.var 3)) .nil)) (.int 2147483647)))
    .nil))
def N_law_state : List Str := ["script", "seed", "total", "cell"]
def s_law_state : Sm := (.seq (.asg (.n 1) (.int 0))
    (.seq (.asg (.n 2) (.int 1))
    (.seq (.for_ (.n 3) (.itS (.sl (.var 0) .non (.pt (.int 63)))) b_law_state_1)
    (.seq (.ret (.lst (.cons (.var 1) (.cons (.ifx (.cmp .NotEq (.var 2) (.int 1973665155)) (.var 2) (.int 7)) .nil))))
    .nil))))
def N_law_take : List Str := ["state", "m", "value"]
def s_law_take : Sm := (.seq (.ife (.cmp .Gt (.ix (.var 0) (.int 0)) (.int 0)) (.seq (.asg (.n 2) (.bin .Mod (.bi .int (.cons (.ix (.var 0) (.int 0)) .nil)) (.var 1)))
    (.seq (.six (.var 0) (.int 0) (.bin .FloorDiv (.ix (.var 0) (.int 0)) (.var 1)))
    (.seq (.ret (.var 2))
    .nil))) .nil)
    (.seq (.six (.var 0) (.int 1) (.bin .Mod (.bi .int (.cons (.bin .Add (.bin .Mult (.ix (.var 0) (.int 1)) (.int 48271)) (.int 11)) .nil)) (.int 2147483647)))
    (.seq (.ret (.bin .Mod (.bi .int (.cons (.bin .FloorDiv (.ix (.var 0) (.int 1)) (.int 7)) .nil)) (.var 1)))
    .nil)))
def c_law_same_1 : Ex := (.lc [2] (.n 2) (.itR (.cons (.bi .len (.cons (.var 1) .nil)) .nil)) (.bl true) (.call "_law_same" 2 (.cons (.ix (.var 0) (.var 2)) (.cons (.ix (.var 1) (.var 2)) .nil))))
def N_law_same : List Str := ["value", "due", "k"]
def s_law_same : Sm := (.seq (.ife (.isi .list (.var 1)) (.seq (.ret (.and_ (.isi .list (.var 0)) (.call "_law_same" 2 (.cons (.bi .tuple (.cons (.var 0) .nil)) (.cons (.bi .tuple (.cons (.var 1) .nil)) .nil)))))
    .nil) .nil)
    (.seq (.ife (.isi .tuple (.var 1)) (.seq (.ret (.and_ (.isi .tuple (.var 0)) (.and_ (.cmp .Eq (.bi .len (.cons (.var 0) .nil)) (.bi .len (.cons (.var 1) .nil))) (.bi .all (.cons c_law_same_1 .nil)))))
    .nil) .nil)
    (.seq (.ife (.cmp .Is (.var 1) .non) (.seq (.ret (.cmp .Is (.var 0) .non))
    .nil) .nil)
    (.seq (.ife (.isi .bool (.var 1)) (.seq (.ret (.and_ (.isi .bool (.var 0)) (.cmp .Eq (.var 0) (.var 1))))
    .nil) .nil)
    (.seq (.ife (.isi .str (.var 1)) (.seq (.ret (.and_ (.isi .str (.var 0)) (.cmp .Eq (.var 0) (.var 1))))
    .nil) .nil)
    (.seq (.ife (.isi .int (.var 1)) (.seq (.ret (.and_ (.isi .int (.var 0)) (.and_ (.not_ (.isi .bool (.var 0))) (.cmp .Eq (.var 0) (.var 1)))))
    .nil) .nil)
    (.seq (.ret (.and_ (.not_ (.isi .int (.var 0))) (.cmp .Eq (.var 0) (.var 1))))
    .nil)))))))
def N_law_told : List Str := ["f", "given", "error"]
def s_law_told : Sm := (.seq (.try_ (.seq (.ife (.cmp .Eq (.bi .len (.cons (.var 1) .nil)) (.int 0)) (.seq (.ret (.tup (.cons (.str "told") (.cons (.clv 0 0 .nil) .nil))))
    .nil) .nil)
    (.seq (.ife (.cmp .Eq (.bi .len (.cons (.var 1) .nil)) (.int 1)) (.seq (.ret (.tup (.cons (.str "told") (.cons (.clv 0 1 (.cons (.ix (.var 1) (.int 0)) .nil)) .nil))))
    .nil) .nil)
    (.seq (.ife (.cmp .Eq (.bi .len (.cons (.var 1) .nil)) (.int 2)) (.seq (.ret (.tup (.cons (.str "told") (.cons (.clv 0 2 (.cons (.ix (.var 1) (.int 0)) (.cons (.ix (.var 1) (.int 1)) .nil))) .nil))))
    .nil) .nil)
    (.seq (.ife (.cmp .Eq (.bi .len (.cons (.var 1) .nil)) (.int 3)) (.seq (.ret (.tup (.cons (.str "told") (.cons (.clv 0 3 (.cons (.ix (.var 1) (.int 0)) (.cons (.ix (.var 1) (.int 1)) (.cons (.ix (.var 1) (.int 2)) .nil)))) .nil))))
    .nil) .nil)
    (.seq (.ife (.cmp .Eq (.bi .len (.cons (.var 1) .nil)) (.int 4)) (.seq (.ret (.tup (.cons (.str "told") (.cons (.clv 0 4 (.cons (.ix (.var 1) (.int 0)) (.cons (.ix (.var 1) (.int 1)) (.cons (.ix (.var 1) (.int 2)) (.cons (.ix (.var 1) (.int 3)) .nil))))) .nil))))
    .nil) .nil)
    (.seq (.ife (.cmp .Eq (.bi .len (.cons (.var 1) .nil)) (.int 5)) (.seq (.ret (.tup (.cons (.str "told") (.cons (.clv 0 5 (.cons (.ix (.var 1) (.int 0)) (.cons (.ix (.var 1) (.int 1)) (.cons (.ix (.var 1) (.int 2)) (.cons (.ix (.var 1) (.int 3)) (.cons (.ix (.var 1) (.int 4)) .nil)))))) .nil))))
    .nil) .nil)
    (.seq (.ret (.tup (.cons (.str "told") (.cons (.clv 0 6 (.cons (.ix (.var 1) (.int 0)) (.cons (.ix (.var 1) (.int 1)) (.cons (.ix (.var 1) (.int 2)) (.cons (.ix (.var 1) (.int 3)) (.cons (.ix (.var 1) (.int 4)) (.cons (.ix (.var 1) (.int 5)) .nil))))))) .nil))))
    .nil))))))) (.hcons "Malformed" none (.seq (.ret (.tup (.cons (.str "malformed") (.cons .non .nil))))
    .nil) (.hcons "Refused" (some 2) (.seq (.ret (.tup (.cons (.str "raised") (.cons (.att (.var 2) "reason") .nil))))
    .nil) .hnil)))
    .nil)
def N_law_is_told : List Str := ["pair", "due"]
def s_law_is_told : Sm := (.seq (.ret (.and_ (.cmp .Eq (.ix (.var 0) (.int 0)) (.str "told")) (.call "_law_same" 2 (.cons (.ix (.var 0) (.int 1)) (.cons (.var 1) .nil)))))
    .nil)
def N_law_is_raised : List Str := ["pair", "reason"]
def s_law_is_raised : Sm := (.seq (.ife (.cmp .Eq (.var 1) (.str "malformed")) (.seq (.ret (.cmp .Eq (.ix (.var 0) (.int 0)) (.str "malformed")))
    .nil) .nil)
    (.seq (.ret (.and_ (.cmp .Eq (.ix (.var 0) (.int 0)) (.str "raised")) (.call "_law_same" 2 (.cons (.ix (.var 0) (.int 1)) (.cons (.var 1) .nil)))))
    .nil))
def N_law_tells : List Str := ["f", "given", "due"]
def s_law_tells : Sm := (.seq (.ret (.call "_law_is_told" 2 (.cons (.call "_law_told" 2 (.cons (.var 0) (.cons (.var 1) .nil))) (.cons (.var 2) .nil))))
    .nil)
def N_law_raises : List Str := ["f", "given", "reason"]
def s_law_raises : Sm := (.seq (.ret (.call "_law_is_raised" 2 (.cons (.call "_law_told" 2 (.cons (.var 0) (.cons (.var 1) .nil))) (.cons (.var 2) .nil))))
    .nil)
def N_law_plain : List Str := ["x"]
def s_law_plain : Sm := (.seq (.ret (.and_ (.isi .int (.var 0)) (.not_ (.isi .bool (.var 0)))))
    .nil)
def N_law_value : List Str := ["f", "given", "told"]
def s_law_value : Sm := (.seq (.asg (.n 2) (.call "_law_told" 2 (.cons (.var 0) (.cons (.var 1) .nil))))
    (.seq (.ret (.ifx (.cmp .Eq (.ix (.var 2) (.int 0)) (.str "told")) (.ix (.var 2) (.int 1)) (.var 2)))
    .nil))
def b_law_bads_1 : Sm := (.seq (.asg (.n 5) (.bi .list (.cons (.var 1) .nil)))
    (.seq (.six (.var 5) (.var 2) (.var 4))
    (.seq (.ife (.cmp .NotEq (.call "_law_told" 2 (.cons (.var 0) (.cons (.bi .tuple (.cons (.var 5) .nil)) .nil))) (.tup (.cons (.str "malformed") (.cons .non .nil)))) (.seq (.ret (.bl false))
    .nil) .nil)
    .nil)))
def N_law_bads : List Str := ["f", "given", "at", "bads", "bad", "own"]
def s_law_bads : Sm := (.seq (.for_ (.n 4) (.itS (.var 3)) b_law_bads_1)
    (.seq (.ret (.bl true))
    .nil))
def b_law_common_1 : Sm := (.seq (.asg (.t (.cons (.n 0) (.cons (.n 1) .nil))) (.tup (.cons (.var 1) (.cons (.bin .Mod (.bi .int (.cons (.var 0) .nil)) (.var 1)) .nil))))
    .nil)
def w_law_common_2 : Sm := (.whl (.cmp .Gt (.var 1) (.int 0)) b_law_common_1)
theorem un_w_law_common_2 {t : Rt} {σ : En} {h : Hd} : denS t w_law_common_2 none σ h = match tstD (den t (.cmp .Gt (.var 1) (.int 0)) σ h) with
    | .ok true h1 => (match denS t b_law_common_1 none σ h1 with
      | .nx σ' h' => denS t w_law_common_2 none σ' h'
      | .ct σ' h' => denS t w_law_common_2 none σ' h'
      | .bk σ' h' => .nx σ' h'
      | .rt d h' => .rt d h'
      | .ex e σ' h' => .ex e σ' h'
      | .bad => .bad)
    | .ok false h1 => .nx σ h1
    | .ex e h1 => .ex e σ h1
    | .bad => .bad := whD_eq
def N_law_common : List Str := ["a", "b"]
def s_law_common : Sm := (.seq w_law_common_2
    (.seq (.ret (.var 0))
    .nil))
def b_law_prime_1 : Sm := (.seq (.ife (.cmp .Gt (.bin .Mult (.var 1) (.var 1)) (.var 0)) (.seq (.ret (.bl true))
    .nil) .nil)
    (.seq (.ife (.cmp .Eq (.bin .Mod (.bi .int (.cons (.var 0) .nil)) (.var 1)) (.int 0)) (.seq (.ret (.bl false))
    .nil) .nil)
    (.seq (.asg (.n 1) (.bin .Add (.var 1) (.int 1)))
    .nil)))
def N_law_prime : List Str := ["n", "d", "k"]
def s_law_prime : Sm := (.seq (.ife (.cmp .Lt (.var 0) (.int 2)) (.seq (.ret (.bl false))
    .nil) .nil)
    (.seq (.asg (.n 1) (.int 2))
    (.seq (.for_ (.n 2) (.itR (.cons (.int 2) (.cons (.int 40000) .nil))) b_law_prime_1)
    (.seq (.ret (.bl true))
    .nil))))
def b_law_rest_1 : Sm := (.seq (.ife (.cmp .Gt (.var 1) (.int 0)) (.seq (.ife (.cmp .Eq (.bin .Mod (.bi .int (.cons (.var 1) .nil)) (.int 2)) (.int 1)) (.seq (.asg (.n 4) (.bin .Mod (.bi .int (.cons (.bin .Mult (.var 4) (.var 5)) .nil)) (.var 2)))
    .nil) .nil)
    (.seq (.asg (.t (.cons (.n 5) (.cons (.n 1) .nil))) (.tup (.cons (.bin .Mod (.bi .int (.cons (.bin .Mult (.var 5) (.var 5)) .nil)) (.var 2)) (.cons (.bin .FloorDiv (.var 1) (.int 2)) .nil))))
    .nil)) .nil)
    .nil)
def N_law_rest : List Str := ["a", "k", "n", "t", "found", "own"]
def s_law_rest : Sm := (.seq (.asg (.t (.cons (.n 4) (.cons (.n 5) .nil))) (.tup (.cons (.bin .Mod (.int 1) (.var 2)) (.cons (.bin .Mod (.bi .int (.cons (.var 0) .nil)) (.var 2)) .nil))))
    (.seq (.for_ (.n 3) (.itR (.cons (.int 64) .nil)) b_law_rest_1)
    (.seq (.ret (.var 4))
    .nil)))
def N_law_times : List Str := ["d", "n", "one", "two"]
def s_law_times : Sm := (.seq (.ret (.tup (.cons (.bin .Mod (.bi .int (.cons (.bin .Add (.bin .Mult (.ix (.var 2) (.int 0)) (.ix (.var 3) (.int 0))) (.bin .Mult (.bin .Mult (.var 0) (.ix (.var 2) (.int 1))) (.ix (.var 3) (.int 1)))) .nil)) (.var 1)) (.cons (.bin .Mod (.bi .int (.cons (.bin .Add (.bin .Mult (.ix (.var 2) (.int 0)) (.ix (.var 3) (.int 1))) (.bin .Mult (.ix (.var 2) (.int 1)) (.ix (.var 3) (.int 0)))) .nil)) (.var 1)) .nil))))
    .nil)
def i_law_circle_holds_1 : Sm := (.ife (.or_ (.not_ (.call "_law_bads" 4 (.cons (.glo "ring_power") (.cons (.tup (.cons (.var 1) (.cons (.var 2) (.cons (.var 3) (.cons (.int 1) .nil))))) (.cons (.int 3) (.cons (.lst (.cons (.neg (.int 1)) (.cons .non (.cons (.int 10000000000000001) .nil)))) .nil)))))) (.or_ (.not_ (.call "_law_bads" 4 (.cons (.glo "circle_member") (.cons (.tup (.cons (.var 1) (.cons (.var 2) (.cons (.int 0) .nil)))) (.cons (.int 2) (.cons (.lst (.cons (.neg (.int 1)) (.cons (.var 2) (.cons .non (.cons (.bl true) .nil))))) .nil)))))) (.or_ (.not_ (.call "_law_bads" 4 (.cons (.glo "members_of_norm") (.cons (.tup (.cons (.var 1) (.cons (.var 2) (.cons (.int 0) .nil)))) (.cons (.int 2) (.cons (.lst (.cons (.neg (.int 1)) (.cons (.var 2) (.cons .non .nil)))) .nil)))))) (.or_ (.not_ (.call "_law_bads" 4 (.cons (.glo "members_of_norm") (.cons (.tup (.cons (.var 1) (.cons (.var 2) (.cons (.int 0) .nil)))) (.cons (.int 1) (.cons (.lst (.cons (.int 201) .nil)) .nil)))))) (.not_ (.call "_law_bads" 4 (.cons (.glo "order_in_ring") (.cons (.tup (.cons (.var 1) (.cons (.var 2) (.cons (.var 3) .nil)))) (.cons (.int 1) (.cons (.lst (.cons (.int 2001) (.cons .non .nil))) .nil)))))))))) (.seq (.ret (.bl false))
    .nil) .nil)
def i_law_circle_holds_2 : Sm := (.ife (.or_ (.not_ (.call "_law_bads" 4 (.cons (.var 12) (.cons (.var 13) (.cons (.int 0) (.cons (.lst (.cons .non (.cons (.int 1000001) (.cons (.neg (.int 1000001)) (.cons (.bl true) .nil))))) .nil)))))) (.not_ (.call "_law_bads" 4 (.cons (.var 12) (.cons (.var 13) (.cons (.int 1) (.cons (.lst (.cons .non (.cons (.int 1) (.cons (.int 4) (.cons (.int 0) (.cons (.neg (.int 3)) .nil)))))) .nil))))))) (.seq (.ret (.bl false))
    .nil) .nil)
def b_law_circle_holds_1 : Sm := (.seq i_law_circle_holds_2
    .nil)
def f_law_circle_holds_3 : Sm := (.for_ (.t (.cons (.n 12) (.cons (.n 13) .nil))) (.itS (.tup (.cons (.tup (.cons (.glo "is_member") (.cons (.tup (.cons (.var 1) (.cons (.var 2) (.cons (.var 3) .nil)))) .nil))) (.cons (.tup (.cons (.glo "ring_product") (.cons (.tup (.cons (.var 1) (.cons (.var 2) (.cons (.var 3) (.cons (.var 4) .nil))))) .nil))) (.cons (.tup (.cons (.glo "ring_norm") (.cons (.tup (.cons (.var 1) (.cons (.var 2) (.cons (.var 3) .nil)))) .nil))) (.cons (.tup (.cons (.glo "circle_member") (.cons (.tup (.cons (.var 1) (.cons (.var 2) (.cons (.int 0) .nil)))) .nil))) (.cons (.tup (.cons (.glo "members_of_norm") (.cons (.tup (.cons (.var 1) (.cons (.var 2) (.cons (.int 0) .nil)))) .nil))) .nil))))))) b_law_circle_holds_1)
def i_law_circle_holds_4 : Sm := (.ife (.not_ (.call "_law_bads" 4 (.cons (.var 12) (.cons (.var 13) (.cons (.var 14) (.cons (.var 8) .nil)))))) (.seq (.ret (.bl false))
    .nil) .nil)
def b_law_circle_holds_2 : Sm := (.seq i_law_circle_holds_4
    .nil)
def f_law_circle_holds_5 : Sm := (.for_ (.t (.cons (.n 12) (.cons (.n 13) (.cons (.n 14) .nil)))) (.itS (.tup (.cons (.tup (.cons (.glo "ring_product") (.cons (.tup (.cons (.var 1) (.cons (.var 2) (.cons (.var 3) (.cons (.var 4) .nil))))) (.cons (.int 2) .nil)))) (.cons (.tup (.cons (.glo "ring_product") (.cons (.tup (.cons (.var 1) (.cons (.var 2) (.cons (.var 3) (.cons (.var 4) .nil))))) (.cons (.int 3) .nil)))) (.cons (.tup (.cons (.glo "ring_power") (.cons (.tup (.cons (.var 1) (.cons (.var 2) (.cons (.var 3) (.cons (.int 1) .nil))))) (.cons (.int 2) .nil)))) (.cons (.tup (.cons (.glo "ring_norm") (.cons (.tup (.cons (.var 1) (.cons (.var 2) (.cons (.var 3) .nil)))) (.cons (.int 2) .nil)))) (.cons (.tup (.cons (.glo "ring_back") (.cons (.tup (.cons (.var 1) (.cons (.var 2) (.cons (.var 3) .nil)))) (.cons (.int 2) .nil)))) (.cons (.tup (.cons (.glo "order_in_ring") (.cons (.tup (.cons (.var 1) (.cons (.var 2) (.cons (.var 3) .nil)))) (.cons (.int 2) .nil)))) .nil)))))))) b_law_circle_holds_2)
def i_law_circle_holds_6 : Sm := (.ife (.not_ (.call "_law_tells" 3 (.cons (.glo "is_member") (.cons (.tup (.cons (.var 1) (.cons (.var 2) (.cons (.var 9) .nil)))) (.cons (.var 11) .nil))))) (.seq (.ret (.bl false))
    .nil) .nil)
def c_law_circle_holds_3 : Ex := (.lc [18] (.n 18) (.itS (.var 9)) (.bl true) (.and_ (.call "_law_plain" 1 (.cons (.var 18) .nil)) (.chn .LtE .Lt (.int 0) (.var 18) (.var 2))))
def b_law_circle_holds_4 : Sm := (.seq (.asg (.n 11) (.and_ (.isi .tuple (.var 9)) (.and_ (.cmp .Eq (.bi .len (.cons (.var 9) .nil)) (.int 2)) (.bi .all (.cons c_law_circle_holds_3 .nil)))))
    (.seq i_law_circle_holds_6
    .nil))
def f_law_circle_holds_7 : Sm := (.for_ (.n 9) (.itS (.bin .Add (.var 8) (.lst (.cons (.var 3) (.cons (.tup (.cons (.int 0) (.cons (.int 0) .nil))) .nil))))) b_law_circle_holds_4)
def i_law_circle_holds_8 : Sm := (.ife (.not_ (.call "_law_raises" 3 (.cons (.glo "circle_member") (.cons (.tup (.cons (.var 1) (.cons (.var 2) (.cons (.var 6) .nil)))) (.cons (.str "share") .nil))))) (.seq (.ret (.bl false))
    .nil) .nil)
def i_law_circle_holds_9 : Sm := (.ife (.or_ (.cmp .NotEq (.bin .Mod (.bi .int (.cons (.bin .Sub (.bin .Sub (.bin .Mult (.var 15) (.var 7)) (.bin .Mult (.var 6) (.var 6))) (.var 1)) .nil)) (.var 2)) (.int 0)) (.or_ (.cmp .NotEq (.bin .Mod (.bi .int (.cons (.bin .Sub (.bin .Mult (.var 16) (.var 7)) (.bin .Mult (.int 2) (.var 6))) .nil)) (.var 2)) (.int 0)) (.or_ (.cmp .NotEq (.bin .Mod (.bi .int (.cons (.bin .Sub (.bin .Sub (.bin .Mult (.var 15) (.var 15)) (.bin .Mult (.bin .Mult (.var 1) (.var 16)) (.var 16))) (.int 1)) .nil)) (.var 2)) (.int 0)) (.or_ (.not_ (.chn .LtE .Lt (.int 0) (.var 15) (.var 2))) (.not_ (.chn .LtE .Lt (.int 0) (.var 16) (.var 2))))))) (.seq (.ret (.bl false))
    .nil) .nil)
def i_law_circle_holds_10 : Sm := (.ife (.or_ (.cmp .Eq (.var 7) (.int 0)) (.cmp .NotEq (.call "_law_common" 2 (.cons (.var 7) (.cons (.var 2) .nil))) (.int 1))) (.seq i_law_circle_holds_8
    .nil) (.seq (.asg (.t (.cons (.n 15) (.cons (.n 16) .nil))) (.call "_law_value" 2 (.cons (.glo "circle_member") (.cons (.tup (.cons (.var 1) (.cons (.var 2) (.cons (.var 6) .nil)))) .nil))))
    (.seq i_law_circle_holds_9
    .nil)))
def c_law_circle_holds_5 : Ex := (.lc [17] (.n 17) (.itS (.var 10)) (.bl true) (.cmp .NotEq (.call "_law_value" 2 (.cons (.glo "ring_power") (.cons (.tup (.cons (.var 1) (.cons (.var 2) (.cons (.var 17) (.cons (.bin .Add (.var 2) (.int 1)) .nil))))) .nil))) (.tup (.cons (.int 1) (.cons (.int 0) .nil)))))
def i_law_circle_holds_11 : Sm := (.ife (.or_ (.cmp .NotEq (.bi .len (.cons (.var 10) .nil)) (.bin .Add (.var 2) (.int 1))) (.or_ (.not_ (.call "_law_tells" 3 (.cons (.glo "frobenius_turns") (.cons (.tup (.cons (.var 1) (.cons (.var 2) (.cons (.var 3) .nil)))) (.cons (.bl true) .nil))))) (.bi .any (.cons c_law_circle_holds_5 .nil)))) (.seq (.ret (.bl false))
    .nil) .nil)
def i_law_circle_holds_12 : Sm := (.ife (.and_ (.var 5) (.and_ (.cmp .NotEq (.bin .Mod (.bi .int (.cons (.var 1) .nil)) (.var 2)) (.int 0)) (.cmp .Eq (.call "_law_rest" 3 (.cons (.bin .Mod (.bi .int (.cons (.var 1) .nil)) (.var 2)) (.cons (.bin .FloorDiv (.bin .Sub (.var 2) (.int 1)) (.int 2)) (.cons (.var 2) .nil)))) (.bin .Sub (.var 2) (.int 1))))) (.seq (.asg (.n 10) (.call "_law_value" 2 (.cons (.glo "members_of_norm") (.cons (.tup (.cons (.var 1) (.cons (.var 2) (.cons (.int 1) .nil)))) .nil))))
    (.seq i_law_circle_holds_11
    .nil)) .nil)
def N_law_circle_holds : List Str := ["state", "d", "n", "one", "two", "prime", "t", "low", "wrong", "value", "circle", "good", "act", "given", "spot", "u", "v", "own", "x"]
def s_law_circle_holds : Sm := (.seq (.asg (.n 5) (.call "_law_prime" 1 (.cons (.var 2) .nil)))
    (.seq i_law_circle_holds_12
    (.seq (.asg (.n 6) (.call "_law_take" 2 (.cons (.var 0) (.cons (.var 2) .nil))))
    (.seq (.asg (.n 7) (.bin .Mod (.bi .int (.cons (.bin .Sub (.bin .Mult (.var 6) (.var 6)) (.var 1)) .nil)) (.var 2)))
    (.seq i_law_circle_holds_10
    (.seq (.asg (.n 8) (.lst (.cons .non (.cons (.tup (.cons (.var 2) (.cons (.int 0) .nil))) (.cons (.tup (.cons (.neg (.int 1)) (.cons (.int 0) .nil))) (.cons (.tup (.cons (.int 0) .nil)) (.cons (.lfr (.cons (.int 0) (.cons (.int 0) .nil))) (.cons (.tup (.cons (.bl true) (.cons (.int 0) .nil))) (.cons (.tup (.cons (.str "0") (.cons (.int 0) .nil))) (.cons (.int 5) .nil))))))))))
    (.seq f_law_circle_holds_7
    (.seq f_law_circle_holds_5
    (.seq f_law_circle_holds_3
    (.seq i_law_circle_holds_1
    (.seq (.ret (.bl true))
    .nil)))))))))))
def i_law_1 : Sm := (.ife (.not_ (.call "_law_circle_holds" 5 (.cons (.var 1) (.cons (.var 12) (.cons (.var 13) (.cons (.var 14) (.cons (.var 15) .nil))))))) (.seq (.ret (.bl false))
    .nil) .nil)
def i_law_2 : Sm := (.ife (.not_ (.call "_law_tells" 3 (.cons (.glo "members_of_norm") (.cons (.tup (.cons (.var 12) (.cons (.var 13) (.cons (.var 9) .nil)))) (.cons (.bi .tuple (.cons (.var 10) .nil)) .nil))))) (.seq (.ret (.bl false))
    .nil) .nil)
def c_law_1 : Ex := (.lc [21] (.n 21) (.itR (.cons (.var 13) .nil)) (.cmp .Eq (.bin .Mod (.bi .int (.cons (.bin .Sub (.bin .Sub (.bin .Mult (.var 11) (.var 11)) (.bin .Mult (.bin .Mult (.var 12) (.var 21)) (.var 21))) (.var 9)) .nil)) (.var 13)) (.int 0)) (.tup (.cons (.var 11) (.cons (.var 21) .nil))))
def b_law_2 : Sm := (.seq (.asg (.n 10) (.bin .Add (.var 10) c_law_1))
    .nil)
def f_law_3 : Sm := (.for_ (.n 11) (.itR (.cons (.var 13) .nil)) b_law_2)
def i_law_4 : Sm := (.ife (.and_ (.cmp .Gt (.var 20) (.int 0)) (.not_ (.call "_law_tells" 3 (.cons (.glo "order_in_ring") (.cons (.tup (.cons (.var 12) (.cons (.var 13) (.cons (.var 14) .nil)))) (.cons (.var 20) .nil)))))) (.seq (.ret (.bl false))
    .nil) .nil)
def i_law_5 : Sm := (.ife (.and_ (.cmp .Eq (.var 18) (.tup (.cons (.int 1) (.cons (.int 0) .nil)))) (.cmp .Eq (.var 20) (.int 0))) (.seq (.asg (.n 20) (.var 19))
    .nil) .nil)
def b_law_3 : Sm := (.seq i_law_5
    (.seq (.asg (.n 18) (.ifx (.cmp .Eq (.var 20) (.int 0)) (.call "_law_times" 4 (.cons (.var 12) (.cons (.var 13) (.cons (.var 18) (.cons (.var 14) .nil))))) (.var 18)))
    .nil))
def f_law_6 : Sm := (.for_ (.n 19) (.itR (.cons (.int 1) (.cons (.int 2100) .nil))) b_law_3)
def i_law_7 : Sm := (.ife (.not_ (.call "_law_raises" 3 (.cons (.glo "order_in_ring") (.cons (.tup (.cons (.var 12) (.cons (.var 13) (.cons (.var 14) .nil)))) (.cons (.str "none") .nil))))) (.seq (.ret (.bl false))
    .nil) .nil)
def i_law_8 : Sm := (.ife (.var 7) (.seq (.asg (.t (.cons (.n 18) (.cons (.n 20) .nil))) (.tup (.cons (.var 14) (.cons (.int 0) .nil))))
    (.seq f_law_6
    (.seq i_law_4
    .nil))) (.seq i_law_7
    .nil))
def i_law_9 : Sm := (.ife (.or_ (.cmp .NotEq (.cmp .IsNot (.var 8) .non) (.var 7)) (.and_ (.var 7) (.cmp .NotEq (.call "_law_times" 4 (.cons (.var 12) (.cons (.var 13) (.cons (.var 14) (.cons (.var 8) .nil))))) (.tup (.cons (.int 1) (.cons (.int 0) .nil)))))) (.seq (.ret (.bl false))
    .nil) .nil)
def i_law_10 : Sm := (.ife (.or_ (.not_ (.call "_law_tells" 3 (.cons (.glo "ring_power") (.cons (.tup (.cons (.var 12) (.cons (.var 13) (.cons (.var 14) (.cons (.var 17) .nil))))) (.cons (.var 18) .nil))))) (.cmp .NotEq (.call "_law_value" 2 (.cons (.glo "ring_power") (.cons (.tup (.cons (.var 12) (.cons (.var 13) (.cons (.var 14) (.cons (.bin .Add (.int 10000000000) (.var 17)) .nil))))) .nil))) (.call "_law_times" 4 (.cons (.var 12) (.cons (.var 13) (.cons (.call "_law_value" 2 (.cons (.glo "ring_power") (.cons (.tup (.cons (.var 12) (.cons (.var 13) (.cons (.var 14) (.cons (.int 10000000000) .nil))))) .nil))) (.cons (.var 18) .nil))))))) (.seq (.ret (.bl false))
    .nil) .nil)
def b_law_4 : Sm := (.seq (.asg (.n 18) (.call "_law_times" 4 (.cons (.var 12) (.cons (.var 13) (.cons (.var 18) (.cons (.var 14) .nil))))))
    .nil)
def f_law_11 : Sm := (.for_ (.n 6) (.itR (.cons (.var 17) .nil)) b_law_4)
def i_law_12 : Sm := (.ife (.or_ (.not_ (.call "_law_tells" 3 (.cons (.glo "ring_norm") (.cons (.tup (.cons (.var 12) (.cons (.var 13) (.cons (.var 14) .nil)))) (.cons (.var 4) .nil))))) (.not_ (.call "_law_tells" 3 (.cons (.glo "ring_norm") (.cons (.tup (.cons (.var 12) (.cons (.var 13) (.cons (.call "_law_times" 4 (.cons (.var 12) (.cons (.var 13) (.cons (.var 14) (.cons (.var 15) .nil))))) .nil)))) (.cons (.bin .Mod (.bi .int (.cons (.bin .Mult (.var 4) (.var 5)) .nil)) (.var 13)) .nil)))))) (.seq (.ret (.bl false))
    .nil) .nil)
def i_law_13 : Sm := (.ife (.or_ (.not_ (.call "_law_tells" 3 (.cons (.glo "ring_product") (.cons (.tup (.cons (.var 12) (.cons (.var 13) (.cons (.var 14) (.cons (.var 15) .nil))))) (.cons (.call "_law_times" 4 (.cons (.var 12) (.cons (.var 13) (.cons (.var 14) (.cons (.var 15) .nil))))) .nil))))) (.cmp .NotEq (.call "_law_value" 2 (.cons (.glo "ring_product") (.cons (.tup (.cons (.var 12) (.cons (.var 13) (.cons (.call "_law_value" 2 (.cons (.glo "ring_product") (.cons (.tup (.cons (.var 12) (.cons (.var 13) (.cons (.var 14) (.cons (.var 15) .nil))))) .nil))) (.cons (.var 16) .nil))))) .nil))) (.call "_law_value" 2 (.cons (.glo "ring_product") (.cons (.tup (.cons (.var 12) (.cons (.var 13) (.cons (.var 14) (.cons (.call "_law_value" 2 (.cons (.glo "ring_product") (.cons (.tup (.cons (.var 12) (.cons (.var 13) (.cons (.var 15) (.cons (.var 16) .nil))))) .nil))) .nil))))) .nil))))) (.seq (.ret (.bl false))
    .nil) .nil)
def c_law_5 : Ex := (.lc [17] (.n 17) (.itR (.cons (.int 3) .nil)) (.bl true) (.tup (.cons (.call "_law_take" 2 (.cons (.var 1) (.cons (.var 13) .nil))) (.cons (.call "_law_take" 2 (.cons (.var 1) (.cons (.var 13) .nil))) .nil))))
def b_law_6 : Sm := (.seq (.asg (.t (.cons (.n 12) (.cons (.n 13) .nil))) (.tup (.cons (.bin .Sub (.call "_law_take" 2 (.cons (.var 1) (.cons (.int 41) .nil))) (.int 20)) (.cons (.bin .Add (.int 3) (.bin .Mult (.int 2) (.call "_law_take" 2 (.cons (.var 1) (.cons (.int 22) .nil))))) .nil))))
    (.seq (.asg (.n 3) c_law_5)
    (.seq (.asg (.t (.cons (.n 14) (.cons (.n 15) (.cons (.n 16) .nil)))) (.var 3))
    (.seq i_law_13
    (.seq (.asg (.n 4) (.bin .Mod (.bi .int (.cons (.bin .Sub (.bin .Mult (.ix (.var 14) (.int 0)) (.ix (.var 14) (.int 0))) (.bin .Mult (.bin .Mult (.var 12) (.ix (.var 14) (.int 1))) (.ix (.var 14) (.int 1)))) .nil)) (.var 13)))
    (.seq (.asg (.n 5) (.bin .Mod (.bi .int (.cons (.bin .Sub (.bin .Mult (.ix (.var 15) (.int 0)) (.ix (.var 15) (.int 0))) (.bin .Mult (.bin .Mult (.var 12) (.ix (.var 15) (.int 1))) (.ix (.var 15) (.int 1)))) .nil)) (.var 13)))
    (.seq i_law_12
    (.seq (.asg (.t (.cons (.n 17) (.cons (.n 18) .nil))) (.tup (.cons (.call "_law_take" 2 (.cons (.var 1) (.cons (.int 12) .nil))) (.cons (.tup (.cons (.int 1) (.cons (.int 0) .nil))) .nil))))
    (.seq f_law_11
    (.seq i_law_10
    (.seq (.asg (.n 7) (.ifx (.cmp .Gt (.var 4) (.int 0)) (.cmp .Eq (.call "_law_common" 2 (.cons (.var 4) (.cons (.var 13) .nil))) (.int 1)) (.bl false)))
    (.seq (.asg (.n 8) (.call "_law_value" 2 (.cons (.glo "ring_back") (.cons (.tup (.cons (.var 12) (.cons (.var 13) (.cons (.var 14) .nil)))) .nil))))
    (.seq i_law_9
    (.seq i_law_8
    (.seq (.asg (.n 9) (.call "_law_take" 2 (.cons (.var 1) (.cons (.var 13) .nil))))
    (.seq (.asg (.n 10) (.lst .nil))
    (.seq f_law_3
    (.seq i_law_2
    (.seq i_law_1
    .nil)))))))))))))))))))
def f_law_14 : Sm := (.for_ (.n 2) (.itR (.cons (.int 5) .nil)) b_law_6)
def N_law : List Str := ["script", "state", "turn", "lots", "norm", "other", "t", "unit", "back", "c", "found", "u", "d", "n", "one", "two", "three", "k", "own", "j", "order", "v"]
def s_law : Sm := (.seq (.asg (.n 1) (.call "_law_state" 1 (.cons (.var 0) .nil)))
    (.seq f_law_14
    (.seq (.ret (.bl true))
    .nil)))
end K42

namespace Ev
open PySem PySem.Spec PyProof.Rows L2
/-- t knows the def x -/
structure Has (t : Rt) (x : Str) (n : Nat) (sp : List D → Hd → R D) : Prop where
  orc : t.orc x = sp
  ar : t.ar x n = true
  dfl : t.dfl x n = []
theorem den_call {t : Rt} {x : Str} {n : Nat} {es : Ex} {σ : En} {h : Hd} {sp : List D → Hd → R D} (H : Has t x n sp) : den t (.call x n es) σ h = (den t es σ h).bind fun y h1 => match y with
    | .tup ys => if ys.length = n then callD sp ys h1 else .bad
    | _ => .bad := by
  show (if t.ar x n = true then _ else _) = _
  rw [if_pos H.ar]
  congr 1
  funext y h1
  cases y with
  | tup ys =>
    show (if ys.length = n then callD (t.orc x) (ys ++ t.dfl x n) h1 else .bad) = _
    rw [H.dfl, H.orc, List.append_nil]
  | _ => rfl
theorem call_pure {g : List D → Rs} {as : List D} {h : Hd} {r : Rs} (e : g as = r) (hf : D.flats as = true) (hg : r.flat = true) : callD (pureF g) as h = r.toR h := by
  rw [callD_pure hf (by rw [e]; exact hg), e]
def isI (d : D) : Bool := match d with
  | .int _ => true
  | _ => false
/-- a number from lo to hi -/
def cntB (d : D) (lo hi : Int) : Bool := match d with
  | .int i => decide (lo ≤ i) && decide (i ≤ hi)
  | _ => false
end Ev
namespace K42
open PySem PySem.Spec PyProof.Rows L2 Ev
abbrev xM : Xn := ⟨"Malformed", none⟩
abbrev xR (s : Str) : Xn := ⟨"Refused", some ("reason", .str s)⟩
def g_is_integer : List D → Rs
  | [d] => if d.dat = true then .v (.bl (isI d)) else .b
  | _ => .b
theorem d_is_integer {t : Rt} (ds : List D) : Does0 t s_is_integer N_is_integer g_is_integer ds := by
  unfold Does0 g_is_integer
  split
  · rename_i d
    split
    · rename_i hd
      cases d <;> first
        | (cases hd; done)
        | (simp [s_is_integer, N_is_integer, startD, denS, den, isiD_dat hd, isT, notD, truD, isI]; done)
    · simp
  · simp
theorem k_is_integer {d : D} {h : Hd} (hd : d.dat = true) : callD (pureF g_is_integer) [d] h = .ok (.bl (isI d)) h :=
  call_pure (r := .v (.bl (isI d))) (by simp [g_is_integer, hd]) (by simp [D.flats, dat_flat hd]) rfl
def g_is_count : List D → Rs
  | [d, .int lo, .int hi] => if d.dat = true then .v (.bl (cntB d lo hi)) else .b
  | _ => .b
theorem d_is_count {t : Rt} (H1 : Has t "is_integer" 1 (pureF g_is_integer)) (ds : List D) : Does0 t s_is_count N_is_count g_is_count ds := by
  unfold Does0 g_is_count
  split
  · rename_i d lo hi
    split
    · rename_i hd
      cases d <;> first
        | (cases hd; done)
        | (simp [s_is_count, N_is_count, startD, denS, H1.ar, H1.orc, H1.dfl, den, k_is_integer hd, isI, cntB]; done)
        | (simp [s_is_count, N_is_count, startD, denS, H1.ar, H1.orc, H1.dfl, den, k_is_integer hd, isI, cntB]
           rename_i i
           by_cases h1 : lo ≤ i <;> simp [h1])
    · simp
  · simp
theorem k_is_count {d : D} {lo hi : Int} {h : Hd} (hd : d.dat = true) : callD (pureF g_is_count) [d, .int lo, .int hi] h = .ok (.bl (cntB d lo hi)) h :=
  call_pure (r := .v (.bl (cntB d lo hi))) (by simp [g_is_count, hd]) (by simp [D.flats, dat_flat hd, D.flat]) rfl
def g_check_from : List D → Rs
  | [d, .int lo, .int hi] => if d.dat = true then (if cntB d lo hi = true then .v .non else .x xM) else .b
  | _ => .b
theorem d_check_from {t : Rt} (H1 : Has t "is_count" 3 (pureF g_is_count)) (hM : t.exf "Malformed" = some none) (ds : List D) : Does0 t s_check_from N_check_from g_check_from ds := by
  unfold Does0 g_check_from
  split
  · rename_i d lo hi
    split
    · rename_i hd
      by_cases c : cntB d lo hi = true
      · simp [s_check_from, N_check_from, startD, denS, H1.ar, H1.orc, H1.dfl, den, k_is_count hd, c]
      · simp [s_check_from, N_check_from, startD, denS, H1.ar, H1.orc, H1.dfl, den, k_is_count hd, c, hM]
    · simp
  · simp
theorem k_check_from {d : D} {lo hi : Int} {h : Hd} (hd : d.dat = true) : callD (pureF g_check_from) [d, .int lo, .int hi] h = if cntB d lo hi = true then .ok .non h else .ex xM h := by
  by_cases c : cntB d lo hi = true
  · rw [if_pos c]
    exact call_pure (r := .v .non) (by simp [g_check_from, hd, c]) (by simp [D.flats, dat_flat hd, D.flat]) rfl
  · rw [if_neg c]
    exact call_pure (r := .x xM) (by simp [g_check_from, hd, c]) (by simp [D.flats, dat_flat hd, D.flat]) rfl
/-! ### shares -/
def sharesF (a b x y u v : Int) : Int × Int × Int :=
  if h : 0 < b then sharesF b (a % b) u v (x - a / b * u) (y - a / b * v) else (a, x, y)
termination_by b.toNat
decreasing_by
  have := Int.emod_lt_of_pos a h
  have := Int.emod_nonneg a (Int.ne_of_gt h)
  omega
abbrev shD (r : Int × Int × Int) : D := .tup [.int r.1, .int r.2.1, .int r.2.2]
theorem shares_loop {t : Rt} (n : Nat) : ∀ (a b x y u v : Int) (o : Option D) (h : Hd), b.toNat ≤ n → 0 ≤ a → a < 2 ^ 63 → 0 ≤ b → b < 2 ^ 63 → ∃ b' u' v' o',
    denS t w_shares_of_2 none [some (.int a), some (.int b), some (.int x), some (.int y), some (.int u), some (.int v), o] h =
    .nx [some (.int (sharesF a b x y u v).1), b', some (.int (sharesF a b x y u v).2.1), some (.int (sharesF a b x y u v).2.2), u', v', o'] h := by
  induction n with
  | zero =>
    intro a b x y u v o h hn ha ha2 hb hb2
    have b0 : b = 0 := by omega
    subst b0
    have e : sharesF a 0 x y u v = (a, x, y) := by rw [sharesF]; simp
    rw [e, un_w_shares_of_2]
    simp [den]
  | succ n ih =>
    intro a b x y u v o h hn ha ha2 hb hb2
    by_cases p : 0 < b
    · have e : sharesF a b x y u v = sharesF b (a % b) u v (x - a / b * u) (y - a / b * v) := by rw [sharesF]; simp [p]
      have l1 := Int.emod_lt_of_pos a p
      have l2 := Int.emod_nonneg a (Int.ne_of_gt p)
      have l3 := Int.ediv_nonneg ha (Int.le_of_lt p)
      have l4 : a / b ≤ a := Int.ediv_le_self b ha
      have q1 : ∀ h, binD .FloorDiv (.int a) (.int b) h = .ok (.int (a / b)) h := fun h => bin_div (divB_of p hb2)
      have q2 : ∀ z h, binD .Mult (.int (a / b)) (.int z) h = .ok (.int (a / b * z)) h := fun z h => bin_mul (mulB_l (by omega))
      have q3 : a - a / b * b = a % b := by have := Int.emod_def a b; rw [Int.mul_comm] at this; omega
      obtain ⟨b', u', v', o', z⟩ := ih b (a % b) u v (x - a / b * u) (y - a / b * v) (some (.int (a / b))) h (by omega) (by omega) hb2 l2 (by omega)
      refine ⟨b', u', v', o', ?_⟩
      rw [e, un_w_shares_of_2]
      simp [b_shares_of_1, den, denS, p, q1, q2, szB_le, q3, z]
    · have b0 : b = 0 := by omega
      subst b0
      have e : sharesF a 0 x y u v = (a, x, y) := by rw [sharesF]; simp
      rw [e, un_w_shares_of_2]
      simp [den]
def g_shares_of : List D → Rs
  | [.int a, .int b] => if 0 ≤ a ∧ a < 2 ^ 63 ∧ 0 ≤ b ∧ b < 2 ^ 63 then .v (shD (sharesF a b 1 0 0 1)) else .b
  | _ => .b
theorem d_shares_of {t : Rt} (ds : List D) : Does0 t s_shares_of N_shares_of g_shares_of ds := by
  unfold Does0 g_shares_of
  split
  · rename_i a b
    split
    · rename_i c
      obtain ⟨c1, c2, c3, c4⟩ := c
      obtain ⟨b', u', v', o', z⟩ := shares_loop (t := t) b.toNat a b 1 0 0 1 none [] (Nat.le_refl _) c1 c2 c3 c4
      simp only [s_shares_of, N_shares_of]
      simp [startD, denS, den, szB_le, z]
    · simp
  · simp
theorem k_shares_of {a b : Int} {h : Hd} (h1 : 0 ≤ a) (h2 : a < 2 ^ 63) (h3 : 0 ≤ b) (h4 : b < 2 ^ 63) : callD (pureF g_shares_of) [.int a, .int b] h = .ok (shD (sharesF a b 1 0 0 1)) h :=
  call_pure (r := .v (shD (sharesF a b 1 0 0 1))) (by simp only [g_shares_of, h1, h2, h3, h4, and_self, if_true]) rfl rfl
/-! ### rests -/
def backF (a n : Int) : Option Int := if (sharesF (a % n) n 1 0 0 1).1 = 1 then some ((sharesF (a % n) n 1 0 0 1).2.1 % n) else none
def optD : Option Int → D
  | none => .non
  | some i => .int i
theorem optD_flat (o : Option Int) : (optD o).flat = true := by cases o <;> rfl
def g_back_rest : List D → Rs
  | [.int a, .int n] => if 0 < n ∧ n < 2 ^ 63 then .v (optD (backF a n)) else .b
  | _ => .b
theorem d_back_rest {t : Rt} (H1 : Has t "shares_of" 2 (pureF g_shares_of)) (ds : List D) : Does0 t s_back_rest N_back_rest g_back_rest ds := by
  unfold Does0 g_back_rest
  split
  · rename_i a n
    split
    · rename_i c
      obtain ⟨c1, c2⟩ := c
      have l1 := Int.emod_lt_of_pos a c1
      have l2 := Int.emod_nonneg a (Int.ne_of_gt c1)
      have k1 : ∀ h, callD (pureF g_shares_of) [.int (a % n), .int n] h = .ok (shD (sharesF (a % n) n 1 0 0 1)) h := fun h => k_shares_of l2 (by omega) (by omega) c2
      have q1 : ∀ x h, binD .Mod (.int x) (.int n) h = .ok (.int (x % n)) h := fun x h => bin_mod c1
      by_cases e : (sharesF (a % n) n 1 0 0 1).1 = 1
      · simp [s_back_rest, N_back_rest, startD, denS, den, H1.ar, H1.orc, H1.dfl, k1, q1, backF, e, optD]
      · simp [s_back_rest, N_back_rest, startD, denS, den, H1.ar, H1.orc, H1.dfl, k1, q1, backF, e, optD]
    · simp
  · simp
theorem k_back_rest {a n : Int} {h : Hd} (h1 : 0 < n) (h2 : n < 2 ^ 63) : callD (pureF g_back_rest) [.int a, .int n] h = .ok (optD (backF a n)) h :=
  call_pure (r := .v (optD (backF a n))) (by simp only [g_back_rest, h1, h2, and_self, if_true]) rfl (optD_flat _)
/-! ### rings -/
def oddB : D → Bool
  | .int i => decide (i % 2 = 1)
  | _ => false
def ringB (d n : D) : Bool := cntB d (-1000000) 1000000 && (cntB n 3 1000000000000000 && oddB n)
theorem cntB_int {i lo hi : Int} : cntB (.int i) lo hi = (decide (lo ≤ i) && decide (i ≤ hi)) := rfl
def g_check_ring : List D → Rs
  | [d, n] => if d.dat = true ∧ n.dat = true then (if ringB d n = true then .v .non else .x xM) else .b
  | _ => .b
theorem d_check_ring {t : Rt} (H1 : Has t "is_integer" 1 (pureF g_is_integer)) (H2 : Has t "check_from" 3 (pureF g_check_from)) (hM : t.exf "Malformed" = some none) (g1 : t.glob "MOST" = some (.int 1000000000000000)) (g2 : t.glob "MOST_D" = some (.int 1000000)) (ds : List D) : Does0 t s_check_ring N_check_ring g_check_ring ds := by
  unfold Does0 g_check_ring
  split
  · rename_i d n
    split
    · rename_i c
      obtain ⟨c1, c2⟩ := c
      have k1 : ∀ h, callD (pureF g_is_integer) [d] h = .ok (.bl (isI d)) h := fun h => k_is_integer c1
      have k2 : ∀ lo hi h, callD (pureF g_check_from) [n, .int lo, .int hi] h = if cntB n lo hi = true then .ok .non h else .ex xM h := fun lo hi h => k_check_from c2
      by_cases e1 : cntB d (-1000000) 1000000 = true
      · cases d with
        | int i =>
          rw [cntB_int] at e1
          simp only [Bool.and_eq_true, decide_eq_true_eq] at e1
          have e2 : ¬ (1000000 < if i < 0 then -i else i) := by split <;> omega
          by_cases e3 : cntB n 3 1000000000000000 = true
          · cases n with
            | int j =>
              have q1 : ∀ h, binD .Mod (.int j) (.int 2) h = .ok (.int (j % 2)) h := fun h => bin_mod (by decide)
              by_cases e4 : j % 2 = 1
              · simp [s_check_ring, N_check_ring, startD, denS, den, H1.ar, H1.orc, H1.dfl, H2.ar, H2.orc, H2.dfl, k1, k2, g1, g2, isI, e2, e3, q1, e4, ringB, cntB_int, e1, oddB]
              · have e5 : j % 2 = 0 := by omega
                simp [s_check_ring, N_check_ring, startD, denS, den, H1.ar, H1.orc, H1.dfl, H2.ar, H2.orc, H2.dfl, k1, k2, g1, g2, isI, e2, e3, q1, e5, ringB, cntB_int, e1, oddB, hM]
            | _ => cases e3
          · simp [s_check_ring, N_check_ring, startD, denS, den, H1.ar, H1.orc, H1.dfl, H2.ar, H2.orc, H2.dfl, k1, k2, g1, g2, isI, e2, e3, ringB]
        | _ => cases e1
      · cases d with
        | int i =>
          rw [cntB_int] at e1
          simp only [Bool.and_eq_true, decide_eq_true_eq] at e1
          have e2 : (1000000 < if i < 0 then -i else i) := by split <;> omega
          simp [s_check_ring, N_check_ring, startD, denS, den, H1.ar, H1.orc, H1.dfl, k1, g1, g2, isI, e2, ringB, hM, cntB_int, e1]
        | _ => simp [s_check_ring, N_check_ring, startD, denS, den, H1.ar, H1.orc, H1.dfl, k1, g1, g2, isI, ringB, hM, cntB]
    · simp
  · simp
theorem k_check_ring {d n : D} {h : Hd} (h1 : d.dat = true) (h2 : n.dat = true) : callD (pureF g_check_ring) [d, n] h = if ringB d n = true then .ok .non h else .ex xM h := by
  by_cases c : ringB d n = true
  · rw [if_pos c]
    exact call_pure (r := .v .non) (by simp [g_check_ring, h1, h2, c]) (by simp [D.flats, dat_flat h1, dat_flat h2]) rfl
  · rw [if_neg c]
    exact call_pure (r := .x xM) (by simp [g_check_ring, h1, h2, c]) (by simp [D.flats, dat_flat h1, dat_flat h2]) rfl
/-- a member of the ring -/
def memB (n v : D) : Bool := match n, v with
  | .int m, .tup [x, y] => cntB x 0 (m - 1) && cntB y 0 (m - 1)
  | _, _ => false
def vOk (v : D) : Bool := v.dat && (match v with
  | .tup ds => ds.all D.dat
  | _ => true)
theorem vOk_dat {v : D} (h : vOk v = true) : v.dat = true := (and3 h).1
def g_is_member : List D → Rs
  | [d, n, v] => if d.dat = true ∧ n.dat = true ∧ vOk v = true then (if ringB d n = true then .v (.bl (memB n v)) else .x xM) else .b
  | _ => .b
theorem d_is_member {t : Rt} (H1 : Has t "check_ring" 2 (pureF g_check_ring)) (H2 : Has t "is_count" 3 (pureF g_is_count)) (ds : List D) : Does0 t s_is_member N_is_member g_is_member ds := by
  unfold Does0 g_is_member
  split
  · rename_i d n v
    split
    · rename_i c
      obtain ⟨c1, c2, c3⟩ := c
      have k1 : ∀ h, callD (pureF g_check_ring) [d, n] h = if ringB d n = true then .ok .non h else .ex xM h := fun h => k_check_ring c1 c2
      by_cases e1 : ringB d n = true
      · have hi : ∀ h, isiD .tuple v h = some (isT .tuple v) := fun h => isiD_dat (vOk_dat c3)
        have hn : ∃ m, n = .int m := by
          cases n with
          | int m => exact ⟨m, rfl⟩
          | _ => unfold ringB at e1; simp [cntB] at e1
        obtain ⟨m, rfl⟩ := hn
        cases v with
        | tup vs =>
          rcases vs with _ | ⟨x, _ | ⟨y, _ | ⟨z, vs⟩⟩⟩
          · simp [s_is_member, N_is_member, startD, denS, den, H1.ar, H1.orc, H1.dfl, k1, e1, hi, isT, memB]
          · simp [s_is_member, N_is_member, startD, denS, den, H1.ar, H1.orc, H1.dfl, k1, e1, hi, isT, memB]
          · obtain ⟨_, c4⟩ := and3 c3
            simp only [List.all_cons, List.all_nil, Bool.and_true, Bool.and_eq_true] at c4
            have k2 : ∀ lo hi h, callD (pureF g_is_count) [x, .int lo, .int hi] h = .ok (.bl (cntB x lo hi)) h := fun lo hi h => k_is_count c4.1
            have k3 : ∀ lo hi h, callD (pureF g_is_count) [y, .int lo, .int hi] h = .ok (.bl (cntB y lo hi)) h := fun lo hi h => k_is_count c4.2
            have sz : (0 : Nat) < sizeLine ∧ (1 : Nat) < sizeLine := by rw [sizeLine_eq]; decide
            simp [s_is_member, N_is_member, startD, denS, den, H1.ar, H1.orc, H1.dfl, H2.ar, H2.orc, H2.dfl, k1, k2, k3, e1, hi, isT, memB, c_is_member_1, seqI, lcLoop, wipeD, biD, blsD, sz]
          · have hl : ((vs.length : Int) + 1 + 1 + 1 == 2) = false := by
              rw [beq_eq_false_iff_ne]
              omega
            simp [s_is_member, N_is_member, startD, denS, den, H1.ar, H1.orc, H1.dfl, k1, e1, hi, isT, memB, hl]
        | _ => simp [s_is_member, N_is_member, startD, denS, den, H1.ar, H1.orc, H1.dfl, k1, e1, hi, isT, memB]
      · simp [s_is_member, N_is_member, startD, denS, den, H1.ar, H1.orc, H1.dfl, k1, e1]
    · simp
  · simp
theorem ring_inv {d n : D} (h : ringB d n = true) : ∃ i m : Int, d = .int i ∧ n = .int m ∧ -1000000 ≤ i ∧ i ≤ 1000000 ∧ 3 ≤ m ∧ m ≤ 1000000000000000 ∧ m % 2 = 1 := by
  unfold ringB at h
  obtain ⟨h1, h⟩ := and3 h
  obtain ⟨h2, h3⟩ := and3 h
  cases d with
  | int i =>
    cases n with
    | int m =>
      simp only [cntB_int, Bool.and_eq_true, decide_eq_true_eq] at h1 h2
      exact ⟨i, m, rfl, rfl, h1.1, h1.2, h2.1, h2.2, of_decide_eq_true h3⟩
    | _ => cases h2
  | _ => cases h1
abbrev prD (p : Int × Int) : D := .tup [.int p.1, .int p.2]
theorem mem_inv {m : Int} {v : D} (h : memB (.int m) v = true) : ∃ a b : Int, v = prD (a, b) ∧ 0 ≤ a ∧ a ≤ m - 1 ∧ 0 ≤ b ∧ b ≤ m - 1 := by
  unfold memB at h
  split at h
  · rename_i m' x y e
    cases e
    obtain ⟨h1, h2⟩ := and3 h
    cases x with
    | int a =>
      cases y with
      | int b =>
        simp only [cntB_int, Bool.and_eq_true, decide_eq_true_eq] at h1 h2
        exact ⟨a, b, rfl, h1.1, h1.2, h2.1, h2.2⟩
      | _ => cases h2
    | _ => cases h1
  · cases h
theorem k_is_member {d n v : D} {h : Hd} (h1 : d.dat = true) (h2 : n.dat = true) (h3 : vOk v = true) : callD (pureF g_is_member) [d, n, v] h = if ringB d n = true then .ok (.bl (memB n v)) h else .ex xM h := by
  by_cases c : ringB d n = true
  · rw [if_pos c]
    exact call_pure (r := .v (.bl (memB n v))) (by simp [g_is_member, h1, h2, h3, c]) (by simp [D.flats, dat_flat h1, dat_flat h2, dat_flat (vOk_dat h3)]) rfl
  · rw [if_neg c]
    exact call_pure (r := .x xM) (by simp [g_is_member, h1, h2, h3, c]) (by simp [D.flats, dat_flat h1, dat_flat h2, dat_flat (vOk_dat h3)]) rfl
/-- d, n, v are as they should be -/
def rmB (d n v : D) : Bool := ringB d n && memB n v
def g_check_member : List D → Rs
  | [d, n, v] => if d.dat = true ∧ n.dat = true ∧ vOk v = true then (if rmB d n v = true then .v .non else .x xM) else .b
  | _ => .b
theorem d_check_member {t : Rt} (H1 : Has t "is_member" 3 (pureF g_is_member)) (hM : t.exf "Malformed" = some none) (ds : List D) : Does0 t s_check_member N_check_member g_check_member ds := by
  unfold Does0 g_check_member
  split
  · rename_i d n v
    split
    · rename_i c
      obtain ⟨c1, c2, c3⟩ := c
      have k1 : ∀ h, callD (pureF g_is_member) [d, n, v] h = if ringB d n = true then .ok (.bl (memB n v)) h else .ex xM h := fun h => k_is_member c1 c2 c3
      by_cases e1 : ringB d n = true <;> by_cases e2 : memB n v = true <;> simp [s_check_member, N_check_member, startD, denS, den, H1.ar, H1.orc, H1.dfl, k1, e1, e2, rmB, hM]
    · simp
  · simp
theorem k_check_member {d n v : D} {h : Hd} (h1 : d.dat = true) (h2 : n.dat = true) (h3 : vOk v = true) : callD (pureF g_check_member) [d, n, v] h = if rmB d n v = true then .ok .non h else .ex xM h := by
  by_cases c : rmB d n v = true
  · rw [if_pos c]
    exact call_pure (r := .v .non) (by simp [g_check_member, h1, h2, h3, c]) (by simp [D.flats, dat_flat h1, dat_flat h2, dat_flat (vOk_dat h3)]) rfl
  · rw [if_neg c]
    exact call_pure (r := .x xM) (by simp [g_check_member, h1, h2, h3, c]) (by simp [D.flats, dat_flat h1, dat_flat h2, dat_flat (vOk_dat h3)]) rfl
/-! ### products -/
abbrev S63 (i : Int) : Prop := -(2 ^ 63) < i ∧ i < 2 ^ 63
def mulP (d n : Int) (p q : Int × Int) : Int × Int := ((p.1 * q.1 + d * p.2 * q.2) % n, (p.1 * q.2 + p.2 * q.1) % n)
theorem S63_mul {i : Int} (h : S63 i) (j : Int) : ∀ hd, binD .Mult (.int i) (.int j) hd = .ok (.int (i * j)) hd := fun hd => bin_mul (mulB_l (by omega))
theorem S63_mulr {j : Int} (h : S63 j) (i : Int) : ∀ hd, binD .Mult (.int i) (.int j) hd = .ok (.int (i * j)) hd := fun hd => bin_mul (mulB_r (by omega))
def g_product_by : List D → Rs
  | [.int d, .int n, .tup [.int a, .int b], .tup [.int e, .int f]] => if 0 < n ∧ S63 d ∧ S63 a ∧ S63 b ∧ S63 e ∧ S63 f then .v (prD (mulP d n (a, b) (e, f))) else .b
  | _ => .b
theorem d_product_by {t : Rt} (ds : List D) : Does0 t s_product_by N_product_by g_product_by ds := by
  unfold Does0 g_product_by
  split
  · rename_i d n a b e f
    split
    · rename_i c
      obtain ⟨c0, c1, c2, c3, c4, c5⟩ := c
      have q1 : ∀ x h, binD .Mod (.int x) (.int n) h = .ok (.int (x % n)) h := fun x h => bin_mod c0
      simp [s_product_by, N_product_by, startD, denS, den, q1, S63_mul c1, S63_mul c2, S63_mul c3, S63_mulr c5, szB_le, mulP]
    · simp
  · simp
theorem k_product_by {d n : Int} {p q : Int × Int} {h : Hd} (h0 : 0 < n) (h1 : S63 d) (h2 : S63 p.1) (h3 : S63 p.2) (h4 : S63 q.1) (h5 : S63 q.2) : callD (pureF g_product_by) [.int d, .int n, prD p, prD q] h = .ok (prD (mulP d n p q)) h :=
  call_pure (r := .v (prD (mulP d n p q))) (if_pos ⟨h0, h1, h2, h3, h4, h5⟩) rfl rfl
def intOf : D → Int
  | .int i => i
  | _ => 0
def pairOf : D → Int × Int
  | .tup [.int a, .int b] => (a, b)
  | _ => (0, 0)
def g_ring_product : List D → Rs
  | [d, n, p, q] => if d.dat = true ∧ n.dat = true ∧ vOk p = true ∧ vOk q = true then (if rmB d n p = true ∧ rmB d n q = true then .v (prD (mulP (intOf d) (intOf n) (pairOf p) (pairOf q))) else .x xM) else .b
  | _ => .b
theorem rm_inv {d n v : D} (h : rmB d n v = true) : ∃ i m a b : Int, d = .int i ∧ n = .int m ∧ v = prD (a, b) ∧ S63 i ∧ 3 ≤ m ∧ m ≤ 1000000000000000 ∧ m % 2 = 1 ∧ S63 a ∧ S63 b ∧ 0 ≤ a ∧ a < m ∧ 0 ≤ b ∧ b < m := by
  obtain ⟨h1, h2⟩ := and3 (show (ringB d n && memB n v) = true from h)
  obtain ⟨i, m, rfl, rfl, a1, a2, a3, a4, a5⟩ := ring_inv h1
  obtain ⟨a, b, rfl, b1, b2, b3, b4⟩ := mem_inv h2
  exact ⟨i, m, a, b, rfl, rfl, rfl, ⟨by omega, by omega⟩, a3, a4, a5, ⟨by omega, by omega⟩, ⟨by omega, by omega⟩, b1, by omega, b3, by omega⟩
theorem d_ring_product {t : Rt} (H1 : Has t "check_member" 3 (pureF g_check_member)) (H2 : Has t "product_by" 4 (pureF g_product_by)) (ds : List D) : Does0 t s_ring_product N_ring_product g_ring_product ds := by
  unfold Does0 g_ring_product
  split
  · rename_i d n p q
    split
    · rename_i c
      obtain ⟨c1, c2, c3, c4⟩ := c
      have k1 : ∀ h, callD (pureF g_check_member) [d, n, p] h = if rmB d n p = true then .ok .non h else .ex xM h := fun h => k_check_member c1 c2 c3
      have k2 : ∀ h, callD (pureF g_check_member) [d, n, q] h = if rmB d n q = true then .ok .non h else .ex xM h := fun h => k_check_member c1 c2 c4
      by_cases e1 : rmB d n p = true
      · by_cases e2 : rmB d n q = true
        · obtain ⟨i, m, a, b, rfl, rfl, rfl, z1, z2, z3, z4, z5, z6, _⟩ := rm_inv e1
          obtain ⟨i', m', a', b', e3, e4, rfl, y1, y2, y3, y4, y5, y6, _⟩ := rm_inv e2
          have k3 : ∀ h, callD (pureF g_product_by) [.int i, .int m, .tup [.int a, .int b], .tup [.int a', .int b']] h = .ok (prD (mulP i m (a, b) (a', b'))) h := fun h => k_product_by (p := (a, b)) (q := (a', b')) (by omega) z1 z5 z6 y5 y6
          simp [s_ring_product, N_ring_product, startD, denS, den, H1.ar, H1.orc, H1.dfl, H2.ar, H2.orc, H2.dfl, k1, k2, k3, e1, e2, intOf, pairOf]
        · simp [s_ring_product, N_ring_product, startD, denS, den, H1.ar, H1.orc, H1.dfl, H2.ar, H2.orc, H2.dfl, k1, k2, e1, e2]
      · simp [s_ring_product, N_ring_product, startD, denS, den, H1.ar, H1.orc, H1.dfl, H2.ar, H2.orc, H2.dfl, k1, k2, e1]
    · simp
  · simp
/-! ### powers -/
def powF (d n : Int) (f o : Int × Int) (k : Nat) : Int × Int :=
  if h : k = 0 then f else powF d n (if k % 2 = 1 then mulP d n f o else f) (mulP d n o o) (k / 2)
termination_by k
decreasing_by omega
theorem mulP_S {d n : Int} {p q : Int × Int} (h0 : 0 < n) (h1 : n < 2 ^ 63) : S63 (mulP d n p q).1 ∧ S63 (mulP d n p q).2 := by
  unfold mulP
  simp only
  have a1 := Int.emod_lt_of_pos (p.1 * q.1 + d * p.2 * q.2) h0
  have a2 := Int.emod_nonneg (p.1 * q.1 + d * p.2 * q.2) (Int.ne_of_gt h0)
  have b1 := Int.emod_lt_of_pos (p.1 * q.2 + p.2 * q.1) h0
  have b2 := Int.emod_nonneg (p.1 * q.2 + p.2 * q.1) (Int.ne_of_gt h0)
  exact ⟨⟨by omega, by omega⟩, ⟨by omega, by omega⟩⟩
theorem pow_body {t : Rt} (H1 : Has t "product_by" 4 (pureF g_product_by)) {d n k : Int} (h0 : 0 < n) (hd : S63 d) {x2 : Option D} {f o : Int × Int} {h : Hd} (f1 : S63 f.1) (f2 : S63 f.2) (o1 : S63 o.1) (o2 : S63 o.2) :
    denS t b_power_by_1 none [some (.int d), some (.int n), x2, some (.int k), some (prD f), some (prD o)] h = .nx [some (.int d), some (.int n), x2, some (.int (k / 2)), some (prD (if k % 2 = 1 then mulP d n f o else f)), some (prD (mulP d n o o))] h := by
  have q1 : ∀ h, binD .Mod (.int k) (.int 2) h = .ok (.int (k % 2)) h := fun h => bin_mod (by decide)
  have q2 : ∀ h, binD .FloorDiv (.int k) (.int 2) h = .ok (.int (k / 2)) h := fun h => bin_div (divB_of (by decide) (by decide))
  have k1 : ∀ h, callD (pureF g_product_by) [.int d, .int n, prD f, prD o] h = .ok (prD (mulP d n f o)) h := fun h => k_product_by h0 hd f1 f2 o1 o2
  have k2 : ∀ h, callD (pureF g_product_by) [.int d, .int n, prD o, prD o] h = .ok (prD (mulP d n o o)) h := fun h => k_product_by h0 hd o1 o2 o1 o2
  by_cases e : k % 2 = 1
  · rw [if_pos e]
    generalize prD f = F at *
    generalize prD o = O at *
    generalize prD (mulP d n o o) = OO at *
    generalize mulP d n f o = P at *
    simp [b_power_by_1, den, denS, q1, q2, e, H1.ar, H1.orc, H1.dfl, k1, k2, szB_le]
  · rw [if_neg e]
    generalize prD f = F at *
    generalize prD o = O at *
    generalize prD (mulP d n o o) = OO at *
    simp [b_power_by_1, den, denS, q1, q2, e, H1.ar, H1.orc, H1.dfl, k1, k2, szB_le]
theorem pow_loop {t : Rt} (H1 : Has t "product_by" 4 (pureF g_product_by)) {d n : Int} (h0 : 0 < n) (hn : n < 2 ^ 63) (hd : S63 d) (x2 : Option D) (K : Nat) : ∀ (k : Nat) (f o : Int × Int) (h : Hd), k ≤ K → S63 f.1 → S63 f.2 → S63 o.1 → S63 o.2 → ∃ o' k',
    denS t w_power_by_2 none [some (.int d), some (.int n), x2, some (.int k), some (prD f), some (prD o)] h = .nx [some (.int d), some (.int n), x2, k', some (prD (powF d n f o k)), o'] h := by
  induction K with
  | zero =>
    intro k f o h hk _ _ _ _
    have k0 : k = 0 := by omega
    subst k0
    rw [un_w_power_by_2, powF]
    exact ⟨_, _, rfl⟩
  | succ K ih =>
    intro k f o h hk f1 f2 o1 o2
    rw [un_w_power_by_2, powF]
    by_cases p : k = 0
    · subst p
      exact ⟨_, _, rfl⟩
    · have p' : (0 : Int) < (k : Int) := by omega
      obtain ⟨s1, s2⟩ := mulP_S (d := d) (p := o) (q := o) h0 hn
      obtain ⟨s3, s4⟩ := mulP_S (d := d) (p := f) (q := o) h0 hn
      have tst : tstD (den t (.cmp .Gt (.var 3) (.int 0)) [some (.int d), some (.int n), x2, some (.int k), some (prD f), some (prD o)] h) = .ok true h := by
        simp [den]
        omega
      rw [tst, dif_neg p]
      simp only
      rw [pow_body H1 h0 hd f1 f2 o1 o2]
      simp only
      have e2 : ((k : Int) / 2) = ((k / 2 : Nat) : Int) := by omega
      have e3 : (if (k : Int) % 2 = 1 then mulP d n f o else f) = (if k % 2 = 1 then mulP d n f o else f) := by
        by_cases e : k % 2 = 1
        · rw [if_pos e, if_pos (by omega)]
        · rw [if_neg e, if_neg (by omega)]
      rw [e2, e3]
      refine ih (k / 2) _ _ h (by omega) ?_ ?_ s1 s2
      · by_cases e : k % 2 = 1
        · rw [if_pos e]; exact s3
        · rw [if_neg e]; exact f1
      · by_cases e : k % 2 = 1
        · rw [if_pos e]; exact s4
        · rw [if_neg e]; exact f2
def g_power_by : List D → Rs
  | [.int d, .int n, .tup [.int a, .int b], .int k] => if 0 < n ∧ n < 2 ^ 63 ∧ S63 d ∧ S63 a ∧ S63 b ∧ 0 ≤ k ∧ k < 2 ^ 63 then .v (prD (powF d n (1 % n, 0) (a, b) k.toNat)) else .b
  | _ => .b
theorem d_power_by {t : Rt} (H1 : Has t "product_by" 4 (pureF g_product_by)) (ds : List D) : Does0 t s_power_by N_power_by g_power_by ds := by
  unfold Does0 g_power_by
  split
  · rename_i d n a b k
    split
    · rename_i c
      obtain ⟨c0, c00, c1, c2, c3, c4, c5⟩ := c
      have q1 : ∀ x h, binD .Mod (.int x) (.int n) h = .ok (.int (x % n)) h := fun x h => bin_mod c0
      have l1 := Int.emod_lt_of_pos 1 c0
      have l2 := Int.emod_nonneg 1 (Int.ne_of_gt c0)
      obtain ⟨o', k', z⟩ := pow_loop (t := t) H1 c0 c00 c1 (some (.tup [.int a, .int b])) k.toNat k.toNat (1 % n, 0) (a, b) [] (Nat.le_refl _) ⟨by show _ < 1 % n; omega, by show 1 % n < _; omega⟩ ⟨by show _ < (0 : Int); decide, by show (0 : Int) < _; decide⟩ c2 c3
      have ek : ((k.toNat : Nat) : Int) = k := by omega
      rw [ek] at z
      simp [s_power_by, N_power_by, startD, denS, den, q1, szB_le, z]
    · simp
  · simp
end K42

namespace K42
open PySem PySem.Spec PyProof.Rows L2 Ev
theorem k_power_by {d n k : Int} {p : Int × Int} {h : Hd} (h0 : 0 < n) (h1 : n < 2 ^ 63) (h2 : S63 d) (h3 : S63 p.1) (h4 : S63 p.2) (h5 : 0 ≤ k) (h6 : k < 2 ^ 63) : callD (pureF g_power_by) [.int d, .int n, prD p, .int k] h = .ok (prD (powF d n (1 % n, 0) p k.toNat)) h :=
  call_pure (r := .v (prD (powF d n (1 % n, 0) p k.toNat))) (if_pos ⟨h0, h1, h2, h3, h4, h5, h6⟩) rfl rfl
def g_ring_power : List D → Rs
  | [d, n, p, k] => if d.dat = true ∧ n.dat = true ∧ vOk p = true ∧ k.dat = true then (if rmB d n p = true ∧ cntB k 0 10000000000000000 = true then .v (prD (powF (intOf d) (intOf n) (1 % intOf n, 0) (pairOf p) (intOf k).toNat)) else .x xM) else .b
  | _ => .b
theorem d_ring_power {t : Rt} (H1 : Has t "check_member" 3 (pureF g_check_member)) (H2 : Has t "check_from" 3 (pureF g_check_from)) (H3 : Has t "power_by" 4 (pureF g_power_by)) (ds : List D) : Does0 t s_ring_power N_ring_power g_ring_power ds := by
  unfold Does0 g_ring_power
  split
  · rename_i d n p k
    split
    · rename_i c
      obtain ⟨c1, c2, c3, c4⟩ := c
      have k1 : ∀ h, callD (pureF g_check_member) [d, n, p] h = if rmB d n p = true then .ok .non h else .ex xM h := fun h => k_check_member c1 c2 c3
      have k2 : ∀ h, callD (pureF g_check_from) [k, .int 0, .int 10000000000000000] h = if cntB k 0 10000000000000000 = true then .ok .non h else .ex xM h := fun h => k_check_from c4
      by_cases e1 : rmB d n p = true
      · by_cases e2 : cntB k 0 10000000000000000 = true
        · obtain ⟨i, m, a, b, rfl, rfl, rfl, z1, z2, z3, z4, z5, z6, _⟩ := rm_inv e1
          cases k with
          | int k =>
            rw [cntB_int] at e2
            simp only [Bool.and_eq_true, decide_eq_true_eq] at e2
            have k3 : ∀ h, callD (pureF g_power_by) [.int i, .int m, .tup [.int a, .int b], .int k] h = .ok (prD (powF i m (1 % m, 0) (a, b) k.toNat)) h := fun h => k_power_by (p := (a, b)) (by omega) (by omega) z1 z5 z6 e2.1 (by omega)
            simp [s_ring_power, N_ring_power, startD, denS, den, H1.ar, H1.orc, H1.dfl, H2.ar, H2.orc, H2.dfl, H3.ar, H3.orc, H3.dfl, k1, k2, k3, e1, cntB_int, e2, intOf, pairOf]
          | _ => cases e2
        · simp [s_ring_power, N_ring_power, startD, denS, den, H1.ar, H1.orc, H1.dfl, H2.ar, H2.orc, H2.dfl, k1, k2, e1, e2]
      · simp [s_ring_power, N_ring_power, startD, denS, den, H1.ar, H1.orc, H1.dfl, k1, e1]
    · simp
  · simp
/-! ### norms, backs -/
def normP (d n : Int) (p : Int × Int) : Int := (p.1 * p.1 - d * p.2 * p.2) % n
def g_ring_norm : List D → Rs
  | [d, n, p] => if d.dat = true ∧ n.dat = true ∧ vOk p = true then (if rmB d n p = true then .v (.int (normP (intOf d) (intOf n) (pairOf p))) else .x xM) else .b
  | _ => .b
theorem d_ring_norm {t : Rt} (H1 : Has t "check_member" 3 (pureF g_check_member)) (ds : List D) : Does0 t s_ring_norm N_ring_norm g_ring_norm ds := by
  unfold Does0 g_ring_norm
  split
  · rename_i d n p
    split
    · rename_i c
      obtain ⟨c1, c2, c3⟩ := c
      have k1 : ∀ h, callD (pureF g_check_member) [d, n, p] h = if rmB d n p = true then .ok .non h else .ex xM h := fun h => k_check_member c1 c2 c3
      by_cases e1 : rmB d n p = true
      · obtain ⟨i, m, a, b, rfl, rfl, rfl, z1, z2, z3, z4, z5, z6, _⟩ := rm_inv e1
        have q1 : ∀ x h, binD .Mod (.int x) (.int m) h = .ok (.int (x % m)) h := fun x h => bin_mod (by omega)
        simp [s_ring_norm, N_ring_norm, startD, denS, den, H1.ar, H1.orc, H1.dfl, k1, e1, q1, S63_mul z1, S63_mul z5, S63_mulr z6, normP, intOf, pairOf]
      · simp [s_ring_norm, N_ring_norm, startD, denS, den, H1.ar, H1.orc, H1.dfl, k1, e1]
    · simp
  · simp
theorem k_ring_norm {d n p : D} {h : Hd} (h1 : d.dat = true) (h2 : n.dat = true) (h3 : vOk p = true) (c : rmB d n p = true) : callD (pureF g_ring_norm) [d, n, p] h = .ok (.int (normP (intOf d) (intOf n) (pairOf p))) h :=
  call_pure (r := .v (.int (normP (intOf d) (intOf n) (pairOf p)))) (by simp [g_ring_norm, h1, h2, h3, c]) (by simp [D.flats, dat_flat h1, dat_flat h2, dat_flat (vOk_dat h3)]) rfl
theorem back_range {a n k : Int} (h : 0 < n) (e : backF a n = some k) : 0 ≤ k ∧ k < n := by
  unfold backF at e
  split at e
  · cases e
    exact ⟨Int.emod_nonneg _ (Int.ne_of_gt h), Int.emod_lt_of_pos _ h⟩
  · cases e
def backP (d n : Int) (p : Int × Int) : Option (Int × Int) := (backF (normP d n p) n).map fun k => (p.1 * k % n, -p.2 * k % n)
def optP : Option (Int × Int) → D
  | none => .non
  | some p => prD p
def g_ring_back : List D → Rs
  | [d, n, p] => if d.dat = true ∧ n.dat = true ∧ vOk p = true then (if rmB d n p = true then .v (optP (backP (intOf d) (intOf n) (pairOf p))) else .x xM) else .b
  | _ => .b
theorem d_ring_back {t : Rt} (H1 : Has t "check_member" 3 (pureF g_check_member)) (H2 : Has t "back_rest" 2 (pureF g_back_rest)) (H3 : Has t "ring_norm" 3 (pureF g_ring_norm)) (ds : List D) : Does0 t s_ring_back N_ring_back g_ring_back ds := by
  unfold Does0 g_ring_back
  split
  · rename_i d n p
    split
    · rename_i c
      obtain ⟨c1, c2, c3⟩ := c
      have k1 : ∀ h, callD (pureF g_check_member) [d, n, p] h = if rmB d n p = true then .ok .non h else .ex xM h := fun h => k_check_member c1 c2 c3
      by_cases e1 : rmB d n p = true
      · have k3 : ∀ h, callD (pureF g_ring_norm) [d, n, p] h = .ok (.int (normP (intOf d) (intOf n) (pairOf p))) h := fun h => k_ring_norm c1 c2 c3 e1
        obtain ⟨i, m, a, b, rfl, rfl, rfl, z1, z2, z3, z4, z5, z6, _⟩ := rm_inv e1
        have k2 : ∀ x h, callD (pureF g_back_rest) [.int x, .int m] h = .ok (optD (backF x m)) h := fun x h => k_back_rest (by omega) (by omega)
        have q1 : ∀ x h, binD .Mod (.int x) (.int m) h = .ok (.int (x % m)) h := fun x h => bin_mod (by omega)
        have z7 : S63 (-b) := ⟨by omega, by omega⟩
        cases e : backF (normP i m (a, b)) m with
        | none => simp [s_ring_back, N_ring_back, startD, denS, den, H1.ar, H1.orc, H1.dfl, H2.ar, H2.orc, H2.dfl, H3.ar, H3.orc, H3.dfl, k1, k2, k3, e1, intOf, pairOf, backP, e, optD, optP]
        | some k => simp [s_ring_back, N_ring_back, startD, denS, den, H1.ar, H1.orc, H1.dfl, H2.ar, H2.orc, H2.dfl, H3.ar, H3.orc, H3.dfl, k1, k2, k3, e1, intOf, pairOf, backP, e, optD, optP, q1, S63_mul z5, S63_mul z7, szB_le]
      · simp [s_ring_back, N_ring_back, startD, denS, den, H1.ar, H1.orc, H1.dfl, k1, e1]
    · simp
  · simp
theorem k_ring_back {d n p : D} {h : Hd} (h1 : d.dat = true) (h2 : n.dat = true) (h3 : vOk p = true) : callD (pureF g_ring_back) [d, n, p] h = if rmB d n p = true then .ok (optP (backP (intOf d) (intOf n) (pairOf p))) h else .ex xM h := by
  by_cases c : rmB d n p = true
  · rw [if_pos c]
    exact call_pure (r := .v (optP (backP (intOf d) (intOf n) (pairOf p)))) (by simp [g_ring_back, h1, h2, h3, c]) (by simp [D.flats, dat_flat h1, dat_flat h2, dat_flat (vOk_dat h3)]) (by show (optP _).flat = true; cases backP (intOf d) (intOf n) (pairOf p) <;> rfl)
  · rw [if_neg c]
    exact call_pure (r := .x xM) (by simp [g_ring_back, h1, h2, h3, c]) (by simp [D.flats, dat_flat h1, dat_flat h2, dat_flat (vOk_dat h3)]) rfl
/-! ### circles -/
def circP (d n t : Int) : Option (Int × Int) := (backF (t * t - d) n).map fun k => ((t * t + d) * k % n, 2 * t * k % n)
def g_circle_member : List D → Rs
  | [d, n, t] => if d.dat = true ∧ n.dat = true ∧ t.dat = true then (if ringB d n = true ∧ cntB t 0 (intOf n - 1) = true then (match circP (intOf d) (intOf n) (intOf t) with
    | some p => .v (prD p)
    | none => .x (xR "share")) else .x xM) else .b
  | _ => .b
theorem d_circle_member {t : Rt} (H1 : Has t "check_ring" 2 (pureF g_check_ring)) (H2 : Has t "check_from" 3 (pureF g_check_from)) (H3 : Has t "back_rest" 2 (pureF g_back_rest)) (hR : t.exf "Refused" = some (some ("reason" : Str))) (ds : List D) : Does0 t s_circle_member N_circle_member g_circle_member ds := by
  unfold Does0 g_circle_member
  split
  · rename_i d n x
    split
    · rename_i c
      obtain ⟨c1, c2, c3⟩ := c
      have k1 : ∀ h, callD (pureF g_check_ring) [d, n] h = if ringB d n = true then .ok .non h else .ex xM h := fun h => k_check_ring c1 c2
      have k2 : ∀ lo hi h, callD (pureF g_check_from) [x, .int lo, .int hi] h = if cntB x lo hi = true then .ok .non h else .ex xM h := fun lo hi h => k_check_from c3
      by_cases e1 : ringB d n = true
      · obtain ⟨i, m, rfl, rfl, a1, a2, a3, a4, a5⟩ := ring_inv e1
        by_cases e2 : cntB x 0 (m - 1) = true
        · cases x with
          | int x =>
            have e2' := e2
            rw [cntB_int] at e2'
            simp only [Bool.and_eq_true, decide_eq_true_eq] at e2'
            have k3 : ∀ x h, callD (pureF g_back_rest) [.int x, .int m] h = .ok (optD (backF x m)) h := fun x h => k_back_rest (by omega) (by omega)
            have q1 : ∀ x h, binD .Mod (.int x) (.int m) h = .ok (.int (x % m)) h := fun x h => bin_mod (by omega)
            have zx : S63 x := ⟨by omega, by omega⟩
            have z2 : S63 2 := ⟨by decide, by decide⟩
            cases e : backF (x * x - i) m with
            | none => simp [s_circle_member, N_circle_member, startD, denS, den, H1.ar, H1.orc, H1.dfl, H2.ar, H2.orc, H2.dfl, H3.ar, H3.orc, H3.dfl, k1, k2, k3, e1, e2, intOf, circP, e, optD, S63_mul zx, hR]
            | some k =>
              obtain ⟨b1, b2⟩ := back_range (by omega) e
              have zk : S63 k := ⟨by omega, by omega⟩
              simp [s_circle_member, N_circle_member, startD, denS, den, H1.ar, H1.orc, H1.dfl, H2.ar, H2.orc, H2.dfl, H3.ar, H3.orc, H3.dfl, k1, k2, k3, e1, e2, intOf, circP, e, optD, S63_mul zx, S63_mulr zx, S63_mulr zk, q1, szB_le]
          | _ => cases e2
        · simp [s_circle_member, N_circle_member, startD, denS, den, H1.ar, H1.orc, H1.dfl, H2.ar, H2.orc, H2.dfl, k1, k2, e1, e2, intOf]
      · simp [s_circle_member, N_circle_member, startD, denS, den, H1.ar, H1.orc, H1.dfl, k1, e1]
    · simp
  · simp
/-! ### members of a norm -/
def okV (d n c : Int) (u v : Nat) : Bool := ((u : Int) * (u : Int) - d * (v : Int) * (v : Int) - c) % n == 0
def memL (d n c : Int) : List (Int × Int) := (List.range n.toNat).flatMap fun (u : Nat) => ((List.range n.toNat).filter (okV d n c u)).map fun (v : Nat) => ((u : Int), (v : Int))
def g_members_of_norm : List D → Rs
  | [d, n, c] => if d.dat = true ∧ n.dat = true ∧ c.dat = true then (if ringB d n = true ∧ cntB n 3 200 = true ∧ cntB c 0 (intOf n - 1) = true then .v (.tup ((memL (intOf d) (intOf n) (intOf c)).map prD)) else .x xM) else .b
  | _ => .b
theorem flats_map {α : Type} {f : α → D} (h : ∀ a, (f a).flat = true) : ∀ l : List α, D.flats (l.map f) = true
  | [] => rfl
  | a :: l => by
    show ((f a).flat && D.flats (l.map f)) = true
    rw [h a, flats_map h l]
    rfl
theorem members_lc {t : Rt} {d n c : Int} (hn : 3 ≤ n) (hn2 : n ≤ 200) (hd : S63 d) {h : Hd} : den t c_members_of_norm_1 [some (.int d), some (.int n), some (.int c), none, none] h = .ok (.loc h.length) (h ++ [.lst ((memL d n c).map prD)]) := by
  have q1 : ∀ x h, binD .Mod (.int x) (.int n) h = .ok (.int (x % n)) h := fun x h => bin_mod (by omega)
  have sm : small62 n = true := by unfold small62; simp; omega
  have it : ∀ a b h, den t (.itR (.cons (.var 1) .nil)) [some (.int d), some (.int n), some (.int c), a, b] h = .ok (.tup [.tup (rngD 0 n.toNat), .non]) h := fun a b h => by
    simp [den, rngI, sm]
  have inner : ∀ (u : Nat) (h : Hd) (acc : List D), u < n.toNat → acc.length + n.toNat ≤ 1000000 → lcIn (.n 4) [4] (den t (.itR (.cons (.var 1) .nil))) (fun σ h => tstD (den t (.cmp .Eq (.bin .Mod (.bin .Sub (.bin .Sub (.bin .Mult (.var 3) (.var 3)) (.bin .Mult (.bin .Mult (.var 0) (.var 4)) (.var 4))) (.var 2)) (.var 1)) (.int 0)) σ h)) (den t (.tup (.cons (.var 3) (.cons (.var 4) .nil))))
      [some (.int d), some (.int n), some (.int c), some (.int u), none] acc h = .ok (acc ++ ((List.range n.toNat).filter (okV d n c u)).map fun (v : Nat) => prD ((u : Int), (v : Int))) h := by
    intro u h acc hu hl
    unfold lcIn
    rw [it]
    simp only
    have zu : S63 (u : Int) := ⟨by omega, by omega⟩
    rw [lc_pure (p := fun d' => okV d n c u (intOf d').toNat) (f := fun d' => prD ((u : Int), ((intOf d').toNat : Int)))]
    · have e : ((rngD 0 n.toNat).filter fun d' => okV d n c u (intOf d').toNat).map (fun d' => prD ((u : Int), ((intOf d').toNat : Int))) = ((List.range n.toNat).filter (okV d n c u)).map fun (v : Nat) => prD ((u : Int), (v : Int)) := by
        unfold rngD
        rw [List.filter_map, List.map_map]
        have e1 : ((fun d' => okV d n c u (intOf d').toNat) ∘ fun (i : Nat) => D.int (0 + (i : Int))) = okV d n c u := by
          funext v
          simp [intOf]
        rw [e1]
        exact List.map_congr_left fun v _ => by simp [intOf]
      rw [e]
    · intro d' hd'
      obtain ⟨v, hv, rfl⟩ := List.mem_map.mp hd'
      have hv := List.mem_range.mp hv
      have zv : S63 (v : Int) := ⟨by omega, by omega⟩
      refine ⟨[some (.int d), some (.int n), some (.int c), some (.int u), some (.int (0 + (v : Int)))], rfl, ?_, fun _ => ?_⟩
      · simp [den, q1, S63_mul zu, S63_mul hd, S63_mulr zv, intOf, okV]
      · simp [den, szB_le, intOf]
    · rw [rng_len]; exact hl
  have outer : lcLoop2 (.n 3) [3, 4] (fun σ h => tstD (den t (.bl true) σ h)) (lcIn (.n 4) [4] (den t (.itR (.cons (.var 1) .nil))) (fun σ h => tstD (den t (.cmp .Eq (.bin .Mod (.bin .Sub (.bin .Sub (.bin .Mult (.var 3) (.var 3)) (.bin .Mult (.bin .Mult (.var 0) (.var 4)) (.var 4))) (.var 2)) (.var 1)) (.int 0)) σ h)) (den t (.tup (.cons (.var 3) (.cons (.var 4) .nil)))))
      .non (rngD 0 n.toNat) (rngD 0 n.toNat) [some (.int d), some (.int n), some (.int c), none, none] [] h = .ok ([] ++ (rngD 0 n.toNat).flatMap fun d' => ((List.range n.toNat).filter (okV d n c (intOf d').toNat)).map fun (v : Nat) => prD (((intOf d').toNat : Int), (v : Int))) h := by
    refine lc2_pure (B := n.toNat) (fun d' hd' => ?_) ?_
    · obtain ⟨u, hu, rfl⟩ := List.mem_map.mp hd'
      have hu := List.mem_range.mp hu
      refine ⟨?_, [some (.int d), some (.int n), some (.int c), some (.int (0 + (u : Int))), none], rfl, rfl, fun acc hl => ?_⟩
      · rw [List.length_map]
        exact Nat.le_trans (List.length_filter_le _ _) (by simp)
      · have := inner u h acc hu hl
        have e1 : (0 + (u : Int)) = (u : Int) := by omega
        have e2 : (intOf (.int (u : Int))).toNat = u := by simp [intOf]
        rw [e1, e2]
        exact this
    · rw [rng_len]
      have h1 : n.toNat ≤ 200 := by omega
      have := Nat.mul_le_mul h1 h1
      simp
      omega
  show ((den t (.itR (.cons (.var 1) .nil)) [some (.int d), some (.int n), some (.int c), none, none] h).bind _) = _
  rw [it]
  simp only [R.bind_ok]
  rw [outer]
  simp only [R.bind_ok, List.nil_append]
  have e : ((rngD 0 n.toNat).flatMap fun d' => ((List.range n.toNat).filter (okV d n c (intOf d').toNat)).map fun (v : Nat) => prD (((intOf d').toNat : Int), (v : Int))) = (memL d n c).map prD := by
    unfold memL rngD
    rw [List.flatMap_map, List.map_flatMap]
    congr 1
    funext u
    simp [intOf]
  rw [e]
end K42

namespace K42
open PySem PySem.Spec PyProof.Rows L2 Ev
theorem d_members_of_norm {t : Rt} (H1 : Has t "check_ring" 2 (pureF g_check_ring)) (H2 : Has t "check_from" 3 (pureF g_check_from)) (ds : List D) : Does0 t s_members_of_norm N_members_of_norm g_members_of_norm ds := by
  unfold Does0 g_members_of_norm
  split
  · rename_i d n x
    split
    · rename_i c
      obtain ⟨c1, c2, c3⟩ := c
      have k1 : ∀ h, callD (pureF g_check_ring) [d, n] h = if ringB d n = true then .ok .non h else .ex xM h := fun h => k_check_ring c1 c2
      have k2 : ∀ lo hi h, callD (pureF g_check_from) [x, .int lo, .int hi] h = if cntB x lo hi = true then .ok .non h else .ex xM h := fun lo hi h => k_check_from c3
      have k3 : ∀ lo hi h, callD (pureF g_check_from) [n, .int lo, .int hi] h = if cntB n lo hi = true then .ok .non h else .ex xM h := fun lo hi h => k_check_from c2
      by_cases e1 : ringB d n = true
      · by_cases e2 : cntB n 3 200 = true
        · obtain ⟨i, m, rfl, rfl, a1, a2, a3, a4, a5⟩ := ring_inv e1
          by_cases e3 : cntB x 0 (m - 1) = true
          · cases x with
            | int x =>
              have e2' := e2
              rw [cntB_int] at e2'
              simp only [Bool.and_eq_true, decide_eq_true_eq] at e2'
              have lc := members_lc (t := t) (d := i) (n := m) (c := x) (h := []) e2'.1 e2'.2 ⟨by omega, by omega⟩
              simp [s_members_of_norm, N_members_of_norm, startD, denS, den, H1.ar, H1.orc, H1.dfl, H2.ar, H2.orc, H2.dfl, k1, k2, k3, e1, e2, e3, intOf, lc, biD, items]
            | _ => cases e3
          · simp [s_members_of_norm, N_members_of_norm, startD, denS, den, H1.ar, H1.orc, H1.dfl, H2.ar, H2.orc, H2.dfl, k1, k2, k3, e1, e2, e3, intOf]
        · simp [s_members_of_norm, N_members_of_norm, startD, denS, den, H1.ar, H1.orc, H1.dfl, H2.ar, H2.orc, H2.dfl, k1, k2, k3, e1, e2]
      · simp [s_members_of_norm, N_members_of_norm, startD, denS, den, H1.ar, H1.orc, H1.dfl, k1, e1]
    · simp
  · simp
/-! ### orders -/
def ordF (d n : Int) (p : Int × Int) : Nat → Int × Int → Int → Option Int
  | 0, _, _ => none
  | f + 1, o, k => if o = (1 % n, 0) then some k else ordF d n p f (mulP d n o p) (k + 1)
def g_order_in_ring : List D → Rs
  | [d, n, p] => if d.dat = true ∧ n.dat = true ∧ vOk p = true then (if cntB n 3 2000 = true ∧ rmB d n p = true then (match backP (intOf d) (intOf n) (pairOf p) with
    | none => .x (xR "none")
    | some _ => (match ordF (intOf d) (intOf n) (pairOf p) 3000 (pairOf p) 1 with
      | some k => .v (.int k)
      | none => .b)) else .x xM) else .b
  | _ => .b
theorem ord_loop {t : Rt} (H1 : Has t "product_by" 4 (pureF g_product_by)) {d n : Int} (h0 : 0 < n) (hn : n < 2 ^ 63) (hd : S63 d) {p : Int × Int} (p1 : S63 p.1) (p2 : S63 p.2) {r : Int} (f : Nat) : ∀ (o : Int × Int) (k : Int) (h : Hd), S63 o.1 → S63 o.2 → ordF d n p f o k = some r → ∃ o',
    denS t w_order_in_ring_2 none [some (.int d), some (.int n), some (prD p), some (prD o), some (.int k)] h = .nx [some (.int d), some (.int n), some (prD p), o', some (.int r)] h := by
  induction f with
  | zero => intro o k h _ _ e; cases e
  | succ f ih =>
    intro o k h o1 o2 e
    rw [un_w_order_in_ring_2]
    have q1 : ∀ x h, binD .Mod (.int x) (.int n) h = .ok (.int (x % n)) h := fun x h => bin_mod h0
    have tst : tstD (den t (.cmp .NotEq (.var 3) (.tup (.cons (.bin .Mod (.int 1) (.var 1)) (.cons (.int 0) .nil)))) [some (.int d), some (.int n), some (prD p), some (prD o), some (.int k)] h) = .ok (!(o.1 == 1 % n && o.2 == 0)) h := by
      simp [den, q1, szB_le]
    rw [tst]
    unfold ordF at e
    by_cases c : o = (1 % n, 0)
    · rw [if_pos c] at e
      cases e
      subst c
      simp
    · rw [if_neg c] at e
      have cb : (!(o.1 == 1 % n && o.2 == 0)) = true := by
        cases q : (o.1 == 1 % n && o.2 == 0) with
        | false => rfl
        | true =>
          simp only [Bool.and_eq_true, beq_iff_eq] at q
          exact absurd (Prod.ext q.1 q.2) c
      rw [cb]
      obtain ⟨s1, s2⟩ := mulP_S (d := d) (p := o) (q := p) h0 hn
      have k1 : ∀ h, callD (pureF g_product_by) [.int d, .int n, prD o, prD p] h = .ok (prD (mulP d n o p)) h := fun h => k_product_by h0 hd o1 o2 p1 p2
      have body : denS t b_order_in_ring_1 none [some (.int d), some (.int n), some (prD p), some (prD o), some (.int k)] h = .nx [some (.int d), some (.int n), some (prD p), some (prD (mulP d n o p)), some (.int (k + 1))] h := by
        generalize prD o = O at *
        generalize prD p = P at *
        generalize prD (mulP d n o p) = OP at *
        simp [b_order_in_ring_1, den, denS, H1.ar, H1.orc, H1.dfl, k1, szB_le]
      simp only [body]
      exact ih (mulP d n o p) (k + 1) h s1 s2 e
theorem d_order_in_ring {t : Rt} (H1 : Has t "check_from" 3 (pureF g_check_from)) (H2 : Has t "ring_back" 3 (pureF g_ring_back)) (H3 : Has t "product_by" 4 (pureF g_product_by)) (hR : t.exf "Refused" = some (some ("reason" : Str))) (ds : List D) : Does0 t s_order_in_ring N_order_in_ring g_order_in_ring ds := by
  unfold Does0 g_order_in_ring
  split
  · rename_i d n p
    split
    · rename_i c
      obtain ⟨c1, c2, c3⟩ := c
      have k1 : ∀ lo hi h, callD (pureF g_check_from) [n, .int lo, .int hi] h = if cntB n lo hi = true then .ok .non h else .ex xM h := fun lo hi h => k_check_from c2
      have k2 : ∀ h, callD (pureF g_ring_back) [d, n, p] h = if rmB d n p = true then .ok (optP (backP (intOf d) (intOf n) (pairOf p))) h else .ex xM h := fun h => k_ring_back c1 c2 c3
      by_cases e1 : cntB n 3 2000 = true
      · by_cases e2 : rmB d n p = true
        · obtain ⟨i, m, a, b, rfl, rfl, rfl, z1, z2, z3, z4, z5, z6, _⟩ := rm_inv e2
          rw [if_pos ⟨e1, e2⟩]
          show EndsR _ (match backP i m (a, b) with | none => _ | some _ => _)
          have k2' : ∀ h, callD (pureF g_ring_back) [.int i, .int m, prD (a, b)] h = .ok (optP (backP i m (a, b))) h := fun h => by rw [k2, if_pos e2]; rfl
          cases e3 : backP i m (a, b) with
          | none =>
            rw [e3] at k2'
            simp [s_order_in_ring, N_order_in_ring, startD, denS, den, H1.ar, H1.orc, H1.dfl, H2.ar, H2.orc, H2.dfl, k1, k2', e1, optP, hR]
          | some q =>
            rw [e3] at k2'
            show EndsR _ (match ordF i m (a, b) 3000 (a, b) 1 with | some k => _ | none => _)
            cases e4 : ordF i m (a, b) 3000 (a, b) 1 with
            | none => simp
            | some r =>
              obtain ⟨o', lp⟩ := ord_loop (t := t) H3 (by omega) (by omega) z1 (p := (a, b)) z5 z6 3000 (a, b) 1 [] z5 z6 e4
              simp [s_order_in_ring, N_order_in_ring, startD, denS, den, H1.ar, H1.orc, H1.dfl, H2.ar, H2.orc, H2.dfl, k1, k2', e1, optP, szB_le, lp]
        · simp [s_order_in_ring, N_order_in_ring, startD, denS, den, H1.ar, H1.orc, H1.dfl, H2.ar, H2.orc, H2.dfl, k1, k2, e1, e2]
      · simp [s_order_in_ring, N_order_in_ring, startD, denS, den, H1.ar, H1.orc, H1.dfl, k1, e1]
    · simp
  · simp
def frobB (d n : Int) (p : Int × Int) : Bool := (powF d n (1 % n, 0) p n.toNat).1 == p.1 && (powF d n (1 % n, 0) p n.toNat).2 == -p.2 % n
def g_frobenius_turns : List D → Rs
  | [d, n, p] => if d.dat = true ∧ n.dat = true ∧ vOk p = true then (if rmB d n p = true then .v (.bl (frobB (intOf d) (intOf n) (pairOf p))) else .x xM) else .b
  | _ => .b
theorem d_frobenius_turns {t : Rt} (H1 : Has t "check_member" 3 (pureF g_check_member)) (H3 : Has t "power_by" 4 (pureF g_power_by)) (ds : List D) : Does0 t s_frobenius_turns N_frobenius_turns g_frobenius_turns ds := by
  unfold Does0 g_frobenius_turns
  split
  · rename_i d n p
    split
    · rename_i c
      obtain ⟨c1, c2, c3⟩ := c
      have k1 : ∀ h, callD (pureF g_check_member) [d, n, p] h = if rmB d n p = true then .ok .non h else .ex xM h := fun h => k_check_member c1 c2 c3
      by_cases e1 : rmB d n p = true
      · obtain ⟨i, m, a, b, rfl, rfl, rfl, z1, z2, z3, z4, z5, z6, _⟩ := rm_inv e1
        have k3 : ∀ h, callD (pureF g_power_by) [.int i, .int m, .tup [.int a, .int b], .int m] h = .ok (prD (powF i m (1 % m, 0) (a, b) m.toNat)) h := fun h => k_power_by (p := (a, b)) (by omega) (by omega) z1 z5 z6 (by omega) (by omega)
        have q1 : ∀ x h, binD .Mod (.int x) (.int m) h = .ok (.int (x % m)) h := fun x h => bin_mod (by omega)
        rw [if_pos e1]
        simp [s_frobenius_turns, N_frobenius_turns, startD, denS, den, H1.ar, H1.orc, H1.dfl, H3.ar, H3.orc, H3.dfl, k1, k3, e1, q1, szB_le, frobB, intOf, pairOf]
      · simp [s_frobenius_turns, N_frobenius_turns, startD, denS, den, H1.ar, H1.orc, H1.dfl, k1, e1]
    · simp
  · simp
/-! ### the law's helpers -/
def stateF (ns : List Int) : Int × Int := (ns.take 63).foldl (fun st c => (st.1 * 1000003 + (if c < 0 then -c else c), (st.2 * 48271 + c) % 2147483647)) (0, 1)
def takeF (st : Int × Int) (m : Int) : Int × (Int × Int) := if 0 < st.1 then (st.1 % m, (st.1 / m, st.2)) else ((st.2 * 48271 + 11) % 2147483647 / 7 % m, (st.1, (st.2 * 48271 + 11) % 2147483647))
abbrev stO (st : Int × Int) : O := .lst [.int st.1, .int st.2]
def p_law_take : List D → Hd → R D
  | [.loc 0, .int m], [.lst [.int s, .int t]] => if 0 < m ∧ m < 2 ^ 63 then .ok (.int (takeF (s, t) m).1) [stO (takeF (s, t) m).2] else .bad
  | _, _ => .bad
theorem trim_one {o : O} {v : Int} (h : o.flat = true) : trimR 1 (.rt (.int v) [o]) = .ok (.int v) [o] := by
  unfold trimR
  simp [D.ls, uniq, getAll, h, D.nox, D.ml, List.range_succ]
theorem d_law_take {t : Rt} (ds : List D) (os : Hd) : p_law_take ds os = .bad ∨ trimR os.length (denS t s_law_take none (startD N_law_take ds) os) = p_law_take ds os := by
  unfold p_law_take
  split
  · rename_i m s tt
    split
    · rename_i c
      obtain ⟨c1, c2⟩ := c
      right
      have q1 : ∀ x h, binD .Mod (.int x) (.int m) h = .ok (.int (x % m)) h := fun x h => bin_mod c1
      have q2 : ∀ x h, binD .FloorDiv (.int x) (.int m) h = .ok (.int (x / m)) h := fun x h => bin_div (divB_of c1 c2)
      have q3 : ∀ x h, binD .Mod (.int x) (.int 2147483647) h = .ok (.int (x % 2147483647)) h := fun x h => bin_mod (by decide)
      have q4 : ∀ x h, binD .FloorDiv (.int x) (.int 7) h = .ok (.int (x / 7)) h := fun x h => bin_div (divB_of (by decide) (by decide))
      have q5 : ∀ x h, binD .Mult (.int x) (.int 48271) h = .ok (.int (x * 48271)) h := fun x h => bin_mul (mulB_r (by decide))
      have i0 : ∀ (a b : D), ixD (.loc 0) (.int 0) [.lst [a, b]] = .ok a [.lst [a, b]] := fun a b => rfl
      have i1 : ∀ (a b : D), ixD (.loc 0) (.int 1) [.lst [a, b]] = .ok b [.lst [a, b]] := fun a b => rfl
      have s0 : ∀ (a b e : D), sixD (.loc 0) (.int 0) e [.lst [a, b]] = some [.lst [e, b]] := fun a b e => rfl
      have s1 : ∀ (a b e : D), sixD (.loc 0) (.int 1) e [.lst [a, b]] = some [.lst [a, e]] := fun a b e => rfl
      by_cases p : 0 < s
      · have e : takeF (s, tt) m = (s % m, (s / m, tt)) := by simp [takeF, p]
        rw [e]
        have : denS t s_law_take none (startD N_law_take [.loc 0, .int m]) [.lst [.int s, .int tt]] = .rt (.int (s % m)) [stO (s / m, tt)] := by
          simp [s_law_take, N_law_take, startD, denS, den, i0, i1, s0, s1, p, q1, q2]
        rw [this]
        exact trim_one rfl
      · have e : takeF (s, tt) m = ((tt * 48271 + 11) % 2147483647 / 7 % m, (s, (tt * 48271 + 11) % 2147483647)) := by simp [takeF, p]
        rw [e]
        have : denS t s_law_take none (startD N_law_take [.loc 0, .int m]) [.lst [.int s, .int tt]] = .rt (.int ((tt * 48271 + 11) % 2147483647 / 7 % m)) [stO (s, (tt * 48271 + 11) % 2147483647)] := by
          simp [s_law_take, N_law_take, startD, denS, den, i0, i1, s0, s1, p, q1, q3, q4, q5]
        rw [this]
        exact trim_one rfl
    · exact .inl rfl
  · exact .inl rfl
end K42

namespace Ev
open PySem PySem.Spec PyProof.Rows L2
theorem eqD_ss {x : Str} {h : Hd} (k : PyData.strOk x = true) : eqD (.str x) (.str x) h = some true := by
  unfold eqD toPH
  simp only [D.toP]
  rw [if_pos (by unfold SeqAt.shaped; simp [PyData.canLay0, k, PyData.depth]), PyData.eqv]
  simp
theorem eqD_bb {x : Bool} {h : Hd} : eqD (.bl x) (.bl x) h = some true := by
  unfold eqD toPH
  simp only [D.toP]
  rw [if_pos (by rfl), PyData.eqv]
  simp
/-- a loop over the items of a list that stays -/
theorem forL_cons {tg : Tg} {b : En → Hd → RS'} {l : Nat} {all : List D} {d : D} {r : List D} {σ : En} {h : Hd} (st : h[l]? = some (.lst all)) : forD tg b (.loc l) all (d :: r) σ h = match bindT tg d h σ with
    | some σ' => (match b σ' h with
      | .nx σ1 h1 => forD tg b (.loc l) all r σ1 h1
      | .ct σ1 h1 => forD tg b (.loc l) all r σ1 h1
      | .bk σ1 h1 => .nx σ1 h1
      | .rt d h1 => .rt d h1
      | .ex e σ1 h1 => .ex e σ1 h1
      | .bad => .bad)
    | none => .bad := by
  rw [forD]
  rw [if_pos (show stays (.loc l) all h from st)]
  all_goals try (cases bindT tg d h σ <;> first | rfl | (simp only; cases b _ h <;> rfl))
theorem forL_nil {tg : Tg} {b : En → Hd → RS'} {l : Nat} {all : List D} {σ : En} {h : Hd} (st : h[l]? = some (.lst all)) : forD tg b (.loc l) all [] σ h = .nx σ h := by
  rw [forD]
  rw [if_pos (show stays (.loc l) all h from st)]
theorem blsD_rep : ∀ n : Nat, blsD (List.replicate n (.bl true)) = some (List.replicate n true)
  | 0 => rfl
  | n + 1 => by
    rw [List.replicate_succ, blsD, blsD_rep n, List.replicate_succ]
    rfl
theorem ix_nat {ds : List D} {k : Nat} {d : D} {h : Hd} (e : ds[k]? = some d) : ixD (.tup ds) (.int (k : Int)) h = .ok d h := by
  refine ix_tup ?_
  have hk : k < ds.length := (List.getElem?_eq_some_iff.mp e).1
  unfold L2.atI L2.ixN
  rw [if_pos (by omega), if_pos (by omega)]
  simpa using e
theorem rng1 {n : Int} {h : Hd} (sm : small62 n = true) : rngI [.int n] h = .ok (.tup [.tup (rngD 0 n.toNat), .non]) h := by
  show (if small62 n = true then (R.ok _ h : R D) else .bad) = _
  rw [if_pos sm]
theorem rng2 {a b : Int} {h : Hd} (sm : (small62 a && small62 b) = true) : rngI [.int a, .int b] h = .ok (.tup [.tup (rngD a (b - a).toNat), .non]) h := by
  show (if (small62 a && small62 b) = true then (R.ok _ h : R D) else .bad) = _
  rw [if_pos sm]
end Ev
namespace K42
open PySem PySem.Spec PyProof.Rows L2 Ev
/-! ### state -/
def finF (st : Int × Int) : Int × Int := (st.1, if st.2 = 1973665155 then 7 else st.2)
def stepF (st : Int × Int) (c : Int) : Int × Int := (st.1 * 1000003 + (if c < 0 then -c else c), (st.2 * 48271 + c) % 2147483647)
def p_law_state : List D → Hd → R D
  | [.fro ds], [] => (match intsD ds with
    | some ns => .ok (.loc 0) [stO (finF ((ns.take 63).foldl stepF (0, 1)))]
    | none => .bad)
  | _, _ => .bad
theorem state_loop {t : Rt} {all : List D} (x0 : Option D) : ∀ (ns : List Int) (st : Int × Int) (o : Option D), ∃ o',
    forD (.n 3) (denS t b_law_state_1 none) (.loc 0) all (ns.map .int) [x0, some (.int st.1), some (.int st.2), o] [.lst all] = .nx [x0, some (.int (ns.foldl stepF st).1), some (.int (ns.foldl stepF st).2), o'] [.lst all]
  | [], st, o => ⟨o, by rw [List.map_nil, forL_nil rfl]; rfl⟩
  | n :: ns, st, o => by
    obtain ⟨o', z⟩ := state_loop (t := t) (all := all) x0 ns (stepF st n) (some (.int n))
    refine ⟨o', ?_⟩
    rw [List.map_cons, forL_cons rfl]
    have q1 : ∀ x h, binD .Mult (.int x) (.int 1000003) h = .ok (.int (x * 1000003)) h := fun x h => bin_mul (mulB_r (by decide))
    have q2 : ∀ x h, binD .Mult (.int x) (.int 48271) h = .ok (.int (x * 48271)) h := fun x h => bin_mul (mulB_r (by decide))
    have q3 : ∀ x h, binD .Mod (.int x) (.int 2147483647) h = .ok (.int (x % 2147483647)) h := fun x h => bin_mod (by decide)
    have body : denS t b_law_state_1 none [x0, some (.int st.1), some (.int st.2), some (.int n)] [.lst all] = .nx [x0, some (.int (stepF st n).1), some (.int (stepF st n).2), some (.int n)] [.lst all] := by
      simp [b_law_state_1, den, denS, q1, q2, q3, stepF]
    simp only [bindT_n, List.set_cons_succ, List.set_cons_zero]
    rw [body]
    simp only
    rw [z]
    rfl
theorem d_law_state {t : Rt} (ds : List D) (os : Hd) : p_law_state ds os = .bad ∨ trimR os.length (denS t s_law_state none (startD N_law_state ds) os) = p_law_state ds os := by
  unfold p_law_state
  split
  · rename_i ds
    cases e : intsD ds with
    | none => exact .inl rfl
    | some ns =>
      right
      show trimR _ _ = .ok (.loc 0) [stO (finF ((ns.take 63).foldl stepF (0, 1)))]
      have ed := intsD_eq e
      subst ed
      have ecut : Ev.cutD (ns.map D.int) none (some 63) = (ns.take 63).map D.int := by
        unfold Ev.cutD
        have : HT.sIx (ns.map D.int).length (ns.map D.int).length (some ((63 : Nat) : Int)) = min 63 (ns.map D.int).length := HT.sIx_nat _ _ _
        show ((ns.map D.int).drop (HT.sIx _ 0 none)).take (HT.sIx _ _ (some ((63 : Nat) : Int)) - HT.sIx _ 0 none) = _
        rw [this, HT.sIx_none, List.drop_zero, Nat.sub_zero, List.map_take]
        rcases Nat.le_total 63 (ns.map D.int).length with z | z
        · rw [Nat.min_eq_left z]
        · rw [Nat.min_eq_right z, List.take_of_length_le (Nat.le_refl _), List.take_of_length_le z]
      obtain ⟨o', z⟩ := state_loop (t := t) (all := (ns.take 63).map D.int) (some (.fro (ns.map D.int))) (ns.take 63) (0, 1) none
      have sl : ∀ h, slD (.fro (ns.map D.int)) none (some 63) h = .ok (.loc h.length) (h ++ [.lst ((ns.take 63).map D.int)]) := fun h => by
        show (R.ok _ (h ++ [.lst (Ev.cutD (ns.map D.int) none (some 63))]) : R D) = _
        rw [ecut]
      generalize (ns.take 63).foldl stepF (0, 1) = st at *
      generalize (ns.take 63).map D.int = L at *
      generalize ns.map D.int = M at *
      have z : forD (.n 3) (denS t b_law_state_1 none) (.loc 0) L L [some (.fro M), some (.int 0), some (.int 1), none] [.lst L] = _ := z
      have ev : denS t s_law_state none (startD N_law_state [.fro M]) [] = .rt (.loc 1) [.lst L, stO (finF st)] := by
        by_cases c : st.2 = 1973665155
        · simp [s_law_state, N_law_state, startD, denS, den, partD, sl, seqI, z, szB_le, c, finF]
        · simp [s_law_state, N_law_state, startD, denS, den, partD, sl, seqI, z, szB_le, c, finF]
      rw [ev]
      unfold trimR
      simp [D.ls, uniq, getAll, O.flat, D.flats, D.flat, D.nox, D.ml, posOf]
  · exact .inl rfl
/-! ### same -/
def sameOK : Nat → D → Bool
  | _, .int _ => true
  | _, .bl _ => true
  | _, .str s => PyData.strOk s
  | f + 1, .tup ds => ds.all (sameOK f) && decide (ds.length ≤ 100000)
  | _, _ => false
open Classical in
noncomputable def g_same (f : Nat) : List D → Rs
  | [v, w] => if v = w ∧ sameOK f v = true then .v (.bl true) else .b
  | _ => .b
theorem same_flat {f : Nat} : ∀ {v : D}, sameOK f v = true → v.dat = true := by
  induction f with
  | zero => intro v h; cases v <;> first | rfl | cases h
  | succ f ih =>
    intro v h
    cases v with
    | tup ds =>
      obtain ⟨h1, _⟩ := and3 (show (ds.all (sameOK f) && decide (ds.length ≤ 100000)) = true from h)
      show D.flats ds = true
      have : ∀ l : List D, l.all (sameOK f) = true → D.flats l = true := by
        intro l hl
        induction l with
        | nil => rfl
        | cons a l ih2 =>
          obtain ⟨a1, a2⟩ := and3 (show (sameOK f a && l.all (sameOK f)) = true from hl)
          show (a.flat && D.flats l) = true
          rw [dat_flat (ih a1), ih2 a2]
          rfl
      exact this ds h1
    | _ => first | rfl | cases h
theorem k_same {f : Nat} {v : D} {h : Hd} (c : sameOK f v = true) : callD (pureF (g_same f)) [v, v] h = .ok (.bl true) h :=
  call_pure (r := .v (.bl true)) (by simp [g_same, c]) (by simp [D.flats, dat_flat (same_flat c)]) rfl
theorem same_all {f : Nat} {vs : List D} (h : sameOK (f + 1) (.tup vs) = true) : vs.all (sameOK f) = true ∧ vs.length ≤ 100000 := by
  rw [sameOK] at h
  obtain ⟨h1, h2⟩ := and3 h
  exact ⟨h1, of_decide_eq_true h2⟩
theorem same_lc {t : Rt} {f : Nat} (H1 : Has t "_law_same" 2 (pureF (g_same f))) {vs : List D} (c1 : vs.all (sameOK f) = true) (c2 : vs.length ≤ 100000) {h : Hd} : den t c_law_same_1 [some (.tup vs), some (.tup vs), none] h = .ok (.loc h.length) (h ++ [.lst (List.replicate vs.length (.bl true))]) := by
  have sm : small62 (vs.length : Int) = true := by
    unfold small62
    simp only [Bool.and_eq_true, decide_eq_true_eq]
    omega
  have it0 : ∀ n : Int, small62 n = true → (vs.length : Int) = n → den t (.itR (.cons (.bi .len (.cons (.var 1) .nil)) .nil)) [some (.tup vs), some (.tup vs), none] h = .ok (.tup [.tup (rngD 0 n.toNat), .non]) h := by
    intro n sm hl
    have r1 := fun h => rng1 (n := n) (h := h) sm
    simp only [den, List.getElem?_cons_succ, List.getElem?_cons_zero, R.bind_ok, bi_len_tup, hl, r1]
  have it := it0 _ sm rfl
  rw [Int.toNat_natCast] at it
  have er : ((rngD 0 vs.length).filter (fun _ => true)).map (fun _ => D.bl true) = List.replicate vs.length (.bl true) := by
    have : (rngD 0 vs.length).filter (fun _ => true) = rngD 0 vs.length := by simp
    rw [this, List.map_const', rng_len]
  have lp : lcLoop (.n 2) [2] (fun σ h => tstD (den t (.bl true) σ h)) (den t (.call "_law_same" 2 (.cons (.ix (.var 0) (.var 2)) (.cons (.ix (.var 1) (.var 2)) .nil)))) .non (rngD 0 vs.length) (rngD 0 vs.length) [some (.tup vs), some (.tup vs), none] [] h = .ok (List.replicate vs.length (.bl true)) h := by
    rw [lc_pure (p := fun _ => true) (f := fun _ => .bl true), er, List.nil_append]
    · intro d' hd'
      obtain ⟨k, hk, rfl⟩ := List.mem_map.mp hd'
      have hk := List.mem_range.mp hk
      have ek : vs[k]? = some vs[k] := List.getElem?_eq_getElem hk
      have e0 : (0 + (k : Int)) = (k : Int) := by omega
      rw [e0]
      refine ⟨[some (.tup vs), some (.tup vs), some (.int (k : Int))], rfl, rfl, fun _ => ?_⟩
      have ix : ∀ h, ixD (.tup vs) (.int (k : Int)) h = .ok vs[k] h := fun h => ix_nat ek
      have cs : sameOK f vs[k] = true := List.all_eq_true.mp c1 _ (List.getElem_mem hk)
      have ks : ∀ h, callD (pureF (g_same f)) [vs[k], vs[k]] h = .ok (.bl true) h := fun h => k_same cs
      simp [den, H1.ar, H1.orc, H1.dfl, ix, ks]
    · rw [rng_len, List.length_nil]
      omega
  show ((den t (.itR (.cons (.bi .len (.cons (.var 1) .nil)) .nil)) [some (.tup vs), some (.tup vs), none] h).bind _) = _
  rw [it]
  simp only [R.bind_ok]
  rw [lp]
  rfl
theorem d_same {t : Rt} {f : Nat} (H1 : Has t "_law_same" 2 (pureF (g_same f))) (ds : List D) : Does0 t s_law_same N_law_same (g_same (f + 1)) ds := by
  unfold Does0 g_same
  split
  · rename_i v w
    split
    · rename_i c
      obtain ⟨rfl, c⟩ := c
      have hi : ∀ T h, isiD T v h = some (isT T v) := fun T h => isiD_dat (same_flat c)
      cases v with
      | int i => simp [s_law_same, N_law_same, startD, denS, den, hi, isT]
      | bl b => simp [s_law_same, N_law_same, startD, denS, den, hi, isT, cmp_Eq eqD_bb, Ev.isNon]
      | str s => simp [s_law_same, N_law_same, startD, denS, den, hi, isT, cmp_Eq (eqD_ss c), Ev.isNon]
      | tup vs =>
        obtain ⟨c1, c2⟩ := same_all c
        have lc := fun h => same_lc (t := t) H1 (h := h) c1 c2
        simp [s_law_same, N_law_same, startD, denS, den, hi, isT, lc, biD, blsD_rep]
      | _ => rw [sameOK] at c <;> first | (cases c; done) | simp at c
    · simp
  · simp
end K42

namespace Ev
open PySem PySem.Spec PyProof.Rows L2
theorem ix3 {a b c : D} {h : Hd} : ixD (.tup [a, b, c]) (.int 0) h = .ok a h ∧ ixD (.tup [a, b, c]) (.int 1) h = .ok b h ∧ ixD (.tup [a, b, c]) (.int 2) h = .ok c h := ⟨rfl, rfl, rfl⟩
theorem ix4 {a b c d : D} {h : Hd} : ixD (.tup [a, b, c, d]) (.int 0) h = .ok a h ∧ ixD (.tup [a, b, c, d]) (.int 1) h = .ok b h ∧ ixD (.tup [a, b, c, d]) (.int 2) h = .ok c h ∧ ixD (.tup [a, b, c, d]) (.int 3) h = .ok d h := ⟨rfl, rfl, rfl, rfl⟩
end Ev
namespace K42
open PySem PySem.Spec PyProof.Rows L2 Ev
/-! ### told -/
def gOf (x : Str) : Option (Nat × (List D → Rs)) :=
  if x = "is_member" then some (3, g_is_member) else if x = "ring_product" then some (4, g_ring_product) else if x = "ring_power" then some (4, g_ring_power) else
  if x = "ring_norm" then some (3, g_ring_norm) else if x = "ring_back" then some (3, g_ring_back) else if x = "circle_member" then some (3, g_circle_member) else
  if x = "members_of_norm" then some (3, g_members_of_norm) else if x = "order_in_ring" then some (3, g_order_in_ring) else if x = "frobenius_turns" then some (3, g_frobenius_turns) else none
def toldR : Rs → Rs
  | .v d => if d.flat = true then .v (.tup [.str "told", d]) else .b
  | .x ⟨c, none⟩ => if c = "Malformed" then .v (.tup [.str "malformed", .non]) else .b
  | .x ⟨c, some (g, d)⟩ => if c = "Refused" ∧ g = "reason" ∧ d.flat = true then .v (.tup [.str "raised", d]) else .b
  | .b => .b
def g_law_told : List D → Rs
  | [.fn x, .tup as] => (match gOf x with
    | some (n, g) => if as.length = n ∧ D.flats as = true then toldR (g as) else .b
    | none => .b)
  | _ => .b
theorem gOf_n {x : Str} {n : Nat} {g : List D → Rs} (h : gOf x = some (n, g)) : n = 3 ∨ n = 4 := by
  unfold gOf at h
  (repeat' split at h) <;> first | (cases h; done) | (cases h; exact .inl rfl) | (cases h; exact .inr rfl)
theorem d_law_told {t : Rt} (HF : ∀ x n g, gOf x = some (n, g) → Has t x n (pureF g)) (i1 : t.isa "Malformed" "Malformed" = some true) (i2 : t.isa "Refused" "Malformed" = some false) (i3 : t.isa "Refused" "Refused" = some true) (hR : t.exf "Refused" = some (some ("reason" : Str))) (ds : List D) : Does0 t s_law_told N_law_told g_law_told ds := by
  unfold Does0 g_law_told
  split
  · rename_i x as
    cases e : gOf x with
    | none => simp
    | some p =>
      obtain ⟨n, g⟩ := p
      simp only
      split
      · rename_i c
        obtain ⟨c1, c2⟩ := c
        have H := HF x n g e
        by_cases hg : (g as).flat = true
        · have k : ∀ h, callD (pureF g) as h = (g as).toR h := fun h => callD_pure c2 hg
          rcases gOf_n e with rfl | rfl
          · rcases as with _ | ⟨a, _ | ⟨b, _ | ⟨c, _ | ⟨d, as⟩⟩⟩⟩ <;> simp only [List.length_cons, List.length_nil] at c1 <;> try omega
            obtain ⟨j0, j1, j2⟩ := And.intro (fun h => (ix3 (a := a) (b := b) (c := c) (h := h)).1) (And.intro (fun h => (ix3 (a := a) (b := b) (c := c) (h := h)).2.1) (fun h => (ix3 (a := a) (b := b) (c := c) (h := h)).2.2))
            cases er : g [a, b, c] with
            | b => simp [toldR]
            | v d =>
              rw [er] at k hg
              have hg : d.flat = true := hg
              simp [s_law_told, N_law_told, startD, denS, den, H.ar, H.orc, H.dfl, j0, j1, j2, k, szB_le, toldR, hg]
            | x ex =>
              rw [er] at k hg
              obtain ⟨cl, fld⟩ := ex
              cases fld with
              | none =>
                by_cases z : cl = "Malformed"
                · subst z
                  simp [s_law_told, N_law_told, startD, denS, den, H.ar, H.orc, H.dfl, j0, j1, j2, k, szB_le, toldR, i1, suiteIn, suiteEnd, D.nox, D.noxs]
                · simp [toldR, z]
              | some gd =>
                obtain ⟨gn, d⟩ := gd
                by_cases z : cl = "Refused" ∧ gn = "reason" ∧ d.flat = true
                · obtain ⟨rfl, rfl, hd⟩ := z
                  simp [s_law_told, N_law_told, startD, denS, den, H.ar, H.orc, H.dfl, j0, j1, j2, k, szB_le, toldR, i2, i3, hR, suiteIn, suiteEnd, D.nox, D.noxs, hd, nox_flat d hd]
                · simp [toldR, z]
          · rcases as with _ | ⟨a, _ | ⟨b, _ | ⟨c, _ | ⟨d, _ | ⟨d5, as⟩⟩⟩⟩⟩ <;> simp only [List.length_cons, List.length_nil] at c1 <;> try omega
            have j0 := fun h => (ix4 (a := a) (b := b) (c := c) (d := d) (h := h)).1
            have j1 := fun h => (ix4 (a := a) (b := b) (c := c) (d := d) (h := h)).2.1
            have j2 := fun h => (ix4 (a := a) (b := b) (c := c) (d := d) (h := h)).2.2.1
            have j3 := fun h => (ix4 (a := a) (b := b) (c := c) (d := d) (h := h)).2.2.2
            cases er : g [a, b, c, d] with
            | b => simp [toldR]
            | v d =>
              rw [er] at k hg
              have hg : d.flat = true := hg
              simp [s_law_told, N_law_told, startD, denS, den, H.ar, H.orc, H.dfl, j0, j1, j2, j3, k, szB_le, toldR, hg]
            | x ex =>
              rw [er] at k hg
              obtain ⟨cl, fld⟩ := ex
              cases fld with
              | none =>
                by_cases z : cl = "Malformed"
                · subst z
                  simp [s_law_told, N_law_told, startD, denS, den, H.ar, H.orc, H.dfl, j0, j1, j2, j3, k, szB_le, toldR, i1, suiteIn, suiteEnd, D.nox, D.noxs]
                · simp [toldR, z]
              | some gd =>
                obtain ⟨gn, d⟩ := gd
                by_cases z : cl = "Refused" ∧ gn = "reason" ∧ d.flat = true
                · obtain ⟨rfl, rfl, hd⟩ := z
                  simp [s_law_told, N_law_told, startD, denS, den, H.ar, H.orc, H.dfl, j0, j1, j2, j3, k, szB_le, toldR, i2, i3, hR, suiteIn, suiteEnd, D.nox, D.noxs, hd, nox_flat d hd]
                · simp [toldR, z]
        · cases er : g as with
          | b => simp [toldR]
          | v d =>
            rw [er] at hg
            have hg : ¬ d.flat = true := hg
            simp [toldR, hg]
          | x ex =>
            rw [er] at hg
            obtain ⟨cl, fld⟩ := ex
            cases fld with
            | none => exact absurd rfl hg
            | some gd =>
              obtain ⟨gn, d⟩ := gd
              have hg : ¬ d.flat = true := hg
              simp [toldR, hg]
      · simp
  · simp
theorem toldR_flat (r : Rs) : (toldR r).flat = true := by
  cases r with
  | b => rfl
  | v d =>
    unfold toldR
    by_cases hd : d.flat = true
    · simp only [hd, if_true]
      show (true && (d.flat && true)) = true
      rw [hd]; rfl
    · simp only [hd]; rfl
  | x e =>
    obtain ⟨c, f⟩ := e
    cases f with
    | none =>
      unfold toldR
      by_cases hd : c = "Malformed"
      · simp only [hd, if_true]; rfl
      · simp only [hd, if_false]; rfl
    | some gd =>
      obtain ⟨g, d⟩ := gd
      unfold toldR
      simp only
      split
      · rename_i c
        show (true && (d.flat && true)) = true
        rw [c.2.2]; rfl
      · rfl
theorem told_flat (ds : List D) : (g_law_told ds).flat = true := by
  unfold g_law_told
  split
  · split
    · split
      · exact toldR_flat _
      · rfl
    · rfl
  · rfl
theorem k_law_told {x : Str} {as : List D} {r : Rs} {h : Hd} (e : g_law_told [.fn x, .tup as] = r) (hf : D.flats as = true) : callD (pureF g_law_told) [.fn x, .tup as] h = r.toR h :=
  call_pure e (by show (true && (D.flats as && true)) = true; rw [hf]; rfl) (by rw [← e]; exact told_flat _)
/-! ### is told, tells -/
open Classical in
noncomputable def g_law_is_told : List D → Rs
  | [.tup [.str s, v], w] => if s = "told" ∧ v = w ∧ sameOK 4 v = true then .v (.bl true) else .b
  | _ => .b
theorem d_law_is_told {t : Rt} (H1 : Has t "_law_same" 2 (pureF (g_same 4))) (ds : List D) : Does0 t s_law_is_told N_law_is_told g_law_is_told ds := by
  unfold Does0 g_law_is_told
  split
  · rename_i s v w
    split
    · rename_i c
      obtain ⟨rfl, rfl, c⟩ := c
      have k1 : ∀ h, callD (pureF (g_same 4)) [v, v] h = .ok (.bl true) h := fun h => k_same c
      have k2 : ∀ h, cmpD .Eq (.str "told") (.str "told") h = .ok (.bl true) h := fun h => cmp_Eq (eqD_ss (by decide +kernel))
      simp [s_law_is_told, N_law_is_told, startD, denS, den, H1.ar, H1.orc, H1.dfl, k1, k2]
    · simp
  · simp
noncomputable def g_law_tells : List D → Rs
  | [.fn x, .tup as, w] => if D.flats as = true then (match g_law_told [.fn x, .tup as] with
    | .v p => g_law_is_told [p, w]
    | _ => .b) else .b
  | _ => .b
theorem d_law_tells {t : Rt} (H1 : Has t "_law_told" 2 (pureF g_law_told)) (H2 : Has t "_law_is_told" 2 (pureF g_law_is_told)) (ds : List D) : Does0 t s_law_tells N_law_tells g_law_tells ds := by
  unfold Does0 g_law_tells
  split
  · rename_i x as w
    split
    · rename_i hf
      cases e : g_law_told [.fn x, .tup as] with
      | v p =>
        have k1 : ∀ h, callD (pureF g_law_told) [.fn x, .tup as] h = .ok p h := fun h => k_law_told e hf
        simp only
        have fl := told_flat [.fn x, .tup as]
        rw [e] at fl
        have fl : p.flat = true := fl
        unfold g_law_is_told
        split
        · rename_i s v w' ep
          split
          · rename_i c
            cases ep
            have e2 : g_law_is_told [.tup [.str s, v], w] = .v (.bl true) := by unfold g_law_is_told; simp only; rw [if_pos c]
            have k2 : ∀ h, callD (pureF g_law_is_told) [.tup [.str s, v], w] h = .ok (.bl true) h := fun h => call_pure e2 (by
              have : v.flat = true := by
                have : (true && (v.flat && true)) = true := fl
                simpa using this
              show (_ && (w.flat && true)) = true
              rw [← c.2.1, this]
              show ((true && (v.flat && true)) && true) = true
              rw [this]
              rfl) rfl
            simp [s_law_tells, N_law_tells, startD, denS, den, H1.ar, H1.orc, H1.dfl, H2.ar, H2.orc, H2.dfl, k1, k2]
          · simp
        · simp
      | _ => simp
    · simp
  · simp
theorem k_law_tells {x : Str} {as : List D} {v : D} {h : Hd} (hf : D.flats as = true) (e : g_law_told [.fn x, .tup as] = .v (.tup [.str "told", v])) (c : sameOK 4 v = true) : callD (pureF g_law_tells) [.fn x, .tup as, v] h = .ok (.bl true) h :=
  call_pure (r := .v (.bl true)) (by
    unfold g_law_tells
    simp only [hf, if_true, e]
    unfold g_law_is_told
    simp [c]) (by
    show (true && (D.flats as && (v.flat && true))) = true
    rw [hf, dat_flat (same_flat c)]
    rfl) rfl
/-! ### is raised, raises -/
open Classical in
noncomputable def g_law_is_raised : List D → Rs
  | [.tup [.str s, .str v], .str w] => if s = "raised" ∧ v = w ∧ (w = "share" ∨ w = "none") then .v (.bl true) else .b
  | _ => .b
theorem d_law_is_raised {t : Rt} (H1 : Has t "_law_same" 2 (pureF (g_same 4))) (ds : List D) : Does0 t s_law_is_raised N_law_is_raised g_law_is_raised ds := by
  unfold Does0 g_law_is_raised
  split
  · rename_i s v w
    split
    · rename_i c
      obtain ⟨rfl, rfl, c⟩ := c
      have so : PyData.strOk v = true := by rcases c with rfl | rfl <;> decide +kernel
      have k1 : ∀ h, callD (pureF (g_same 4)) [.str v, .str v] h = .ok (.bl true) h := fun h => k_same (v := .str v) so
      have k2 : ∀ h, cmpD .Eq (.str "raised") (.str "raised") h = .ok (.bl true) h := fun h => cmp_Eq (eqD_ss (by decide +kernel))
      have k3 : ∀ h, cmpD .Eq (.str v) (.str "malformed") h = .ok (.bl false) h := fun h => cmp_Eq (by rcases c with rfl | rfl <;> kernel_rfl)
      simp [s_law_is_raised, N_law_is_raised, startD, denS, den, H1.ar, H1.orc, H1.dfl, k1, k2, k3]
    · simp
  · simp
noncomputable def g_law_raises : List D → Rs
  | [.fn x, .tup as, w] => if D.flats as = true then (match g_law_told [.fn x, .tup as] with
    | .v p => if w.flat = true then g_law_is_raised [p, w] else .b
    | _ => .b) else .b
  | _ => .b
theorem raised_flat (ds : List D) : (g_law_is_raised ds).flat = true := by
  unfold g_law_is_raised
  split
  · split <;> rfl
  · rfl
theorem d_law_raises {t : Rt} (H1 : Has t "_law_told" 2 (pureF g_law_told)) (H2 : Has t "_law_is_raised" 2 (pureF g_law_is_raised)) (ds : List D) : Does0 t s_law_raises N_law_raises g_law_raises ds := by
  unfold Does0 g_law_raises
  split
  · rename_i x as w
    split
    · rename_i hf
      cases e : g_law_told [.fn x, .tup as] with
      | v p =>
        have k1 : ∀ h, callD (pureF g_law_told) [.fn x, .tup as] h = .ok p h := fun h => k_law_told e hf
        simp only
        have fl := told_flat [.fn x, .tup as]
        rw [e] at fl
        have fl : p.flat = true := fl
        split
        · rename_i fw
          cases e2 : g_law_is_raised [p, w] with
          | v d =>
            have k2 : ∀ h, callD (pureF g_law_is_raised) [p, w] h = .ok d h := fun h => call_pure e2 (by show (p.flat && (w.flat && true)) = true; rw [fl, fw]; rfl) (by rw [← e2]; exact raised_flat _)
            simp [s_law_raises, N_law_raises, startD, denS, den, H1.ar, H1.orc, H1.dfl, H2.ar, H2.orc, H2.dfl, k1, k2]
          | x ex =>
            have k2 : ∀ h, callD (pureF g_law_is_raised) [p, w] h = .ex ex h := fun h => call_pure e2 (by show (p.flat && (w.flat && true)) = true; rw [fl, fw]; rfl) (by rw [← e2]; exact raised_flat _)
            simp [s_law_raises, N_law_raises, startD, denS, den, H1.ar, H1.orc, H1.dfl, H2.ar, H2.orc, H2.dfl, k1, k2]
          | b => simp
        · simp
      | _ => simp
    · simp
  · simp
theorem k_law_raises {x : Str} {as : List D} {s : Str} {h : Hd} (hf : D.flats as = true) (e : g_law_told [.fn x, .tup as] = .v (.tup [.str "raised", .str s])) (c : s = "share" ∨ s = "none") : callD (pureF g_law_raises) [.fn x, .tup as, .str s] h = .ok (.bl true) h :=
  call_pure (r := .v (.bl true)) (by
    unfold g_law_raises
    simp only [hf, if_true, e, D.flat]
    unfold g_law_is_raised
    simp [c]) (by
    show (true && (D.flats as && (true && true))) = true
    rw [hf]
    rfl) rfl
/-! ### plain, value -/
theorem d_law_plain {t : Rt} (ds : List D) : Does0 t s_law_plain N_law_plain g_is_integer ds := by
  unfold Does0 g_is_integer
  split
  · rename_i d
    split
    · rename_i hd
      cases d <;> first
        | (cases hd; done)
        | (simp [s_law_plain, N_law_plain, startD, denS, den, isiD_dat hd, isT, notD, truD, isI]; done)
    · simp
  · simp
def g_law_value : List D → Rs
  | [.fn x, .tup as] => if D.flats as = true then (match g_law_told [.fn x, .tup as] with
    | .v (.tup [.str s, d]) => if s = "told" then .v d else .b
    | _ => .b) else .b
  | _ => .b
theorem d_law_value {t : Rt} (H1 : Has t "_law_told" 2 (pureF g_law_told)) (ds : List D) : Does0 t s_law_value N_law_value g_law_value ds := by
  unfold Does0 g_law_value
  split
  · rename_i x as
    split
    · rename_i hf
      split
      · rename_i s d e
        split
        · rename_i c
          subst c
          have k1 : ∀ h, callD (pureF g_law_told) [.fn x, .tup as] h = .ok (.tup [.str "told", d]) h := fun h => k_law_told e hf
          have k2 : ∀ h, cmpD .Eq (.str "told") (.str "told") h = .ok (.bl true) h := fun h => cmp_Eq (eqD_ss (by decide +kernel))
          simp [s_law_value, N_law_value, startD, denS, den, H1.ar, H1.orc, H1.dfl, k1, k2]
        · simp
      · simp
    · simp
  · simp
theorem k_law_value {x : Str} {as : List D} {v : D} {h : Hd} (hf : D.flats as = true) (e : g_law_told [.fn x, .tup as] = .v (.tup [.str "told", v])) : callD (pureF g_law_value) [.fn x, .tup as] h = .ok v h :=
  call_pure (r := .v v) (by
    unfold g_law_value
    simp only [hf, if_true, e]) (by
    show (true && (D.flats as && true)) = true
    rw [hf]
    rfl) (by
    have fl := told_flat [.fn x, .tup as]
    rw [e] at fl
    have : (true && (v.flat && true)) = true := fl
    simpa [Rs.flat] using this)
/-! ### times -/
def g_law_times : List D → Rs := g_product_by
theorem d_law_times {t : Rt} (ds : List D) : Does0 t s_law_times N_law_times g_product_by ds := by
  unfold Does0 g_product_by
  split
  · rename_i d n a b e f
    split
    · rename_i c
      obtain ⟨c0, c1, c2, c3, c4, c5⟩ := c
      have q1 : ∀ x h, binD .Mod (.int x) (.int n) h = .ok (.int (x % n)) h := fun x h => bin_mod c0
      simp [s_law_times, N_law_times, startD, denS, den, q1, S63_mul c1, S63_mul c2, S63_mul c3, S63_mulr c5, szB_le, mulP]
    · simp
  · simp
/-! ### common -/
def comF (a b : Int) : Int := if h : 0 < b then comF b (a % b) else a
termination_by b.toNat
decreasing_by
  have := Int.emod_lt_of_pos a h
  have := Int.emod_nonneg a (Int.ne_of_gt h)
  omega
theorem com_loop {t : Rt} (n : Nat) : ∀ (a b : Int) (h : Hd), b.toNat ≤ n → 0 ≤ b → ∃ b', denS t w_law_common_2 none [some (.int a), some (.int b)] h = .nx [some (.int (comF a b)), b'] h := by
  induction n with
  | zero =>
    intro a b h hn hb
    have b0 : b = 0 := by omega
    subst b0
    have e : comF a 0 = a := by rw [comF]; simp
    rw [e, un_w_law_common_2]
    simp [den]
  | succ n ih =>
    intro a b h hn hb
    by_cases p : 0 < b
    · have e : comF a b = comF b (a % b) := by rw [comF]; simp [p]
      have l1 := Int.emod_lt_of_pos a p
      have l2 := Int.emod_nonneg a (Int.ne_of_gt p)
      have q1 : ∀ h, binD .Mod (.int a) (.int b) h = .ok (.int (a % b)) h := fun h => bin_mod p
      obtain ⟨b', z⟩ := ih b (a % b) h (by omega) l2
      refine ⟨b', ?_⟩
      rw [e, un_w_law_common_2]
      simp [b_law_common_1, den, denS, p, q1, szB_le, z]
    · have b0 : b = 0 := by omega
      subst b0
      have e : comF a 0 = a := by rw [comF]; simp
      rw [e, un_w_law_common_2]
      simp [den]
def g_law_common : List D → Rs
  | [.int a, .int b] => if 0 ≤ b then .v (.int (comF a b)) else .b
  | _ => .b
theorem d_law_common {t : Rt} (ds : List D) : Does0 t s_law_common N_law_common g_law_common ds := by
  unfold Does0 g_law_common
  split
  · rename_i a b
    split
    · rename_i c
      obtain ⟨b', z⟩ := com_loop (t := t) b.toNat a b [] (Nat.le_refl _) c
      simp [s_law_common, N_law_common, startD, denS, den, z]
    · simp
  · simp
theorem k_law_common {a b : Int} {h : Hd} (c : 0 ≤ b) : callD (pureF g_law_common) [.int a, .int b] h = .ok (.int (comF a b)) h :=
  call_pure (r := .v (.int (comF a b))) (if_pos c) rfl rfl
end K42

namespace Ev
open PySem PySem.Spec PyProof.Rows L2
theorem rngD_cons (lo : Int) (n : Nat) : rngD lo (n + 1) = .int lo :: rngD (lo + 1) n := by
  unfold rngD
  rw [List.range_succ_eq_map, List.map_cons, List.map_map]
  congr 1
  · simp
  · apply List.map_congr_left
    intro k _
    simp
    omega
end Ev
namespace K42
open PySem PySem.Spec PyProof.Rows L2 Ev
/-! ### prime -/
def primF : Nat → Int → Int → Option Bool
  | 0, _, _ => none
  | f + 1, d, n => if n < d * d then some true else if n % d = 0 then some false else primF f (d + 1) n
theorem prime_loop {t : Rt} {n : Int} {all : List D} {r : Bool} (f : Nat) : ∀ (d : Int) (l : Nat) (lo : Int) (o : Option D) (h : Hd), f ≤ l → 0 < d → d + f < 2 ^ 30 → primF f d n = some r →
    ∃ h', forD (.n 2) (denS t b_law_prime_1 none) .non all (rngD lo l) [some (.int n), some (.int d), o] h = .rt (.bl r) h' := by
  induction f with
  | zero => intro d l lo o h _ _ _ e; cases e
  | succ f ih =>
    intro d l lo o h hl hd hd2 e
    obtain ⟨m, rfl⟩ : ∃ m, l = m + 1 := ⟨l - 1, by omega⟩
    rw [rngD_cons, forD_cons]
    have q1 : ∀ h, binD .Mult (.int d) (.int d) h = .ok (.int (d * d)) h := fun h => bin_mul (mulB_l (by omega))
    have q2 : ∀ h, binD .Mod (.int n) (.int d) h = .ok (.int (n % d)) h := fun h => bin_mod hd
    unfold primF at e
    by_cases c1 : n < d * d
    · rw [if_pos c1] at e
      cases e
      simp [b_law_prime_1, den, denS, q1, c1]
    · rw [if_neg c1] at e
      by_cases c2 : n % d = 0
      · rw [if_pos c2] at e
        cases e
        simp [b_law_prime_1, den, denS, q1, q2, c1, c2]
      · rw [if_neg c2] at e
        have body : denS t b_law_prime_1 none [some (.int n), some (.int d), some (.int lo)] h = .nx [some (.int n), some (.int (d + 1)), some (.int lo)] h := by
          simp [b_law_prime_1, den, denS, q1, q2, c1, c2]
        simp only [bindT_n, List.set_cons_succ, List.set_cons_zero, body]
        exact ih (d + 1) m (lo + 1) (some (.int lo)) h (by omega) (by omega) (by omega) e
theorem prime_it {t : Rt} {σ : En} {h : Hd} : den t (.itR (.cons (.int 2) (.cons (.int 40000) .nil))) σ h = .ok (.tup [.tup (rngD 2 39998), .non]) h := by
  have r := rng2 (a := 2) (b := 40000) (h := h) (by decide)
  have e : (40000 - 2 : Int).toNat = 39998 := by decide
  rw [e] at r
  simp only [den, R.bind_ok]
  exact r
def g_law_prime : List D → Rs
  | [.int n] => if 2 ≤ n then (match primF 50 2 n with
    | some r => .v (.bl r)
    | none => .b) else .b
  | _ => .b
theorem d_law_prime {t : Rt} (ds : List D) : Does0 t s_law_prime N_law_prime g_law_prime ds := by
  unfold Does0 g_law_prime
  split
  · rename_i n
    split
    · rename_i c
      cases e : primF 50 2 n with
      | none => simp
      | some r =>
        obtain ⟨h', z⟩ := prime_loop (t := t) (all := rngD 2 39998) 50 2 39998 2 none [] (by decide) (by decide) (by decide) e
        generalize hL : rngD 2 39998 = L at *
        have it : ∀ σ h, den t (.itR (.cons (.int 2) (.cons (.int 40000) .nil))) σ h = .ok (.tup [.tup L, .non]) h := fun σ h => by rw [← hL]; exact prime_it
        have ev : denS t (.for_ (.n 2) (.itR (.cons (.int 2) (.cons (.int 40000) .nil))) b_law_prime_1) none [some (.int n), some (.int 2), none] [] = .rt (.bl r) h' := by
          show ((den t (.itR (.cons (.int 2) (.cons (.int 40000) .nil))) [some (.int n), some (.int 2), none] []).thn _ _) = _
          rw [it]
          exact z
        generalize hw : Sm.for_ (.n 2) (.itR (.cons (.int 2) (.cons (.int 40000) .nil))) b_law_prime_1 = w at *
        have c' : ¬ n < 2 := by omega
        have es : s_law_prime = (.seq (.ife (.cmp .Lt (.var 0) (.int 2)) (.seq (.ret (.bl false)) .nil) .nil) (.seq (.asg (.n 1) (.int 2)) (.seq w (.seq (.ret (.bl true)) .nil)))) := by rw [← hw]; rfl
        rw [es]
        simp [N_law_prime, startD, denS, den, c', ev]
    · simp
  · simp
/-! ### rest -/
def restL (n : Int) : Nat → Int → Int → Int → Int
  | 0, f, _, _ => f
  | m + 1, f, o, k => if 0 < k then restL n m (if k % 2 = 1 then f * o % n else f) (o * o % n) (k / 2) else restL n m f o k
theorem rest_loop {t : Rt} {n : Int} (hn : 0 < n) (hn2 : n < 2 ^ 63) {all : List D} (x0 : Option D) : ∀ (m : Nat) (lo k f o : Int) (x3 : Option D) (h : Hd), 0 ≤ f → f < n → 0 ≤ o → o < n → ∃ a b c,
    forD (.n 3) (denS t b_law_rest_1 none) .non all (rngD lo m) [x0, some (.int k), some (.int n), x3, some (.int f), some (.int o)] h = .nx [x0, a, some (.int n), b, some (.int (restL n m f o k)), c] h
  | 0, lo, k, f, o, x3, h, _, _, _, _ => ⟨_, _, _, forD_nil⟩
  | m + 1, lo, k, f, o, x3, h, f1, f2, o1, o2 => by
    rw [rngD_cons, forD_cons]
    have q1 : ∀ x h, binD .Mod (.int x) (.int n) h = .ok (.int (x % n)) h := fun x h => bin_mod hn
    have q2 : ∀ h, binD .Mod (.int k) (.int 2) h = .ok (.int (k % 2)) h := fun h => bin_mod (by decide)
    have q3 : ∀ h, binD .FloorDiv (.int k) (.int 2) h = .ok (.int (k / 2)) h := fun h => bin_div (divB_of (by decide) (by decide))
    have q4 : ∀ x h, binD .Mult (.int x) (.int o) h = .ok (.int (x * o)) h := fun x h => bin_mul (mulB_r (by omega))
    have e1 := Int.emod_nonneg (o * o) (Int.ne_of_gt hn)
    have e2 := Int.emod_lt_of_pos (o * o) hn
    have e3 := Int.emod_nonneg (f * o) (Int.ne_of_gt hn)
    have e4 := Int.emod_lt_of_pos (f * o) hn
    simp only [bindT_n, List.set_cons_succ, List.set_cons_zero]
    unfold restL
    by_cases c : 0 < k
    · rw [if_pos c]
      have body : denS t b_law_rest_1 none [x0, some (.int k), some (.int n), some (.int lo), some (.int f), some (.int o)] h = .nx [x0, some (.int (k / 2)), some (.int n), some (.int lo), some (.int (if k % 2 = 1 then f * o % n else f)), some (.int (o * o % n))] h := by
        by_cases c2 : k % 2 = 1
        · simp [b_law_rest_1, den, denS, q1, q2, q3, q4, c, c2, szB_le]
        · simp [b_law_rest_1, den, denS, q1, q2, q3, q4, c, c2, szB_le]
      rw [body]
      simp only
      by_cases c2 : k % 2 = 1
      · rw [if_pos c2]
        exact rest_loop hn hn2 x0 m (lo + 1) (k / 2) _ _ _ h e3 e4 e1 e2
      · rw [if_neg c2]
        exact rest_loop hn hn2 x0 m (lo + 1) (k / 2) _ _ _ h f1 f2 e1 e2
    · rw [if_neg c]
      have body : denS t b_law_rest_1 none [x0, some (.int k), some (.int n), some (.int lo), some (.int f), some (.int o)] h = .nx [x0, some (.int k), some (.int n), some (.int lo), some (.int f), some (.int o)] h := by
        simp [b_law_rest_1, den, denS, c]
      rw [body]
      simp only
      exact rest_loop hn hn2 x0 m (lo + 1) k f o _ h f1 f2 o1 o2
def g_law_rest : List D → Rs
  | [.int a, .int k, .int n] => if 0 < n ∧ n < 2 ^ 63 then .v (.int (restL n 64 (1 % n) (a % n) k)) else .b
  | _ => .b
theorem rest_it {t : Rt} {σ : En} {h : Hd} : den t (.itR (.cons (.int 64) .nil)) σ h = .ok (.tup [.tup (rngD 0 64), .non]) h := by
  have r := rng1 (n := 64) (h := h) (by decide)
  have e : (64 : Int).toNat = 64 := by decide
  rw [e] at r
  simp only [den, R.bind_ok]
  exact r
theorem d_law_rest {t : Rt} (ds : List D) : Does0 t s_law_rest N_law_rest g_law_rest ds := by
  unfold Does0 g_law_rest
  split
  · rename_i a k n
    split
    · rename_i c
      obtain ⟨c1, c2⟩ := c
      have q1 : ∀ x h, binD .Mod (.int x) (.int n) h = .ok (.int (x % n)) h := fun x h => bin_mod c1
      obtain ⟨u, v, w, z⟩ := rest_loop (t := t) c1 c2 (all := rngD 0 64) (some (.int a)) 64 0 k (1 % n) (a % n) none [] (Int.emod_nonneg _ (Int.ne_of_gt c1)) (Int.emod_lt_of_pos _ c1) (Int.emod_nonneg _ (Int.ne_of_gt c1)) (Int.emod_lt_of_pos _ c1)
      have ev : denS t (.for_ (.n 3) (.itR (.cons (.int 64) .nil)) b_law_rest_1) none [some (.int a), some (.int k), some (.int n), none, some (.int (1 % n)), some (.int (a % n))] [] = .nx [some (.int a), u, some (.int n), v, some (.int (restL n 64 (1 % n) (a % n) k)), w] [] := by
        show ((den t (.itR (.cons (.int 64) .nil)) _ []).thn _ _) = _
        rw [rest_it]
        exact z
      generalize restL n 64 (1 % n) (a % n) k = rr at *
      generalize hw : Sm.for_ (.n 3) (.itR (.cons (.int 64) .nil)) b_law_rest_1 = ww at *
      have es : s_law_rest = (.seq (.asg (.t (.cons (.n 4) (.cons (.n 5) .nil))) (.tup (.cons (.bin .Mod (.int 1) (.var 2)) (.cons (.bin .Mod (.bi .int (.cons (.var 0) .nil)) (.var 2)) .nil)))) (.seq ww (.seq (.ret (.var 4)) .nil))) := by rw [← hw]; rfl
      rw [es]
      simp [N_law_rest, startD, denS, den, q1, szB_le, ev]
    · simp
  · simp
theorem k_law_rest {a k n : Int} {h : Hd} (c1 : 0 < n) (c2 : n < 2 ^ 63) : callD (pureF g_law_rest) [.int a, .int k, .int n] h = .ok (.int (restL n 64 (1 % n) (a % n) k)) h :=
  call_pure (r := .v (.int (restL n 64 (1 % n) (a % n) k))) (if_pos ⟨c1, c2⟩) rfl rfl
theorem k_law_prime {n : Int} {r : Bool} {h : Hd} (c : 2 ≤ n) (e : primF 50 2 n = some r) : callD (pureF g_law_prime) [.int n] h = .ok (.bl r) h :=
  call_pure (r := .v (.bl r)) (by unfold g_law_prime; simp only [c, if_true, e]) rfl rfl
/-! ### bads -/
abbrev malD : D := .tup [.str "malformed", .non]
open Classical in
noncomputable def p_law_bads : List D → Hd → R D
  | [.fn x, .tup as, .int i, .loc 0], [.lst bads] => if D.flats as = true ∧ D.flats bads = true ∧ 0 ≤ i ∧ i.toNat < as.length ∧ (∀ b ∈ bads, g_law_told [.fn x, .tup (as.set i.toNat b)] = .v malD) then .ok (.bl true) [.lst bads] else .bad
  | _, _ => .bad
theorem flats_set : ∀ {as : List D} {i : Nat} {b : D}, D.flats as = true → b.flat = true → D.flats (as.set i b) = true
  | [], _, _, h, _ => h
  | a :: as, 0, b, h, hb => by
    obtain ⟨h1, h2⟩ := and3 (show (a.flat && D.flats as) = true from h)
    show (b.flat && D.flats as) = true
    rw [hb, h2]; rfl
  | a :: as, i + 1, b, h, hb => by
    obtain ⟨h1, h2⟩ := and3 (show (a.flat && D.flats as) = true from h)
    show (a.flat && D.flats (as.set i b)) = true
    rw [h1, flats_set h2 hb]; rfl
theorem flats_mem : ∀ {as : List D} {b : D}, D.flats as = true → b ∈ as → b.flat = true
  | a :: as, b, h, hm => by
    obtain ⟨h1, h2⟩ := and3 (show (a.flat && D.flats as) = true from h)
    rcases List.mem_cons.mp hm with rfl | hm
    · exact h1
    · exact flats_mem h2 hm
theorem six_new {h : Hd} {as : List D} {i : Int} {b : D} (h0 : 0 ≤ i) (h1 : i.toNat < as.length) : sixD (.loc h.length) (.int i) b (h ++ [.lst as]) = some (h ++ [.lst (as.set i.toNat b)]) := by
  unfold sixD
  simp only [fro_get]
  have : L2.ixN as.length i = some i.toNat := by
    unfold L2.ixN
    rw [if_pos h0, if_pos (by omega)]
  rw [this]
  simp
theorem bads_loop {t : Rt} (H1 : Has t "_law_told" 2 (pureF g_law_told)) {x : Str} {as : List D} {i : Int} {all : List D} (h0 : 0 ≤ i) (h1 : i.toNat < as.length) (ha : D.flats as = true) : ∀ (bads : List D) (o1 o2 : Option D) (rest : Hd), D.flats bads = true → (∀ b ∈ bads, g_law_told [.fn x, .tup (as.set i.toNat b)] = .v malD) → ∃ o1' o2' rest',
    forD (.n 4) (denS t b_law_bads_1 none) (.loc 0) all bads [some (.fn x), some (.tup as), some (.int i), some (.loc 0), o1, o2] (.lst all :: rest) = .nx [some (.fn x), some (.tup as), some (.int i), some (.loc 0), o1', o2'] (.lst all :: rest')
  | [], o1, o2, rest, _, _ => ⟨o1, o2, rest, forL_nil rfl⟩
  | b :: bads, o1, o2, rest, hf, hm => by
    obtain ⟨f1, f2⟩ := and3 (show (b.flat && D.flats bads) = true from hf)
    have k1 : ∀ h, callD (pureF g_law_told) [.fn x, .tup (as.set i.toNat b)] h = .ok malD h := fun h => k_law_told (hm b List.mem_cons_self) (flats_set ha f1)
    have ne : ∀ h, cmpD .NotEq malD malD h = .ok (.bl false) h := fun h => cmp_NotEq (r := true) (by kernel_rfl)
    have body : ∀ h : Hd, denS t b_law_bads_1 none [some (.fn x), some (.tup as), some (.int i), some (.loc 0), some b, o2] h = .nx [some (.fn x), some (.tup as), some (.int i), some (.loc 0), some b, some (.loc h.length)] (h ++ [.lst (as.set i.toNat b)]) := by
      intro h
      have s1 := six_new (h := h) (b := b) h0 h1
      have t1 : biD .tuple [.loc h.length] (h ++ [.lst (as.set i.toNat b)]) = .ok (.tup (as.set i.toNat b)) (h ++ [.lst (as.set i.toNat b)]) := by
        unfold biD
        simp only [items, fro_get]
      have l1 : biD .list [.tup as] h = .ok (.loc h.length) (h ++ [.lst as]) := rfl
      generalize hh : h ++ [O.lst (as.set i.toNat b)] = h2 at *
      generalize hh3 : h ++ [O.lst as] = h3 at *
      generalize hhl : h.length = hl at *
      simp [b_law_bads_1, den, denS, H1.ar, H1.orc, H1.dfl, k1, ne, s1, t1, l1, szB_le]
    obtain ⟨o1', o2', rest', z⟩ := bads_loop H1 (all := all) h0 h1 ha bads (some b) (some (.loc (O.lst all :: rest).length)) (rest ++ [.lst (as.set i.toNat b)]) f2 (fun b' hb' => hm b' (List.mem_cons_of_mem _ hb'))
    refine ⟨o1', o2', rest', ?_⟩
    rw [forL_cons rfl]
    simp only [bindT_n, List.set_cons_succ, List.set_cons_zero]
    rw [body]
    exact z
theorem d_law_bads {t : Rt} (H1 : Has t "_law_told" 2 (pureF g_law_told)) (ds : List D) (os : Hd) : p_law_bads ds os = .bad ∨ trimR os.length (denS t s_law_bads none (startD N_law_bads ds) os) = p_law_bads ds os := by
  unfold p_law_bads
  split
  · rename_i x as i bads
    split
    · rename_i c
      obtain ⟨c1, c2, c3, c4, c5⟩ := c
      right
      obtain ⟨o1, o2, rest, z⟩ := bads_loop (t := t) H1 (all := bads) c3 c4 c1 bads none none [] c2 c5
      have ev : denS t s_law_bads none (startD N_law_bads [.fn x, .tup as, .int i, .loc 0]) [.lst bads] = .rt (.bl true) (.lst bads :: rest) := by
        simp [s_law_bads, N_law_bads, startD, denS, den, seqI, z]
      rw [ev]
      unfold trimR
      have fo : O.flat (.lst bads) = true := c2
      simp [D.ls, uniq, getAll, fo, D.nox, D.ml, List.range_succ]
    · exact .inl rfl
  · exact .inl rfl
end K42

/-! the plain law of k42 -/
namespace K42
open PySem Ev
theorem em {n A B : Int} (c : Int) (h : A = B + n * c) : A % n = B % n := by
  rw [h, Int.add_mul_emod_self_left]
theorem ed (n x : Int) : ∃ k, x % n = x - n * k := ⟨x / n, by have := Int.emod_def x n; omega⟩
abbrev Red (n : Int) (p : Int × Int) : Prop := p.1 % n = p.1 ∧ p.2 % n = p.2
theorem mul_red (d n : Int) (p q : Int × Int) : Red n (mulP d n p q) := ⟨Int.emod_emod_of_dvd _ (Int.dvd_refl n), Int.emod_emod_of_dvd _ (Int.dvd_refl n)⟩
theorem mul_comm' (d n : Int) (p q : Int × Int) : mulP d n p q = mulP d n q p := by
  unfold mulP
  exact Prod.ext (congrArg (· % n) (by grind)) (congrArg (· % n) (by grind))
theorem mul_assoc' (d n : Int) (p q r : Int × Int) : mulP d n (mulP d n p q) r = mulP d n p (mulP d n q r) := by
  unfold mulP
  obtain ⟨k1, e1⟩ := ed n (p.1 * q.1 + d * p.2 * q.2)
  obtain ⟨k2, e2⟩ := ed n (p.1 * q.2 + p.2 * q.1)
  obtain ⟨k3, e3⟩ := ed n (q.1 * r.1 + d * q.2 * r.2)
  obtain ⟨k4, e4⟩ := ed n (q.1 * r.2 + q.2 * r.1)
  simp only [e1, e2, e3, e4]
  refine Prod.ext (em (p.1 * k3 + d * p.2 * k4 - k1 * r.1 - d * k2 * r.2) (by grind)) (em (p.1 * k4 + p.2 * k3 - k1 * r.2 - k2 * r.1) (by grind))
theorem one_mul' {d n : Int} {p : Int × Int} (h : Red n p) : mulP d n p (1 % n, 0) = p := by
  unfold mulP
  obtain ⟨k, e⟩ := ed n 1
  simp only [e]
  refine Prod.ext ?_ ?_
  · show (p.1 * (1 - n * k) + d * p.2 * 0) % n = p.1
    rw [em (B := p.1) (-(p.1 * k)) (by grind)]
    exact h.1
  · show (p.1 * 0 + p.2 * (1 - n * k)) % n = p.2
    rw [em (B := p.2) (-(p.2 * k)) (by grind)]
    exact h.2
/-! powers -/
def itP (d n : Int) (p : Int × Int) : Nat → Int × Int
  | 0 => (1 % n, 0)
  | k + 1 => mulP d n (itP d n p k) p
theorem one_red (n : Int) : Red n (1 % n, 0) := ⟨Int.emod_emod_of_dvd _ (Int.dvd_refl n), Int.zero_emod n⟩
theorem it_red (d n : Int) (p : Int × Int) : ∀ k, Red n (itP d n p k)
  | 0 => one_red n
  | k + 1 => mul_red _ _ _ _
theorem it_add (d n : Int) (p : Int × Int) (j : Nat) : ∀ k, itP d n p (j + k) = mulP d n (itP d n p j) (itP d n p k)
  | 0 => (one_mul' (it_red d n p j)).symm
  | k + 1 => by
    show mulP d n (itP d n p (j + k)) p = mulP d n (itP d n p j) (mulP d n (itP d n p k) p)
    rw [it_add d n p j k, mul_assoc']
theorem it_mul (d n : Int) (p q : Int × Int) : ∀ k, itP d n (mulP d n p q) k = mulP d n (itP d n p k) (itP d n q k)
  | 0 => (one_mul' (one_red n)).symm
  | k + 1 => by
    show mulP d n (itP d n (mulP d n p q) k) (mulP d n p q) = mulP d n (mulP d n (itP d n p k) p) (mulP d n (itP d n q k) q)
    rw [it_mul d n p q k, mul_assoc', mul_assoc', ← mul_assoc' d n (itP d n q k) p q, mul_comm' d n (itP d n q k) p, mul_assoc' d n p]
theorem it_dbl (d n : Int) (p : Int × Int) (k : Nat) : itP d n (mulP d n p p) k = itP d n p (k + k) := by
  rw [it_mul, it_add]
theorem pow_it (d n : Int) : ∀ (k : Nat) (f o : Int × Int), Red n f → powF d n f o k = mulP d n f (itP d n o k) := by
  intro k
  induction k using Nat.strongRecOn with
  | _ k ih =>
    intro f o hf
    rw [powF]
    by_cases c : k = 0
    · rw [dif_pos c, c]
      exact (one_mul' hf).symm
    · rw [dif_neg c, ih (k / 2) (by omega)]
      · rw [it_dbl]
        by_cases o1 : k % 2 = 1
        · rw [if_pos o1, mul_assoc']
          have : k = 1 + (k / 2 + k / 2) := by omega
          conv => rhs; rw [this, it_add]
          have e1 : itP d n o 1 = mulP d n (1 % n, 0) o := rfl
          rw [e1]
          have e2 : mulP d n (mulP d n (1 % n, 0) o) (itP d n o (k / 2 + k / 2)) = mulP d n o (itP d n o (k / 2 + k / 2)) := by
            rw [mul_assoc', mul_comm', one_mul' (mul_red _ _ _ _)]
          rw [e2]
        · rw [if_neg o1]
          have : k = k / 2 + k / 2 := by omega
          conv => rhs; rw [this]
      · by_cases o1 : k % 2 = 1
        · rw [if_pos o1]; exact mul_red _ _ _ _
        · rw [if_neg o1]; exact hf
theorem pow_one (d n : Int) (o : Int × Int) (k : Nat) : powF d n (1 % n, 0) o k = itP d n o k := by
  rw [pow_it _ _ _ _ _ (one_red n), mul_comm', one_mul' (it_red _ _ _ _)]
/-! norms -/
theorem norm_mul (d n : Int) (p q : Int × Int) : normP d n (mulP d n p q) = normP d n p * normP d n q % n := by
  unfold normP mulP
  obtain ⟨k1, e1⟩ := ed n (p.1 * q.1 + d * p.2 * q.2)
  obtain ⟨k2, e2⟩ := ed n (p.1 * q.2 + p.2 * q.1)
  obtain ⟨k3, e3⟩ := ed n (p.1 * p.1 - d * p.2 * p.2)
  obtain ⟨k4, e4⟩ := ed n (q.1 * q.1 - d * q.2 * q.2)
  simp only [e1, e2, e3, e4]
  generalize hA : p.1 * q.1 + d * p.2 * q.2 = A
  generalize hB : p.1 * q.2 + p.2 * q.1 = B
  generalize hC : p.1 * p.1 - d * p.2 * p.2 = C
  generalize hD : q.1 * q.1 - d * q.2 * q.2 = D
  have key : A * A - d * B * B = C * D := by rw [← hA, ← hB, ← hC, ← hD]; grind
  refine em (n * k1 * k1 - 2 * A * k1 + 2 * d * B * k2 - n * d * k2 * k2 + C * k4 + D * k3 - n * k3 * k4) ?_
  grind
/-! backs -/
theorem shares_com : ∀ (n : Nat) (a b x y u v : Int), b.toNat ≤ n → 0 ≤ b → (sharesF a b x y u v).1 = comF a b := by
  intro n
  induction n with
  | zero =>
    intro a b x y u v hn hb
    have b0 : b = 0 := by omega
    subst b0
    rw [sharesF, comF]; simp
  | succ n ih =>
    intro a b x y u v hn hb
    rw [sharesF, comF]
    by_cases p : 0 < b
    · rw [dif_pos p, dif_pos p]
      have l1 := Int.emod_lt_of_pos a p
      have l2 := Int.emod_nonneg a (Int.ne_of_gt p)
      exact ih _ _ _ _ _ _ (by omega) l2
    · rw [dif_neg p, dif_neg p]
theorem shares_bez {A B : Int} : ∀ (n : Nat) (a b x y u v : Int), b.toNat ≤ n → 0 ≤ b → a = A * x + B * y → b = A * u + B * v → (sharesF a b x y u v).1 = A * (sharesF a b x y u v).2.1 + B * (sharesF a b x y u v).2.2 := by
  intro n
  induction n with
  | zero =>
    intro a b x y u v hn hb ha hb2
    have b0 : b = 0 := by omega
    subst b0
    rw [sharesF]; simpa using ha
  | succ n ih =>
    intro a b x y u v hn hb ha hb2
    rw [sharesF]
    by_cases p : 0 < b
    · rw [dif_pos p]
      have l1 := Int.emod_lt_of_pos a p
      have l2 := Int.emod_nonneg a (Int.ne_of_gt p)
      refine ih _ _ _ _ _ _ (by omega) l2 hb2 ?_
      have e := Int.emod_def a b
      rw [e]
      generalize a / b = q
      rw [ha, hb2]
      grind
    · rw [dif_neg p]; exact ha
theorem back_iff {a n : Int} (hn : 0 < n) : (∃ k, backF a n = some k) ↔ comF (a % n) n = 1 := by
  unfold backF
  rw [shares_com n.toNat _ _ _ _ _ _ (Nat.le_refl _) (by omega)]
  by_cases c : comF (a % n) n = 1
  · rw [if_pos c]; exact ⟨fun _ => c, fun _ => ⟨_, rfl⟩⟩
  · rw [if_neg c]; exact ⟨fun ⟨k, e⟩ => (nomatch e), fun e => absurd e c⟩
theorem back_mul {a n k : Int} (hn : 1 < n) (h : backF a n = some k) : ∃ c, a * k = 1 + n * c := by
  unfold backF at h
  split at h
  · rename_i g
    cases h
    have b := shares_bez (A := a % n) (B := n) n.toNat (a % n) n 1 0 0 1 (Nat.le_refl _) (by omega) (by grind) (by grind)
    rw [g] at b
    generalize (sharesF (a % n) n 1 0 0 1).2.1 = X at *
    generalize (sharesF (a % n) n 1 0 0 1).2.2 = Y at *
    obtain ⟨k1, e1⟩ := ed n a
    obtain ⟨k2, e2⟩ := ed n X
    rw [e1] at b
    rw [e2]
    exact ⟨X * k1 - Y - a * k2, by grind⟩
  · cases h
theorem back_prod {d n : Int} {p q : Int × Int} (hn : 1 < n) (h : backP d n p = some q) : mulP d n p q = (1, 0) := by
  unfold backP at h
  obtain ⟨k, e, rfl⟩ := Option.map_eq_some_iff.mp h
  obtain ⟨c, hc⟩ := back_mul hn e
  unfold normP at hc
  obtain ⟨k0, e0⟩ := ed n (p.1 * p.1 - d * p.2 * p.2)
  rw [e0] at hc
  unfold mulP
  obtain ⟨k1, e1⟩ := ed n (p.1 * k)
  obtain ⟨k2, e2⟩ := ed n (-p.2 * k)
  simp only [e1, e2]
  refine Prod.ext ?_ ?_
  · show (p.1 * (p.1 * k - n * k1) + d * p.2 * (-p.2 * k - n * k2)) % n = 1
    rw [em (B := 1) (c + k0 * k - p.1 * k1 - d * p.2 * k2) (by grind)]
    exact Int.emod_eq_of_lt (by decide) hn
  · show (p.1 * (-p.2 * k - n * k2) + p.2 * (p.1 * k - n * k1)) % n = 0
    rw [em (B := 0) (-(p.1 * k2) - p.2 * k1) (by grind)]
    exact Int.zero_emod n
theorem com_zero {n : Int} (hn : 0 < n) : comF 0 n = n := by
  rw [comF, dif_pos hn, Int.zero_emod, comF, dif_neg (by decide)]
/-! circles -/
theorem circ_props {d n t u v : Int} (hn : 1 < n) (h : circP d n t = some (u, v)) :
    (u * ((t * t - d) % n) - t * t - d) % n = 0 ∧ (v * ((t * t - d) % n) - 2 * t) % n = 0 ∧ (u * u - d * v * v - 1) % n = 0 ∧ 0 ≤ u ∧ u < n ∧ 0 ≤ v ∧ v < n := by
  unfold circP at h
  obtain ⟨k, e, e'⟩ := Option.map_eq_some_iff.mp h
  cases e'
  obtain ⟨c, hc⟩ := back_mul hn e
  have hp : 0 < n := by omega
  refine ⟨?_, ?_, ?_, Int.emod_nonneg _ (Int.ne_of_gt hp), Int.emod_lt_of_pos _ hp, Int.emod_nonneg _ (Int.ne_of_gt hp), Int.emod_lt_of_pos _ hp⟩
  · obtain ⟨k1, e1⟩ := ed n ((t * t + d) * k)
    obtain ⟨k2, e2⟩ := ed n (t * t - d)
    rw [e1, e2]
    rw [em (B := 0) ((t * t + d) * c - k1 * (t * t - d) - k2 * ((t * t + d) * k - n * k1)) (by grind)]
    exact Int.zero_emod n
  · obtain ⟨k1, e1⟩ := ed n (2 * t * k)
    obtain ⟨k2, e2⟩ := ed n (t * t - d)
    rw [e1, e2]
    rw [em (B := 0) (2 * t * c - k1 * (t * t - d) - k2 * (2 * t * k - n * k1)) (by grind)]
    exact Int.zero_emod n
  · obtain ⟨k1, e1⟩ := ed n ((t * t + d) * k)
    obtain ⟨k2, e2⟩ := ed n (2 * t * k)
    rw [e1, e2]
    have sq : (t * t + d) * k * ((t * t + d) * k) - d * (2 * t * k) * (2 * t * k) = (1 + n * c) * (1 + n * c) := by
      rw [← hc]; grind
    rw [em (B := 0) (2 * c + n * c * c - 2 * ((t * t + d) * k) * k1 + n * k1 * k1 + 2 * d * (2 * t * k) * k2 - d * n * k2 * k2) (by grind)]
    exact Int.zero_emod n
end K42

/-! k42: circles of primes: a finite look -/
namespace K42
open PySem Ev
def powG (d n : Int) : Nat → Int × Int → Int × Int → Nat → Int × Int
  | 0, f, _, _ => f
  | m + 1, f, o, k => if k = 0 then f else powG d n m (if k % 2 = 1 then mulP d n f o else f) (mulP d n o o) (k / 2)
theorem powG_eq (d n : Int) : ∀ (m : Nat) (f o : Int × Int) (k : Nat), k < 2 ^ m → powG d n m f o k = powF d n f o k
  | 0, f, o, k, h => by
    have : k = 0 := by simpa using h
    subst this
    rw [powF]; simp [powG]
  | m + 1, f, o, k, h => by
    rw [powF]
    unfold powG
    by_cases c : k = 0
    · simp [c]
    · rw [if_neg c, dif_neg c]
      exact powG_eq d n m _ _ _ (by rw [Nat.pow_succ] at h; omega)
def cntN (n e : Nat) : Nat := (List.range n).foldl (fun a u => (List.range n).foldl (fun a v => if (u * u + (n - e) * v * v + (n - 1)) % n = 0 then a + 1 else a) a) 0
def chkC (n : Nat) (e : Nat) : Bool := cntN n e == n + 1 && ((List.range n).all (fun c => decide (powG e n 6 (1 % (n : Int), 0) ((c : Int), 1) n = ((c : Int), (-1) % (n : Int)))))
def chkB (n : Nat) : Bool := (List.range n).all (fun b => decide (powG 0 n 6 (1 % (n : Int), 0) ((b : Int), 0) n = ((b : Int), 0)) && (decide (b = 0) || (List.range n).any fun b' => b * b' % n == 1))
def allC : Bool := (List.range 22).all fun j => if primF 50 2 ((3 + 2 * j : Nat) : Int) = some true then chkB (3 + 2 * j) && (List.range (3 + 2 * j)).all fun e => decide (e = 0) || (decide (restL ((3 + 2 * j : Nat) : Int) 64 (1 % ((3 + 2 * j : Nat) : Int)) (e : Int) ((((3 + 2 * j : Nat) : Int) - 1) / 2) ≠ ((3 + 2 * j : Nat) : Int) - 1) || chkC (3 + 2 * j) e) else true
theorem all_ok : allC = true := by decide +kernel
end K42

/-! k42: circles of primes -/
namespace K42
open PySem Ev
theorem mulP_mod (d n : Int) (p q : Int × Int) : mulP d n p q = mulP (d % n) n p q := by
  unfold mulP
  obtain ⟨k, e⟩ := ed n d
  rw [e]
  exact Prod.ext (em (k * p.2 * q.2) (by grind)) rfl
theorem itP_mod (d n : Int) (p : Int × Int) : ∀ k, itP d n p k = itP (d % n) n p k
  | 0 => rfl
  | k + 1 => by
    show mulP d n (itP d n p k) p = mulP (d % n) n (itP (d % n) n p k) p
    rw [itP_mod d n p k, mulP_mod]
theorem it_flat (d n b : Int) : ∀ k, itP d n (b, 0) k = itP 0 n (b, 0) k ∧ (itP 0 n (b, 0) k).2 = 0
  | 0 => ⟨rfl, rfl⟩
  | k + 1 => by
    obtain ⟨h1, h2⟩ := it_flat d n b k
    show mulP d n (itP d n (b, 0) k) (b, 0) = mulP 0 n (itP 0 n (b, 0) k) (b, 0) ∧ (mulP 0 n (itP 0 n (b, 0) k) (b, 0)).2 = 0
    rw [h1]
    refine ⟨?_, ?_⟩
    · unfold mulP
      simp [h2]
    · unfold mulP
      simp [h2]
theorem foldl_count {α : Type} (P : α → Prop) [DecidablePred P] : ∀ (l : List α) (a : Nat), l.foldl (fun a v => if P v then a + 1 else a) a = a + (l.filter fun v => decide (P v)).length
  | [], a => rfl
  | x :: l, a => by
    rw [List.foldl_cons, foldl_count P l]
    by_cases h : P x
    · simp [h]; omega
    · simp [h]
theorem foldl_flat {α β : Type} (f : α → List β) (g : Nat → α → Nat) (hg : ∀ a x, g a x = a + (f x).length) : ∀ (l : List α) (a : Nat), l.foldl g a = a + (l.flatMap f).length
  | [], a => rfl
  | x :: l, a => by
    rw [List.foldl_cons, foldl_flat f g hg l, hg, List.flatMap_cons, List.length_append]
    omega
theorem okV_nat {d : Int} {n : Nat} (hn : 0 < n) (u v : Nat) : okV d n 1 u v = decide ((u * u + (n - (d % n).toNat) * v * v + (n - 1)) % n = 0) := by
  unfold okV
  have l1 := Int.emod_nonneg d (show (n : Int) ≠ 0 by omega)
  have l2 := Int.emod_lt_of_pos d (show (0 : Int) < n by omega)
  obtain ⟨k, e⟩ := ed (n : Int) d
  have c : (((u * u + (n - (d % n).toNat) * v * v + (n - 1)) % n : Nat) : Int) = ((u : Int) * u - d * v * v - 1) % n := by
    have e1 : (((n - (d % n).toNat : Nat)) : Int) = n - d % n := by omega
    have e2 : (((n - 1 : Nat)) : Int) = n - 1 := by omega
    rw [Int.natCast_emod]
    simp only [Int.natCast_add, Int.natCast_mul, e1, e2]
    refine em ((v : Int) * v + k * v * v + 1) ?_
    rw [e]
    grind
  rw [← c]
  by_cases z : (u * u + (n - (d % n).toNat) * v * v + (n - 1)) % n = 0
  · rw [decide_eq_true z, z]
    rfl
  · have z2 : (((u * u + (n - (d % n).toNat) * v * v + (n - 1)) % n : Nat) : Int) ≠ 0 := by omega
    rw [decide_eq_false z]
    exact beq_eq_false_iff_ne.mpr z2
theorem mem_len {d : Int} {n : Nat} (hn : 0 < n) : (memL d n 1).length = cntN n (d % n).toNat := by
  unfold memL cntN
  rw [Int.toNat_natCast]
  rw [foldl_flat (f := fun u => ((List.range n).filter fun v => decide ((u * u + (n - (d % n).toNat) * v * v + (n - 1)) % n = 0))) (hg := fun a u => foldl_count (P := fun v => (u * u + (n - (d % n).toNat) * v * v + (n - 1)) % n = 0) _ _)]
  rw [Nat.zero_add, List.length_flatMap, List.length_flatMap]
  congr 1
  apply List.map_congr_left
  intro u _
  rw [List.length_map]
  congr 1
  exact List.filter_congr fun v _ => okV_nat hn u v
theorem circle_facts {j : Nat} (hj : j < 22) {d : Int} (hp : primF 50 2 ((3 + 2 * j : Nat) : Int) = some true) (hd : d % ((3 + 2 * j : Nat) : Int) ≠ 0) (hr : restL ((3 + 2 * j : Nat) : Int) 64 (1 % ((3 + 2 * j : Nat) : Int)) (d % ((3 + 2 * j : Nat) : Int)) ((((3 + 2 * j : Nat) : Int) - 1) / 2) = ((3 + 2 * j : Nat) : Int) - 1) :
    (memL d ((3 + 2 * j : Nat) : Int) 1).length = 3 + 2 * j + 1 ∧ ∀ a b : Int, 0 ≤ a → a < ((3 + 2 * j : Nat) : Int) → 0 ≤ b → b < ((3 + 2 * j : Nat) : Int) → itP d ((3 + 2 * j : Nat) : Int) (a, b) (3 + 2 * j) = (a, -b % ((3 + 2 * j : Nat) : Int)) := by
  have h0 := all_ok
  unfold allC at h0
  have h1 := List.all_eq_true.mp h0 j (List.mem_range.mpr hj)
  rw [if_pos hp] at h1
  obtain ⟨hB, h2⟩ := and3 h1
  generalize hn : 3 + 2 * j = n at *
  have n0 : 0 < n := by omega
  have l1 := Int.emod_nonneg d (show (n : Int) ≠ 0 by omega)
  have l2 := Int.emod_lt_of_pos d (show (0 : Int) < n by omega)
  have h3 := List.all_eq_true.mp h2 (d % n).toNat (List.mem_range.mpr (by omega))
  have ee : (((d % n).toNat : Nat) : Int) = d % n := by omega
  rw [ee] at h3
  have hC : chkC n (d % n).toNat = true := by
    rcases Bool.or_eq_true_iff.mp h3 with z | z
    · have := of_decide_eq_true z
      omega
    · rcases Bool.or_eq_true_iff.mp z with z | z
      · exact absurd hr (of_decide_eq_true z)
      · exact z
  obtain ⟨c1, c2⟩ := and3 hC
  have c1 := beq_iff_eq.mp c1
  refine ⟨by rw [mem_len n0, c1], fun a b a1 a2 b1 b2 => ?_⟩
  have lt64 : n < 2 ^ 6 := by omega
  have base : ∀ c : Nat, c < n → itP d n ((c : Int), 1) n = ((c : Int), (-1) % (n : Int)) := fun c hc => by
    have := of_decide_eq_true (List.all_eq_true.mp c2 c (List.mem_range.mpr hc))
    rw [powG_eq _ _ _ _ _ _ lt64, pow_one, ee] at this
    rw [itP_mod]
    exact this
  have scal : ∀ c : Nat, c < n → itP d n ((c : Int), 0) n = ((c : Int), 0) := fun c hc => by
    have := (and3 (List.all_eq_true.mp hB c (List.mem_range.mpr hc))).1
    have := of_decide_eq_true this
    rw [powG_eq _ _ _ _ _ _ lt64, pow_one] at this
    rw [(it_flat d n c n).1]
    exact this
  by_cases b0 : b = 0
  · subst b0
    have := scal a.toNat (by omega)
    rw [show ((a.toNat : Nat) : Int) = a by omega] at this
    rw [this]
    simp
  · have hb := (and3 (List.all_eq_true.mp hB b.toNat (List.mem_range.mpr (by omega)))).2
    rcases Bool.or_eq_true_iff.mp hb with z | z
    · have := of_decide_eq_true z
      omega
    · obtain ⟨b', hb', hq⟩ := List.any_eq_true.mp z
      have hq := beq_iff_eq.mp hq
      have hb' := List.mem_range.mp hb'
      -- b b' = 1 + n m
      obtain ⟨m, hm⟩ : ∃ m : Int, b * (b' : Int) = 1 + n * m := by
        refine ⟨((b.toNat * b' / n : Nat) : Int), ?_⟩
        have := Nat.div_add_mod (b.toNat * b') n
        rw [hq] at this
        have h2 : ((b.toNat * b' : Nat) : Int) = b * b' := by
          rw [Int.natCast_mul, show ((b.toNat : Nat) : Int) = b by omega]
        have h4 : ((n * (b.toNat * b' / n) + 1 : Nat) : Int) = ((b.toNat * b' : Nat) : Int) := by rw [this]
        rw [h2, Int.natCast_add, Int.natCast_mul] at h4
        rw [← h4]
        omega
      have np : (0 : Int) < n := by omega
      have cl := Int.emod_lt_of_pos (a * b') np
      have cg := Int.emod_nonneg (a * b') (Int.ne_of_gt np)
      have e1 : (a, b) = mulP d n (b, 0) (a * b' % n, 1) := by
        unfold mulP
        obtain ⟨k, e⟩ := ed n (a * b')
        simp only [e]
        refine Prod.ext ?_ ?_
        · show a = (b * (a * b' - n * k) + d * 0 * 1) % n
          rw [em (B := a) (a * m - b * k) (by grind)]
          exact (Int.emod_eq_of_lt a1 a2).symm
        · show b = (b * 1 + 0 * (a * b' - n * k)) % n
          rw [em (B := b) 0 (by grind)]
          exact (Int.emod_eq_of_lt b1 b2).symm
      have i1 := scal b.toNat (by omega)
      rw [show ((b.toNat : Nat) : Int) = b by omega] at i1
      have i2 := base (a * b' % n).toNat (by omega)
      rw [show (((a * b' % n).toNat : Nat) : Int) = a * b' % n by omega] at i2
      conv => lhs; rw [e1]
      rw [it_mul, i1, i2]
      obtain ⟨k, e⟩ := ed n (a * b')
      obtain ⟨k2, e2⟩ := ed n (-1)
      unfold mulP
      simp only [e, e2]
      refine Prod.ext ?_ ?_
      · show (b * (a * b' - n * k) + d * 0 * (-1 - n * k2)) % n = a
        rw [em (B := a) (a * m - b * k) (by grind)]
        exact Int.emod_eq_of_lt a1 a2
      · show (b * (-1 - n * k2) + 0 * (a * b' - n * k)) % n = -b % n
        exact em (-(b * k2)) (by grind)
/-- the members of norm 1 have this order -/
theorem circle_pow {d n : Int} {m : Nat} (hn : n = m) (h1 : 1 < n) {a b : Int} (hi : itP d n (a, b) m = (a, -b % n)) (hc : (a * a - d * b * b - 1) % n = 0) : itP d n (a, b) (m + 1) = (1, 0) := by
  show mulP d n (itP d n (a, b) m) (a, b) = (1, 0)
  rw [hi]
  obtain ⟨k, e⟩ := ed n (-b)
  obtain ⟨k2, e2⟩ := ed n (a * a - d * b * b - 1)
  rw [e2] at hc
  unfold mulP
  simp only [e]
  refine Prod.ext ?_ ?_
  · show (a * a + d * (-b - n * k) * b) % n = 1
    rw [em (B := 1) (k2 - d * k * b) (by grind)]
    exact Int.emod_eq_of_lt (by decide) h1
  · show (a * b + (-b - n * k) * a) % n = 0
    rw [em (B := 0) (-(k * a)) (by grind)]
    exact Int.zero_emod n
end K42

namespace Ev
open PySem PySem.Spec PyProof.Rows L2
/-- a call with one place -/
theorem call_one {f : List D → Hd → R D} {as as' : List D} {h : Hd} {l : Nat} {o o' : O} {d : D} (hl : D.lss as = [l]) (hn : D.noxs as = true) (hm : D.mls (fun j => posOf j [l]) as = as') (ho : h[l]? = some o) (fo : o.flat = true) (e : f as' [o] = .ok d [o']) (hd : d.flat = true) (fo' : o'.flat = true) :
    callD f as h = .ok d (h.set l o') := by
  have hu : uniq [l] = [l] := by simp [uniq]
  have hg : getAll h [l] = some [o] := by simp [getAll, ho]
  unfold callD
  simp only [hl, hn, hu, hg, hm, e, if_true]
  simp [fo, fo', nox_flat d hd, ml_flat _ d hd, backH, putAll]
theorem set_same {h : Hd} {l : Nat} {o : O} (ho : h[l]? = some o) : h.set l o = h := by
  obtain ⟨hl, e⟩ := List.getElem?_eq_some_iff.mp ho
  rw [← e]
  exact List.set_getElem_self hl
end Ev
namespace K42
open PySem PySem.Spec PyProof.Rows L2 Ev
theorem k_law_take {h : Hd} {l : Nat} {st : Int × Int} {m : Int} (ho : h[l]? = some (stO st)) (h0 : 0 < m) (h1 : m < 2 ^ 63) : callD p_law_take [.loc l, .int m] h = .ok (.int (takeF st m).1) (h.set l (stO (takeF st m).2)) :=
  call_one (as' := [.loc 0, .int m]) rfl rfl (by simp [D.mls, D.ml, posOf]) ho rfl (by unfold p_law_take; simp only; rw [if_pos ⟨h0, h1⟩]) rfl rfl
/-- each of these is told to be malformed -/
def BadsOK (x : Str) (as : List D) (i : Nat) (bads : List D) : Prop := D.flats as = true ∧ i < as.length ∧ ∀ b ∈ bads, g_law_told [.fn x, .tup (as.set i b)] = .v malD
theorem lss_cons_flat {a : D} {as : List D} (h : a.flat = true) : D.lss (a :: as) = D.lss as := by
  show D.ls a ++ D.lss as = _
  rw [ls_flat a h]
  rfl
theorem k_law_bads {h : Hd} {l : Nat} {x : Str} {as bads : List D} {i : Nat} (ho : h[l]? = some (.lst bads)) (fb : D.flats bads = true) (ok : BadsOK x as i bads) : callD p_law_bads [.fn x, .tup as, .int (i : Int), .loc l] h = .ok (.bl true) h := by
  obtain ⟨o1, o2, o3⟩ := ok
  have ft : (D.tup as).flat = true := o1
  have e := call_one (f := p_law_bads) (as := [.fn x, .tup as, .int (i : Int), .loc l]) (as' := [.fn x, .tup as, .int (i : Int), .loc 0]) (h := h) (l := l) (o := .lst bads) (o' := .lst bads) (d := .bl true)
    (by rw [lss_cons_flat rfl, lss_cons_flat ft, lss_cons_flat rfl]; rfl)
    (by show (true && ((D.tup as).nox && (true && (true && true)))) = true; rw [nox_flat _ ft]; rfl)
    (by show [D.fn x, (D.tup as).ml _, D.int i, D.loc (posOf l [l])] = _; rw [ml_flat _ _ ft]; simp [posOf])
    ho fb (by
      unfold p_law_bads
      simp only
      rw [if_pos ⟨o1, fb, by omega, by rw [Int.toNat_natCast]; exact o2, by rw [Int.toNat_natCast]; exact o3⟩]) rfl fb
  rw [e, set_same ho]
theorem told_of {x : Str} {n : Nat} {g : List D → Rs} {as : List D} (hg : gOf x = some (n, g)) (hl : as.length = n) (hf : D.flats as = true) : g_law_told [.fn x, .tup as] = toldR (g as) := by
  unfold g_law_told
  simp only [hg, hl, hf, and_self, if_true]
theorem told_mal {x : Str} {n : Nat} {g : List D → Rs} {as : List D} (hg : gOf x = some (n, g)) (hl : as.length = n) (hf : D.flats as = true) (e : g as = .x xM) : g_law_told [.fn x, .tup as] = .v malD := by
  rw [told_of hg hl hf, e]
  simp [toldR]
/-- what is drawn -/
structure Dm (d n : Int) (p q : Int × Int) : Prop where
  d1 : -20 ≤ d
  d2 : d ≤ 20
  n1 : ∃ j : Nat, j < 22 ∧ n = ((3 + 2 * j : Nat) : Int)
  p1 : 0 ≤ p.1
  p2 : p.1 < n
  p3 : 0 ≤ p.2
  p4 : p.2 < n
  q1 : 0 ≤ q.1
  q2 : q.1 < n
  q3 : 0 ≤ q.2
  q4 : q.2 < n
theorem Dm.nn {d n : Int} {p q : Int × Int} (m : Dm d n p q) : 3 ≤ n ∧ n ≤ 45 ∧ n % 2 = 1 := by
  obtain ⟨j, h1, h2⟩ := m.n1
  omega
theorem ring_ok {d n : Int} (h1 : -20 ≤ d) (h2 : d ≤ 20) (h3 : 3 ≤ n) (h4 : n ≤ 45) (h5 : n % 2 = 1) : ringB (.int d) (.int n) = true := by
  unfold ringB oddB
  simp only [cntB_int, Bool.and_eq_true, decide_eq_true_eq]
  omega
theorem mem_ok {n : Int} {p : Int × Int} (h1 : 0 ≤ p.1) (h2 : p.1 < n) (h3 : 0 ≤ p.2) (h4 : p.2 < n) : memB (.int n) (prD p) = true := by
  unfold memB
  simp only [cntB_int, Bool.and_eq_true, decide_eq_true_eq]
  omega
theorem rm_ok {d n : Int} {p : Int × Int} (h1 : -20 ≤ d) (h2 : d ≤ 20) (h3 : 3 ≤ n) (h4 : n ≤ 45) (h5 : n % 2 = 1) (a1 : 0 ≤ p.1) (a2 : p.1 < n) (a3 : 0 ≤ p.2) (a4 : p.2 < n) : rmB (.int d) (.int n) (prD p) = true := by
  unfold rmB
  rw [ring_ok h1 h2 h3 h4 h5, mem_ok a1 a2 a3 a4]
  rfl
theorem gm : gOf "is_member" = some (3, g_is_member) := rfl
theorem gp : gOf "ring_product" = some (4, g_ring_product) := rfl
theorem gw : gOf "ring_power" = some (4, g_ring_power) := rfl
theorem gn : gOf "ring_norm" = some (3, g_ring_norm) := rfl
theorem gb : gOf "ring_back" = some (3, g_ring_back) := rfl
theorem gc : gOf "circle_member" = some (3, g_circle_member) := rfl
theorem gl : gOf "members_of_norm" = some (3, g_members_of_norm) := rfl
theorem go : gOf "order_in_ring" = some (3, g_order_in_ring) := rfl
theorem gf : gOf "frobenius_turns" = some (3, g_frobenius_turns) := rfl
abbrev wrongL (n : Int) : List D := [.non, .tup [.int n, .int 0], .tup [.int (-1), .int 0], .tup [.int 0], .fro [.int 0, .int 0], .tup [.bl true, .int 0], .tup [.str "0", .int 0], .int 5]
theorem wrong_ok {n : Int} (hn : 3 ≤ n) : ∀ b ∈ wrongL n, vOk b = true ∧ memB (.int n) b = false := by
  intro b hb
  simp only [wrongL, List.mem_cons, List.not_mem_nil, or_false] at hb
  rcases hb with rfl | rfl | rfl | rfl | rfl | rfl | rfl | rfl
  all_goals first
    | exact ⟨rfl, rfl⟩
    | (refine ⟨rfl, ?_⟩
       unfold memB
       simp only [cntB_int, cntB]
       simp
       try omega)
section
variable {d n : Int} {p q : Int × Int}
/-- the calls of the laws with something wrong -/
theorem bads_v (m : Dm d n p q) {x : Str} {k : Nat} {g : List D → Rs} (hg : gOf x = some (k, g)) {as : List D} (hl : as.length = k) (hi : 2 < as.length) (hf : D.flats as = true) (e : ∀ b, vOk b = true → memB (.int n) b = false → g (as.set 2 b) = .x xM) : BadsOK x as 2 (wrongL n) :=
  ⟨hf, hi, fun b hb => by
    obtain ⟨h1, h2⟩ := wrong_ok m.nn.1 b hb
    exact told_mal hg (by rw [List.length_set]; exact hl) (flats_set hf (dat_flat (vOk_dat h1))) (e b h1 h2)⟩
theorem rm_bad {d' n' b : D} (h : memB n' b = false) : rmB d' n' b = false := by
  unfold rmB; rw [h]; simp
theorem rm_bad2 {d' n' b : D} (h : ringB d' n' = false) : rmB d' n' b = false := by
  unfold rmB; rw [h]; simp
theorem vp {p : Int × Int} : vOk (prD p) = true := rfl
theorem dat_int {i : Int} : (D.int i).dat = true := rfl
theorem bads6 (m : Dm d n p q) : BadsOK "ring_product" [.int d, .int n, prD p, prD q] 2 (wrongL n) ∧ BadsOK "ring_product" [.int d, .int n, prD p, prD q] 3 (wrongL n) ∧ BadsOK "ring_power" [.int d, .int n, prD p, .int 1] 2 (wrongL n) ∧
    BadsOK "ring_norm" [.int d, .int n, prD p] 2 (wrongL n) ∧ BadsOK "ring_back" [.int d, .int n, prD p] 2 (wrongL n) ∧ BadsOK "order_in_ring" [.int d, .int n, prD p] 2 (wrongL n) := by
  refine ⟨bads_v m gp rfl (by simp) rfl fun b h1 h2 => ?_, ⟨rfl, by simp, fun b hb => ?_⟩, bads_v m gw rfl (by simp) rfl fun b h1 h2 => ?_, bads_v m gn rfl (by simp) rfl fun b h1 h2 => ?_, bads_v m gb rfl (by simp) rfl fun b h1 h2 => ?_, bads_v m go rfl (by simp) rfl fun b h1 h2 => ?_⟩
  · simp [g_ring_product, dat_int, h1, vp, rm_bad h2]
  · obtain ⟨h1, h2⟩ := wrong_ok m.nn.1 b hb
    refine told_mal gp rfl (flats_set (i := 3) rfl (dat_flat (vOk_dat h1))) ?_
    simp [g_ring_product, dat_int, h1, vp, rm_bad h2]
  · simp [g_ring_power, dat_int, h1, rm_bad h2]
  · simp [g_ring_norm, dat_int, h1, rm_bad h2]
  · simp [g_ring_back, dat_int, h1, rm_bad h2]
  · simp [g_order_in_ring, dat_int, h1, rm_bad h2]
abbrev bads0 : List D := [.non, .int 1000001, .int (-1000001), .bl true]
abbrev bads1 : List D := [.non, .int 1, .int 4, .int 0, .int (-3)]
theorem bads0_ok {n' : D} : ∀ b ∈ bads0, b.dat = true ∧ ringB b n' = false := by
  intro b hb
  simp only [bads0, List.mem_cons, List.not_mem_nil, or_false] at hb
  rcases hb with rfl | rfl | rfl | rfl <;> exact ⟨rfl, rfl⟩
theorem bads1_ok {d' : D} : ∀ b ∈ bads1, b.dat = true ∧ ringB d' b = false := by
  intro b hb
  simp only [bads1, List.mem_cons, List.not_mem_nil, or_false] at hb
  rcases hb with rfl | rfl | rfl | rfl | rfl <;> refine ⟨rfl, ?_⟩ <;> (unfold ringB; simp [cntB, oddB])
theorem bads_0 {x : Str} {k : Nat} {g : List D → Rs} (hg : gOf x = some (k, g)) {as : List D} (hl : as.length = k) (hi : 0 < as.length) (hf : D.flats as = true) (e : ∀ b, b.dat = true → ringB b (.int n) = false → g (as.set 0 b) = .x xM) : BadsOK x as 0 bads0 :=
  ⟨hf, hi, fun b hb => by
    obtain ⟨h1, h2⟩ := bads0_ok (n' := .int n) b hb
    exact told_mal hg (by rw [List.length_set]; exact hl) (flats_set hf (dat_flat h1)) (e b h1 h2)⟩
theorem bads_1 {x : Str} {k : Nat} {g : List D → Rs} (hg : gOf x = some (k, g)) {as : List D} (hl : as.length = k) (hi : 1 < as.length) (hf : D.flats as = true) (e : ∀ b, b.dat = true → ringB (.int d) b = false → g (as.set 1 b) = .x xM) : BadsOK x as 1 bads1 :=
  ⟨hf, hi, fun b hb => by
    obtain ⟨h1, h2⟩ := bads1_ok (d' := .int d) b hb
    exact told_mal hg (by rw [List.length_set]; exact hl) (flats_set hf (dat_flat h1)) (e b h1 h2)⟩
def B01 (x : Str) (as : List D) : Prop := BadsOK x as 0 bads0 ∧ BadsOK x as 1 bads1
theorem bads5 (m : Dm d n p q) : B01 "is_member" [.int d, .int n, prD p] ∧ B01 "ring_product" [.int d, .int n, prD p, prD q] ∧ B01 "ring_norm" [.int d, .int n, prD p] ∧ B01 "circle_member" [.int d, .int n, .int 0] ∧ B01 "members_of_norm" [.int d, .int n, .int 0] := by
  refine ⟨⟨bads_0 (n := n) gm rfl (by simp) rfl fun b h1 h2 => ?_, bads_1 (d := d) gm rfl (by simp) rfl fun b h1 h2 => ?_⟩, ⟨bads_0 (n := n) gp rfl (by simp) rfl fun b h1 h2 => ?_, bads_1 (d := d) gp rfl (by simp) rfl fun b h1 h2 => ?_⟩, ⟨bads_0 (n := n) gn rfl (by simp) rfl fun b h1 h2 => ?_, bads_1 (d := d) gn rfl (by simp) rfl fun b h1 h2 => ?_⟩,
    ⟨bads_0 (n := n) gc rfl (by simp) rfl fun b h1 h2 => ?_, bads_1 (d := d) gc rfl (by simp) rfl fun b h1 h2 => ?_⟩, ⟨bads_0 (n := n) gl rfl (by simp) rfl fun b h1 h2 => ?_, bads_1 (d := d) gl rfl (by simp) rfl fun b h1 h2 => ?_⟩⟩
  · simp [g_is_member, dat_int, h1, vp, h2]
  · simp [g_is_member, dat_int, h1, vp, h2]
  · simp [g_ring_product, dat_int, h1, vp, rm_bad2 h2]
  · simp [g_ring_product, dat_int, h1, vp, rm_bad2 h2]
  · simp [g_ring_norm, dat_int, h1, vp, rm_bad2 h2]
  · simp [g_ring_norm, dat_int, h1, vp, rm_bad2 h2]
  · simp [g_circle_member, dat_int, h1, h2]
  · simp [g_circle_member, dat_int, h1, h2]
  · simp [g_members_of_norm, dat_int, h1, h2]
  · simp [g_members_of_norm, dat_int, h1, h2]
theorem badsL (m : Dm d n p q) : BadsOK "ring_power" [.int d, .int n, prD p, .int 1] 3 [.int (-1), .non, .int 10000000000000001] ∧ BadsOK "circle_member" [.int d, .int n, .int 0] 2 [.int (-1), .int n, .non, .bl true] ∧
    BadsOK "members_of_norm" [.int d, .int n, .int 0] 2 [.int (-1), .int n, .non] ∧ BadsOK "members_of_norm" [.int d, .int n, .int 0] 1 [.int 201] ∧ BadsOK "order_in_ring" [.int d, .int n, prD p] 1 [.int 2001, .non] := by
  refine ⟨⟨rfl, by simp, fun b hb => ?_⟩, ⟨rfl, by simp, fun b hb => ?_⟩, ⟨rfl, by simp, fun b hb => ?_⟩, ⟨rfl, by simp, fun b hb => ?_⟩, ⟨rfl, by simp, fun b hb => ?_⟩⟩
  · have h1 : b.dat = true ∧ cntB b 0 10000000000000000 = false := by
      simp only [List.mem_cons, List.not_mem_nil, or_false] at hb
      rcases hb with rfl | rfl | rfl <;> exact ⟨rfl, rfl⟩
    refine told_mal gw rfl (flats_set (i := 3) rfl (dat_flat h1.1)) ?_
    simp [g_ring_power, dat_int, h1.1, h1.2, vp]
  · have h1 : b.dat = true ∧ cntB b 0 (n - 1) = false := by
      simp only [List.mem_cons, List.not_mem_nil, or_false] at hb
      rcases hb with rfl | rfl | rfl | rfl <;> refine ⟨rfl, ?_⟩ <;> first | rfl | (rw [cntB_int]; simp; try omega)
    refine told_mal gc rfl (flats_set (i := 2) rfl (dat_flat h1.1)) ?_
    simp [g_circle_member, dat_int, h1.1, h1.2, intOf]
  · have h1 : b.dat = true ∧ cntB b 0 (n - 1) = false := by
      simp only [List.mem_cons, List.not_mem_nil, or_false] at hb
      rcases hb with rfl | rfl | rfl <;> refine ⟨rfl, ?_⟩ <;> first | rfl | (rw [cntB_int]; simp; try omega)
    refine told_mal gl rfl (flats_set (i := 2) rfl (dat_flat h1.1)) ?_
    simp [g_members_of_norm, dat_int, h1.1, h1.2, intOf]
  · have h1 : b.dat = true ∧ cntB b 3 200 = false := by
      simp only [List.mem_cons, List.not_mem_nil, or_false] at hb
      rcases hb with rfl <;> exact ⟨rfl, rfl⟩
    refine told_mal gl rfl (flats_set (i := 1) rfl (dat_flat h1.1)) ?_
    simp [g_members_of_norm, dat_int, h1.1, h1.2, intOf]
  · have h1 : b.dat = true ∧ cntB b 3 2000 = false := by
      simp only [List.mem_cons, List.not_mem_nil, or_false] at hb
      rcases hb with rfl | rfl <;> exact ⟨rfl, rfl⟩
    refine told_mal go rfl (flats_set (i := 1) rfl (dat_flat h1.1)) ?_
    simp [g_order_in_ring, dat_int, h1.1, h1.2, vp]
end
end K42

namespace Ev
open PySem PySem.Spec PyProof.Rows L2
theorem blsD_repF : ∀ n : Nat, blsD (List.replicate n (.bl false)) = some (List.replicate n false)
  | 0 => rfl
  | n + 1 => by
    rw [List.replicate_succ, blsD, blsD_repF n, List.replicate_succ]
    rfl
/-- a comprehension over a tuple -/
theorem den_lc_tup {t : Rt} {vs : List Nat} {tg : Tg} {it cond elt : Ex} {σ : En} {h : Hd} {ds : List D} {p : D → Bool} {f : D → D} (hi : den t it σ h = .ok (.tup [.tup ds, .non]) h)
    (hh : ∀ d ∈ ds, ∃ σ', bindT tg d h (wipeD σ vs) = some σ' ∧ tstD (den t cond σ' h) = .ok (p d) h ∧ (p d = true → den t elt σ' h = .ok (f d) h)) (hl : ds.length ≤ 1000000) : den t (.lc vs tg it cond elt) σ h = .ok (.loc h.length) (h ++ [.lst ((ds.filter p).map f)]) := by
  show ((den t it σ h).bind _) = _
  rw [hi]
  simp only [R.bind_ok]
  rw [lc_pure (p := p) (f := f) hh (by rw [List.length_nil]; omega)]
  simp only [R.bind_ok, List.nil_append]
end Ev
namespace K42
open PySem PySem.Spec PyProof.Rows L2 Ev
structure HC (t : Rt) : Prop where
  take : Has t "_law_take" 2 p_law_take
  tells : Has t "_law_tells" 3 (pureF g_law_tells)
  raises : Has t "_law_raises" 3 (pureF g_law_raises)
  value : Has t "_law_value" 2 (pureF g_law_value)
  bads : Has t "_law_bads" 4 p_law_bads
  common : Has t "_law_common" 2 (pureF g_law_common)
  prime : Has t "_law_prime" 1 (pureF g_law_prime)
  rest : Has t "_law_rest" 3 (pureF g_law_rest)
  plain : Has t "_law_plain" 1 (pureF g_is_integer)
  glob : ∀ x k g, gOf x = some (k, g) → t.glob x = some (.fn x)
abbrev sg (d n : Int) (p q : Int × Int) (x5 x6 x7 x8 x9 x10 x11 x12 x13 x14 x15 x16 x17 : Option D) : En := [some (.loc 0), some (.int d), some (.int n), some (prD p), some (prD q), x5, x6, x7, x8, x9, x10, x11, x12, x13, x14, x15, x16, x17, none]
section
variable {t : Rt} {d n : Int} {p q : Int × Int} {x5 x6 x7 x8 x9 x10 x11 x12 x13 x14 x15 x16 x17 : Option D}
theorem same_list : ∀ (L : List (Int × Int)), L.length ≤ 100000 → sameOK 4 (.tup (L.map prD)) = true := by
  intro L hl
  rw [sameOK]
  simp only [Bool.and_eq_true, decide_eq_true_eq, List.length_map]
  refine ⟨?_, hl⟩
  rw [List.all_map]
  apply List.all_eq_true.mpr
  intro x _
  show sameOK 3 (prD x) = true
  simp [sameOK]
theorem mem_norm {d n : Int} {x : Int × Int} (h : x ∈ memL d n 1) : 0 ≤ x.1 ∧ x.1 < n ∧ 0 ≤ x.2 ∧ x.2 < n ∧ (x.1 * x.1 - d * x.2 * x.2 - 1) % n = 0 := by
  unfold memL at h
  obtain ⟨u, hu, h⟩ := List.mem_flatMap.mp h
  obtain ⟨v, hv, rfl⟩ := List.mem_map.mp h
  have hu := List.mem_range.mp hu
  obtain ⟨hv1, hv2⟩ := List.mem_filter.mp hv
  have hv1 := List.mem_range.mp hv1
  unfold okV at hv2
  have := beq_iff_eq.mp hv2
  refine ⟨?_, ?_, ?_, ?_, this⟩ <;> (simp only; omega)
theorem part12 (H : HC t) (m : Dm d n p q) {r : Bool} (hr : primF 50 2 n = some r) {h : Hd} : ∃ c10 g, denS t i_law_circle_holds_12 none (sg d n p q (some (.bl r)) none none none none none none none none none none none none) h = .nx (sg d n p q (some (.bl r)) none none none none c10 none none none none none none none) (h ++ g) := by
  obtain ⟨n3, n45, nodd⟩ := m.nn
  have np : (0 : Int) < n := by omega
  have q1 : ∀ x h, binD .Mod (.int x) (.int n) h = .ok (.int (x % n)) h := fun x h => bin_mod np
  have q2 : ∀ x h, binD .FloorDiv (.int x) (.int 2) h = .ok (.int (x / 2)) h := fun x h => bin_div (divB_of (by decide) (by decide))
  have k1 : ∀ a k h, callD (pureF g_law_rest) [.int a, .int k, .int n] h = .ok (.int (restL n 64 (1 % n) (a % n) k)) h := fun a k h => k_law_rest np (by omega)
  have un : i_law_circle_holds_12 = i_law_circle_holds_12 := rfl
  by_cases c : r = true ∧ d % n ≠ 0 ∧ restL n 64 (1 % n) (d % n % n) ((n - 1) / 2) = n - 1
  · obtain ⟨rfl, c2, c3⟩ := c
    obtain ⟨j, hj, hn⟩ := m.n1
    have edd : d % n % n = d % n := Int.emod_emod_of_dvd _ (Int.dvd_refl n)
    have facts : (memL d n 1).length = n.toNat + 1 ∧ ∀ a b : Int, 0 ≤ a → a < n → 0 ≤ b → b < n → itP d n (a, b) n.toNat = (a, -b % n) := by
      have := circle_facts hj (d := d) (by rw [← hn]; exact hr) (by rw [← hn]; exact c2) (by rw [← hn, ← edd]; exact c3)
      rw [← hn] at this
      have e : 3 + 2 * j = n.toNat := by omega
      rw [e] at this
      exact this
    obtain ⟨f1, f2⟩ := facts
    -- the circle
    have rk : ringB (.int d) (.int n) = true := ring_ok m.d1 m.d2 n3 n45 nodd
    have gv : g_members_of_norm [.int d, .int n, .int 1] = .v (.tup ((memL d n 1).map prD)) := by
      unfold g_members_of_norm
      have e1 : cntB (.int n) 3 200 = true := by rw [cntB_int]; simp; omega
      have e2 : cntB (.int 1) 0 (intOf (.int n) - 1) = true := by show cntB (.int 1) 0 (n - 1) = true; rw [cntB_int]; simp; omega
      simp only [dat_int, and_self, if_true, rk, e1, e2]
      rfl
    have flL : D.flats ((memL d n 1).map prD) = true := flats_map (fun _ => rfl) _
    have k2 : ∀ h, callD (pureF g_law_value) [.fn "members_of_norm", .tup [.int d, .int n, .int 1]] h = .ok (.tup ((memL d n 1).map prD)) h := fun h => k_law_value rfl (by
      rw [told_of gl rfl rfl, gv]
      simp only [toldR]
      rw [if_pos (show (D.tup _).flat = true from flL)])
    have pn : 0 ≤ p.1 ∧ p.1 < n ∧ 0 ≤ p.2 ∧ p.2 < n := ⟨m.p1, m.p2, m.p3, m.p4⟩
    have rmp : rmB (.int d) (.int n) (prD p) = true := rm_ok m.d1 m.d2 n3 n45 nodd m.p1 m.p2 m.p3 m.p4
    have fb : frobB d n p = true := by
      unfold frobB
      rw [pow_one, f2 p.1 p.2 m.p1 m.p2 m.p3 m.p4]
      simp
    have k3 : ∀ h, callD (pureF g_law_tells) [.fn "frobenius_turns", .tup [.int d, .int n, .tup [.int p.1, .int p.2]], .bl true] h = .ok (.bl true) h := fun h => k_law_tells rfl (by
      rw [told_of gf rfl rfl]
      have : g_frobenius_turns [.int d, .int n, prD p] = .v (.bl true) := by
        unfold g_frobenius_turns
        simp only [dat_int, vp, and_self, if_true, rmp]
        rw [show frobB (intOf (.int d)) (intOf (.int n)) (pairOf (prD p)) = true from fb]
      rw [this]
      rfl) rfl
    have eq2 : ∀ h, cmpD .NotEq (.tup [.int 1, .int 0]) (.tup [.int 1, .int 0]) h = .ok (.bl false) h := fun h => by rw [cmpNe_pp]; rfl
    have k5 : ∀ h, den t c_law_circle_holds_5 (sg d n p q (some (.bl true)) none none none none (some (.tup ((memL d n 1).map prD))) none none none none none none none) h = .ok (.loc h.length) (h ++ [.lst (List.replicate (n.toNat + 1) (.bl false))]) := fun h => by
      have lc := den_lc_tup (t := t) (vs := [17]) (tg := .n 17) (it := .itS (.var 10)) (cond := .bl true) (elt := .cmp .NotEq (.call "_law_value" 2 (.cons (.glo "ring_power") (.cons (.tup (.cons (.var 1) (.cons (.var 2) (.cons (.var 17) (.cons (.bin .Add (.var 2) (.int 1)) .nil))))) .nil))) (.tup (.cons (.int 1) (.cons (.int 0) .nil))))
        (σ := sg d n p q (some (.bl true)) none none none none (some (.tup ((memL d n 1).map prD))) none none none none none none none) (h := h) (ds := (memL d n 1).map prD) (p := fun _ => true) (f := fun _ => .bl false) rfl (fun d' hd' => by
          obtain ⟨x, hx, rfl⟩ := List.mem_map.mp hd'
          obtain ⟨b1, b2, b3, b4, b5⟩ := mem_norm hx
          refine ⟨sg d n p q (some (.bl true)) none none none none (some (.tup ((memL d n 1).map prD))) none none none none none none (some (prD x)), rfl, rfl, fun _ => ?_⟩
          have rmx : rmB (.int d) (.int n) (prD x) = true := rm_ok m.d1 m.d2 n3 n45 nodd b1 b2 b3 b4
          have gw' : g_ring_power [.int d, .int n, prD x, .int (n + 1)] = .v (prD (1, 0)) := by
            unfold g_ring_power
            have e2 : cntB (.int (n + 1)) 0 10000000000000000 = true := by rw [cntB_int]; simp; omega
            simp only [dat_int, vp, and_self, if_true, rmx, e2]
            show Rs.v (prD (powF d n (1 % n, 0) x (n + 1).toNat)) = _
            rw [pow_one, show (n + 1).toNat = n.toNat + 1 by omega]
            have := circle_pow (d := d) (n := n) (m := n.toNat) (a := x.1) (b := x.2) (by omega) (by omega) (f2 x.1 x.2 b1 b2 b3 b4) b5
            rw [show (x.1, x.2) = x from rfl] at this
            rw [this]
          have kv : ∀ h, callD (pureF g_law_value) [.fn "ring_power", .tup [.int d, .int n, prD x, .int (n + 1)]] h = .ok (prD (1, 0)) h := fun h => k_law_value rfl (by
            rw [told_of gw rfl rfl, gw']
            rfl)
          have g1 := H.glob _ _ _ gw
          generalize prD x = X at *
          simp [den, H.value.ar, H.value.orc, H.value.dfl, g1, kv, szB_le]) (by rw [List.length_map, f1]; omega)
      show den t (.lc _ _ _ _ _) _ h = _
      rw [lc]
      have e1 : (((memL d n 1).map prD).filter (fun _ => true)).map (fun _ => D.bl false) = List.replicate (n.toNat + 1) (.bl false) := by
        have : ((memL d n 1).map prD).filter (fun _ => true) = (memL d n 1).map prD := by simp
        rw [this, List.map_const', List.length_map, f1]
      rw [e1]
    have k6 : ∀ h : Hd, biD .any [.loc h.length] (h ++ [.lst (List.replicate (n.toNat + 1) (.bl false))]) = .ok (.bl false) (h ++ [.lst (List.replicate (n.toNat + 1) (.bl false))]) := fun h => by
      unfold biD
      simp only [fro_get, blsD_repF]
      simp
    have g1 := H.glob _ _ _ gl
    have g2 := H.glob _ _ _ gf
    have ln : (((memL d n 1).map prD).length : Int) = n + 1 := by rw [List.length_map, f1]; omega
    have kl : ∀ h, biD .len [.tup ((memL d n 1).map prD)] h = .ok (.int (n + 1)) h := fun h => by rw [bi_len_tup, ln]
    generalize (memL d n 1).map prD = L at *
    have c2b : (d % n == 0) = false := beq_eq_false_iff_ne.mpr c2
    rw [edd] at c3
    generalize hrr : restL n 64 (1 % n) (d % n) ((n - 1) / 2) = rr at *
    refine ⟨some (.tup L), [.lst (List.replicate (n.toNat + 1) (.bl false))], ?_⟩
    simp only [sg] at k5
    simp [i_law_circle_holds_12, i_law_circle_holds_11, den, denS, q1, q2, H.rest.ar, H.rest.orc, H.rest.dfl, k1, hrr, c2b, c3, H.value.ar, H.value.orc, H.value.dfl, H.tells.ar, H.tells.orc, H.tells.dfl, g1, g2, k2, k3, k5, k6, kl, szB_le]
  · refine ⟨none, [], ?_⟩
    rw [List.append_nil]
    cases r with
    | false => simp [i_law_circle_holds_12, den, denS]
    | true =>
      by_cases c2 : d % n = 0
      · simp [i_law_circle_holds_12, den, denS, q1, c2]
      · have c3 : ¬ restL n 64 (1 % n) (d % n % n) ((n - 1) / 2) = n - 1 := fun z => c ⟨rfl, c2, z⟩
        have c2b : (d % n == 0) = false := beq_eq_false_iff_ne.mpr c2
        rw [Int.emod_emod_of_dvd _ (Int.dvd_refl n)] at c3
        generalize hrr : restL n 64 (1 % n) (d % n) ((n - 1) / 2) = rr at *
        have c3b : (rr == n - 1) = false := beq_eq_false_iff_ne.mpr c3
        simp [i_law_circle_holds_12, den, denS, q1, q2, H.rest.ar, H.rest.orc, H.rest.dfl, k1, hrr, c2b, c3b]
/-- the turn of the circle -/
theorem part10 (H : HC t) (m : Dm d n p q) {x : Int} (hx : 0 ≤ x ∧ x < n) {c10 : Option D} {h : Hd} : ∃ u v, denS t i_law_circle_holds_10 none (sg d n p q x5 (some (.int x)) (some (.int ((x * x - d) % n))) none none c10 none none none none none none none) h = .nx (sg d n p q x5 (some (.int x)) (some (.int ((x * x - d) % n))) none none c10 none none none none u v none) h := by
  obtain ⟨n3, n45, nodd⟩ := m.nn
  have np : (0 : Int) < n := by omega
  have rk : ringB (.int d) (.int n) = true := ring_ok m.d1 m.d2 n3 n45 nodd
  have q1 : ∀ x h, binD .Mod (.int x) (.int n) h = .ok (.int (x % n)) h := fun x h => bin_mod np
  have l1 := Int.emod_nonneg (x * x - d) (Int.ne_of_gt np)
  have l2 := Int.emod_lt_of_pos (x * x - d) np
  have k1 : ∀ h, callD (pureF g_law_common) [.int ((x * x - d) % n), .int n] h = .ok (.int (comF ((x * x - d) % n) n)) h := fun h => k_law_common (by omega)
  have g1 := H.glob _ _ _ gc
  have e2 : cntB (.int x) 0 (n - 1) = true := by rw [cntB_int]; simp; omega
  have gcm : g_circle_member [.int d, .int n, .int x] = (match circP d n x with
    | some p => .v (prD p)
    | none => .x (xR "share")) := by
    unfold g_circle_member
    simp only [dat_int, and_self, if_true, rk]
    rw [show cntB (.int x) 0 (intOf (.int n) - 1) = true from e2]
    rfl
  by_cases c : (x * x - d) % n = 0 ∨ comF ((x * x - d) % n) n ≠ 1
  · have nob : circP d n x = none := by
      unfold circP
      cases e : backF (x * x - d) n with
      | none => rfl
      | some k =>
        have := (back_iff np).mp ⟨k, e⟩
        rcases c with c | c
        · rw [c, com_zero np] at this
          omega
        · exact absurd this c
    rw [nob] at gcm
    have k2 : ∀ h, callD (pureF g_law_raises) [.fn "circle_member", .tup [.int d, .int n, .int x], .str "share"] h = .ok (.bl true) h := fun h => k_law_raises rfl (by
      rw [told_of gc rfl rfl, gcm]
      rfl) (.inl rfl)
    refine ⟨none, none, ?_⟩
    rcases Decidable.em ((x * x - d) % n = 0) with z | z
    · simp [i_law_circle_holds_10, i_law_circle_holds_8, den, denS, z, g1, H.raises.ar, H.raises.orc, H.raises.dfl, k2, szB_le]
    · have zb : ((x * x - d) % n == 0) = false := beq_eq_false_iff_ne.mpr z
      have c' : (comF ((x * x - d) % n) n == 1) = false := beq_eq_false_iff_ne.mpr (by
        rcases c with c | c
        · exact absurd c z
        · exact c)
      generalize (x * x - d) % n = low at *
      generalize comF low n = cf at *
      simp [i_law_circle_holds_10, i_law_circle_holds_8, den, denS, zb, g1, H.raises.ar, H.raises.orc, H.raises.dfl, H.common.ar, H.common.orc, H.common.dfl, k1, c', k2, szB_le]
  · have c1 : (x * x - d) % n ≠ 0 := fun z => c (.inl z)
    have c2 : comF ((x * x - d) % n) n = 1 := Decidable.not_not.mp fun z => c (.inr z)
    obtain ⟨k, ek⟩ := (back_iff np).mpr c2
    have cp : circP d n x = some ((x * x + d) * k % n, 2 * x * k % n) := by
      unfold circP
      rw [ek]
      rfl
    generalize hu : (x * x + d) * k % n = u at *
    generalize hv : 2 * x * k % n = v at *
    obtain ⟨f1, f2, f3, f4, f5, f6, f7⟩ := circ_props (by omega) cp
    rw [cp] at gcm
    have k2 : ∀ h, callD (pureF g_law_value) [.fn "circle_member", .tup [.int d, .int n, .int x]] h = .ok (.tup [.int u, .int v]) h := fun h => k_law_value rfl (by
      rw [told_of gc rfl rfl, gcm]
      rfl)
    have zb : ((x * x - d) % n == 0) = false := beq_eq_false_iff_ne.mpr c1
    generalize hlow : (x * x - d) % n = low at *
    have su : S63 u := ⟨by omega, by omega⟩
    have sv : S63 v := ⟨by omega, by omega⟩
    have sx : S63 x := ⟨by omega, by omega⟩
    have sd : S63 d := by have := m.d1; have := m.d2; exact ⟨by omega, by omega⟩
    have s2 : S63 2 := ⟨by decide, by decide⟩
    refine ⟨some (.int u), some (.int v), ?_⟩
    simp [i_law_circle_holds_10, i_law_circle_holds_9, den, denS, zb, g1, H.value.ar, H.value.orc, H.value.dfl, H.common.ar, H.common.orc, H.common.dfl, k1, c2, k2, szB_le, q1, S63_mul su, S63_mul sv, S63_mul sx, S63_mul sd, S63_mul s2, S63_mulr sv, f1, f2, f3, f4, f5, f6, f7]
/-! ### members -/
theorem good_eq (H : HC t) {v : D} (hv : vOk v = true) {x5 x6 x7 x8 c10 x11 x12 x13 x14 x15 x16 x17 : Option D} {h : Hd} : ∃ g, den t (.and_ (.isi .tuple (.var 9)) (.and_ (.cmp .Eq (.bi .len (.cons (.var 9) .nil)) (.int 2)) (.bi .all (.cons c_law_circle_holds_3 .nil)))) (sg d n p q x5 x6 x7 x8 (some v) c10 x11 x12 x13 x14 x15 x16 x17) h = .ok (.bl (memB (.int n) v)) (h ++ g) := by
  have hi : ∀ h, isiD .tuple v h = some (isT .tuple v) := fun h => isiD_dat (vOk_dat hv)
  cases v with
  | tup vs =>
    rcases vs with _ | ⟨x, _ | ⟨y, _ | ⟨z, vs⟩⟩⟩
    · exact ⟨[], by simp [den, hi, isT, memB]⟩
    · exact ⟨[], by simp [den, hi, isT, memB]⟩
    · obtain ⟨_, c4⟩ := and3 hv
      simp only [List.all_cons, List.all_nil, Bool.and_true, Bool.and_eq_true] at c4
      have el : ∀ w : D, w.dat = true → ∀ (σ : En) h, σ[18]? = some (some w) → σ[2]? = some (some (.int n)) → den t (.and_ (.call "_law_plain" 1 (.cons (.var 18) .nil)) (.chn .LtE .Lt (.int 0) (.var 18) (.var 2))) σ h = .ok (.bl (cntB w 0 (n - 1))) h := fun w hw σ h e1 e2 => by
        have k1 : ∀ h, callD (pureF g_is_integer) [w] h = .ok (.bl (isI w)) h := fun h => k_is_integer hw
        cases w with
        | int i =>
          simp only [den, H.plain.ar, H.plain.orc, H.plain.dfl, e1, e2, k1, isI, R.bind_ok, if_true, List.append_nil, List.length_cons, List.length_nil, cmp_LtE, cntB_int]
          by_cases c : 0 ≤ i
          · simp [c]
            omega
          · simp [c]
        | _ => first | (cases hw; done) | simp [den, H.plain.ar, H.plain.orc, H.plain.dfl, e1, k1, isI, cntB]
      have sz : (0 : Nat) < sizeLine ∧ (1 : Nat) < sizeLine := by rw [sizeLine_eq]; decide
      refine ⟨[.lst [.bl (cntB x 0 (n - 1)), .bl (cntB y 0 (n - 1))]], ?_⟩
      have lc : ∀ h, den t c_law_circle_holds_3 (sg d n p q x5 x6 x7 x8 (some (.tup [x, y])) c10 x11 x12 x13 x14 x15 x16 x17) h = .ok (.loc h.length) (h ++ [.lst [.bl (cntB x 0 (n - 1)), .bl (cntB y 0 (n - 1))]]) := fun h => by
        have := den_lc_tup (t := t) (vs := [18]) (tg := .n 18) (it := .itS (.var 9)) (cond := .bl true) (elt := .and_ (.call "_law_plain" 1 (.cons (.var 18) .nil)) (.chn .LtE .Lt (.int 0) (.var 18) (.var 2))) (σ := sg d n p q x5 x6 x7 x8 (some (.tup [x, y])) c10 x11 x12 x13 x14 x15 x16 x17) (h := h) (ds := [x, y]) (p := fun _ => true) (f := fun w => .bl (cntB w 0 (n - 1))) rfl (fun w hw => by
          have wd : w.dat = true := by
            simp only [List.mem_cons, List.not_mem_nil, or_false] at hw
            rcases hw with rfl | rfl
            · exact c4.1
            · exact c4.2
          exact ⟨_, rfl, rfl, fun _ => el w wd _ _ rfl rfl⟩) (by simp)
        exact this
      have ka : ∀ (a b : Bool) (h : Hd), biD .all [.loc h.length] (h ++ [.lst [.bl a, .bl b]]) = .ok (.bl (a && b)) (h ++ [.lst [.bl a, .bl b]]) := fun a b h => by
        unfold biD
        simp only [fro_get]
        simp [blsD]
      have em : memB (.int n) (.tup [x, y]) = (cntB x 0 (n - 1) && cntB y 0 (n - 1)) := rfl
      generalize cntB x 0 (n - 1) = bx at *
      generalize cntB y 0 (n - 1) = by_ at *
      simp only [sg] at lc
      simp [den, hi, isT, lc, ka, em]
    · have hl : ((vs.length : Int) + 1 + 1 + 1 == 2) = false := by
        rw [beq_eq_false_iff_ne]
        omega
      exact ⟨[], by simp [den, hi, isT, memB, hl]⟩
  | _ => exact ⟨[], by simp [den, hi, isT, memB]⟩
end
end K42

namespace Ev
open PySem PySem.Spec PyProof.Rows L2
theorem seq_nx {t : Rt} {s r : Sm} {σ σ' : En} {h h' : Hd} (e : denS t s none σ h = .nx σ' h') : denS t (.seq s r) none σ h = denS t r none σ' h' := by
  show (match denS t s none σ h with | .nx σ' h' => denS t r none σ' h' | e => e) = _
  rw [e]
theorem get_app {h g : Hd} {l : Nat} {o : O} (e : h[l]? = some o) : (h ++ g)[l]? = some o := by
  rw [List.getElem?_append_left (List.getElem?_eq_some_iff.mp e).1]
  exact e
theorem add_ll {k l : Nat} {h : Hd} {a b : List D} (e1 : h[k]? = some (.lst a)) (e2 : h[l]? = some (.lst b)) (z : a.length + b.length ≤ 1000) : binD .Add (.loc k) (.loc l) h = .ok (.loc h.length) (h ++ [.lst (a ++ b)]) := by
  unfold binD
  simp only [e1, e2]
  rw [if_pos (szB_le z)]
end Ev
namespace K42
open PySem PySem.Spec PyProof.Rows L2 Ev
section
variable {t : Rt} {d n : Int} {p q : Int × Int} {x5 x6 x7 x8 x9 x10 x11 x12 x13 x14 x15 x16 x17 : Option D}
theorem body4 (H : HC t) (m : Dm d n p q) {v : D} (hv : vOk v = true) {h : Hd} : ∃ g, denS t b_law_circle_holds_4 none (sg d n p q x5 x6 x7 x8 (some v) x10 x11 x12 x13 x14 x15 x16 x17) h = .nx (sg d n p q x5 x6 x7 x8 (some v) x10 (some (.bl (memB (.int n) v))) x12 x13 x14 x15 x16 x17) (h ++ g) := by
  obtain ⟨n3, n45, nodd⟩ := m.nn
  have rk : ringB (.int d) (.int n) = true := ring_ok m.d1 m.d2 n3 n45 nodd
  obtain ⟨g, hg⟩ := good_eq (d := d) (n := n) (p := p) (q := q) H hv (x5 := x5) (x6 := x6) (x7 := x7) (x8 := x8) (c10 := x10) (x11 := x11) (x12 := x12) (x13 := x13) (x14 := x14) (x15 := x15) (x16 := x16) (x17 := x17) (h := h)
  have gi : g_is_member [.int d, .int n, v] = .v (.bl (memB (.int n) v)) := by
    unfold g_is_member
    simp only [dat_int, hv, and_self, if_true, rk]
  have ff : D.flats [.int d, .int n, v] = true := by show (true && (true && (v.flat && true))) = true; rw [dat_flat (vOk_dat hv)]; rfl
  have k1 : ∀ h, callD (pureF g_law_tells) [.fn "is_member", .tup [.int d, .int n, v], .bl (memB (.int n) v)] h = .ok (.bl true) h := fun h => k_law_tells ff (by
    rw [told_of gm rfl ff, gi]
    rfl) (by simp [sameOK])
  have g1 := H.glob _ _ _ gm
  refine ⟨g, ?_⟩
  have s1 : denS t (.asg (.n 11) (.and_ (.isi .tuple (.var 9)) (.and_ (.cmp .Eq (.bi .len (.cons (.var 9) .nil)) (.int 2)) (.bi .all (.cons c_law_circle_holds_3 .nil))))) none (sg d n p q x5 x6 x7 x8 (some v) x10 x11 x12 x13 x14 x15 x16 x17) h = .nx (sg d n p q x5 x6 x7 x8 (some v) x10 (some (.bl (memB (.int n) v))) x12 x13 x14 x15 x16 x17) (h ++ g) := by
    show ((den t _ _ h).thn _ _) = _
    rw [hg]
    rfl
  show denS t (.seq _ _) none _ h = _
  rw [seq_nx s1]
  generalize memB (.int n) v = mb at *
  simp [i_law_circle_holds_6, den, denS, H.tells.ar, H.tells.orc, H.tells.dfl, g1, k1, szB_le]
theorem loop7 (H : HC t) (m : Dm d n p q) {L : Nat} {all : List D} : ∀ (ds : List D) (x9 x11 : Option D) (h : Hd), (∀ v ∈ ds, vOk v = true) → h[L]? = some (.lst all) → ∃ c9 c11 g,
    forD (.n 9) (denS t b_law_circle_holds_4 none) (.loc L) all ds (sg d n p q x5 x6 x7 x8 x9 x10 x11 x12 x13 x14 x15 x16 x17) h = .nx (sg d n p q x5 x6 x7 x8 c9 x10 c11 x12 x13 x14 x15 x16 x17) (h ++ g)
  | [], x9, x11, h, _, st => ⟨x9, x11, [], by rw [forL_nil st, List.append_nil]⟩
  | v :: ds, x9, x11, h, hv, st => by
    obtain ⟨g, hb⟩ := body4 (x5 := x5) (x6 := x6) (x7 := x7) (x8 := x8) (x10 := x10) (x11 := x11) (x12 := x12) (x13 := x13) (x14 := x14) (x15 := x15) (x16 := x16) (x17 := x17) H m (hv v List.mem_cons_self) (h := h)
    obtain ⟨c9, c11, g2, z⟩ := loop7 H m ds (some v) (some (.bl (memB (.int n) v))) (h ++ g) (fun w hw => hv w (List.mem_cons_of_mem _ hw)) (get_app st)
    refine ⟨c9, c11, g ++ g2, ?_⟩
    rw [forL_cons st]
    simp only [bindT_n, sg, List.set_cons_succ, List.set_cons_zero]
    simp only [sg] at hb z
    rw [hb]
    simp only
    rw [z, List.append_assoc]
theorem part7 (H : HC t) (m : Dm d n p q) {w : Nat} {h : Hd} (hw : h[w]? = some (.lst (wrongL n))) : ∃ c9 c11 g, denS t f_law_circle_holds_7 none (sg d n p q x5 x6 x7 (some (.loc w)) x9 x10 x11 x12 x13 x14 x15 x16 x17) h = .nx (sg d n p q x5 x6 x7 (some (.loc w)) c9 x10 c11 x12 x13 x14 x15 x16 x17) (h ++ g) := by
  have e1 : ∀ h, den t (.lst (.cons (.var 3) (.cons (.tup (.cons (.int 0) (.cons (.int 0) .nil))) .nil))) (sg d n p q x5 x6 x7 (some (.loc w)) x9 x10 x11 x12 x13 x14 x15 x16 x17) h = .ok (.loc h.length) (h ++ [.lst [prD p, prD (0, 0)]]) := fun h => by
    simp [den, szB_le]
  have e2 : den t (.itS (.bin .Add (.var 8) (.lst (.cons (.var 3) (.cons (.tup (.cons (.int 0) (.cons (.int 0) .nil))) .nil))))) (sg d n p q x5 x6 x7 (some (.loc w)) x9 x10 x11 x12 x13 x14 x15 x16 x17) h =
      .ok (.tup [.tup (wrongL n ++ [prD p, prD (0, 0)]), .loc (h ++ [O.lst [prD p, prD (0, 0)]]).length]) ((h ++ [.lst [prD p, prD (0, 0)]]) ++ [.lst (wrongL n ++ [prD p, prD (0, 0)])]) := by
    have ad := add_ll (h := h ++ [.lst [prD p, prD (0, 0)]]) (get_app hw) (fro_get (h := h)) (by simp)
    show (((R.ok (.loc w) h : R D).bind fun x h1 => (den t (.lst (.cons (.var 3) (.cons (.tup (.cons (.int 0) (.cons (.int 0) .nil))) .nil))) _ h1).bind fun y => binD .Add x y).bind fun x => seqI x) = _
    simp only [R.bind_ok]
    rw [e1]
    simp only [R.bind_ok]
    rw [ad]
    simp only [R.bind_ok]
    unfold seqI
    simp only [fro_get]
  obtain ⟨c9, c11, g, z⟩ := loop7 (x5 := x5) (x6 := x6) (x7 := x7) (x8 := some (.loc w)) (x10 := x10) (x12 := x12) (x13 := x13) (x14 := x14) (x15 := x15) (x16 := x16) (x17 := x17) H m (all := wrongL n ++ [prD p, prD (0, 0)]) (L := (h ++ [O.lst [prD p, prD (0, 0)]]).length) (wrongL n ++ [prD p, prD (0, 0)]) x9 x11 ((h ++ [.lst [prD p, prD (0, 0)]]) ++ [.lst (wrongL n ++ [prD p, prD (0, 0)])]) (fun v hv => by
    rcases List.mem_append.mp hv with hv | hv
    · exact (wrong_ok m.nn.1 v hv).1
    · simp only [List.mem_cons, List.not_mem_nil, or_false] at hv
      rcases hv with rfl | rfl <;> rfl) fro_get
  refine ⟨c9, c11, [.lst [prD p, prD (0, 0)]] ++ ([.lst (wrongL n ++ [prD p, prD (0, 0)])] ++ g), ?_⟩
  show ((den t _ _ h).thn _ _) = _
  rw [e2]
  simp only [R.thn_ok]
  rw [z]
  simp only [List.append_assoc]
theorem loop5 (H : HC t) {w : Nat} {h : Hd} (hw : h[w]? = some (.lst (wrongL n))) (fw : D.flats (wrongL n) = true) {all : List D} : ∀ (ds : List D) (x12 x13 x14 : Option D), (∀ v ∈ ds, ∃ x as i, v = .tup [.fn x, .tup as, .int ((i : Nat) : Int)] ∧ BadsOK x as i (wrongL n)) → ∃ c12 c13 c14,
    forD (.t (.cons (.n 12) (.cons (.n 13) (.cons (.n 14) .nil)))) (denS t b_law_circle_holds_2 none) .non all ds (sg d n p q x5 x6 x7 (some (.loc w)) x9 x10 x11 x12 x13 x14 x15 x16 x17) h = .nx (sg d n p q x5 x6 x7 (some (.loc w)) x9 x10 x11 c12 c13 c14 x15 x16 x17) h
  | [], x12, x13, x14, _ => ⟨x12, x13, x14, forD_nil⟩
  | v :: ds, x12, x13, x14, hv => by
    obtain ⟨x, as, i, rfl, ok⟩ := hv v List.mem_cons_self
    obtain ⟨c12, c13, c14, z⟩ := loop5 H hw fw (all := all) ds (some (.fn x)) (some (.tup as)) (some (.int (i : Int))) (fun v hv' => hv v (List.mem_cons_of_mem _ hv'))
    refine ⟨c12, c13, c14, ?_⟩
    have k1 : callD p_law_bads [.fn x, .tup as, .int (i : Int), .loc w] h = .ok (.bl true) h := k_law_bads hw fw ok
    rw [forD_cons]
    simp only [bindT_t, bindTs_cons, bindTs_nil, bindT_n, sg, List.set_cons_succ, List.set_cons_zero]
    have body : denS t b_law_circle_holds_2 none [some (.loc 0), some (.int d), some (.int n), some (prD p), some (prD q), x5, x6, x7, some (.loc w), x9, x10, x11, some (.fn x), some (.tup as), some (.int (i : Int)), x15, x16, x17, none] h = .nx [some (.loc 0), some (.int d), some (.int n), some (prD p), some (prD q), x5, x6, x7, some (.loc w), x9, x10, x11, some (.fn x), some (.tup as), some (.int (i : Int)), x15, x16, x17, none] h := by
      simp [b_law_circle_holds_2, i_law_circle_holds_4, den, denS, H.bads.ar, H.bads.orc, H.bads.dfl, k1]
    rw [body]
    simp only [sg] at z
    exact z
theorem part5 (H : HC t) (m : Dm d n p q) {w : Nat} {h : Hd} (hw : h[w]? = some (.lst (wrongL n))) : ∃ c12 c13 c14, denS t f_law_circle_holds_5 none (sg d n p q x5 x6 x7 (some (.loc w)) x9 x10 x11 x12 x13 x14 x15 x16 x17) h = .nx (sg d n p q x5 x6 x7 (some (.loc w)) x9 x10 x11 c12 c13 c14 x15 x16 x17) h := by
  obtain ⟨b1, b2, b3, b4, b5, b6⟩ := bads6 m
  have G1 := H.glob _ _ _ gp
  have G2 := H.glob _ _ _ gw
  have G3 := H.glob _ _ _ gn
  have G4 := H.glob _ _ _ gb
  have G5 := H.glob _ _ _ go
  let items : List D := [.tup [.fn "ring_product", .tup [.int d, .int n, prD p, prD q], .int 2], .tup [.fn "ring_product", .tup [.int d, .int n, prD p, prD q], .int 3], .tup [.fn "ring_power", .tup [.int d, .int n, prD p, .int 1], .int 2], .tup [.fn "ring_norm", .tup [.int d, .int n, prD p], .int 2], .tup [.fn "ring_back", .tup [.int d, .int n, prD p], .int 2], .tup [.fn "order_in_ring", .tup [.int d, .int n, prD p], .int 2]]
  obtain ⟨c12, c13, c14, z⟩ := loop5 (d := d) (p := p) (q := q) (x5 := x5) (x6 := x6) (x7 := x7) (x9 := x9) (x10 := x10) (x11 := x11) (x15 := x15) (x16 := x16) (x17 := x17) H hw rfl (all := items) items x12 x13 x14 (fun v hv => by
    simp only [items, List.mem_cons, List.not_mem_nil, or_false] at hv
    rcases hv with rfl | rfl | rfl | rfl | rfl | rfl
    · exact ⟨_, _, 2, rfl, b1⟩
    · exact ⟨_, _, 3, rfl, b2⟩
    · exact ⟨_, _, 2, rfl, b3⟩
    · exact ⟨_, _, 2, rfl, b4⟩
    · exact ⟨_, _, 2, rfl, b5⟩
    · exact ⟨_, _, 2, rfl, b6⟩)
  refine ⟨c12, c13, c14, ?_⟩
  rw [← z]
  generalize hb : denS t b_law_circle_holds_2 none = B
  have e : denS t f_law_circle_holds_5 none (sg d n p q x5 x6 x7 (some (.loc w)) x9 x10 x11 x12 x13 x14 x15 x16 x17) h = ((den t (.itS (.tup (.cons (.tup (.cons (.glo "ring_product") (.cons (.tup (.cons (.var 1) (.cons (.var 2) (.cons (.var 3) (.cons (.var 4) .nil))))) (.cons (.int 2) .nil)))) (.cons (.tup (.cons (.glo "ring_product") (.cons (.tup (.cons (.var 1) (.cons (.var 2) (.cons (.var 3) (.cons (.var 4) .nil))))) (.cons (.int 3) .nil)))) (.cons (.tup (.cons (.glo "ring_power") (.cons (.tup (.cons (.var 1) (.cons (.var 2) (.cons (.var 3) (.cons (.int 1) .nil))))) (.cons (.int 2) .nil)))) (.cons (.tup (.cons (.glo "ring_norm") (.cons (.tup (.cons (.var 1) (.cons (.var 2) (.cons (.var 3) .nil)))) (.cons (.int 2) .nil)))) (.cons (.tup (.cons (.glo "ring_back") (.cons (.tup (.cons (.var 1) (.cons (.var 2) (.cons (.var 3) .nil)))) (.cons (.int 2) .nil)))) (.cons (.tup (.cons (.glo "order_in_ring") (.cons (.tup (.cons (.var 1) (.cons (.var 2) (.cons (.var 3) .nil)))) (.cons (.int 2) .nil)))) .nil)))))))) (sg d n p q x5 x6 x7 (some (.loc w)) x9 x10 x11 x12 x13 x14 x15 x16 x17) h).thn (sg d n p q x5 x6 x7 (some (.loc w)) x9 x10 x11 x12 x13 x14 x15 x16 x17) fun y h1 => match y with
    | .tup [.tup ds, g] => forD (.t (.cons (.n 12) (.cons (.n 13) (.cons (.n 14) .nil)))) (denS t b_law_circle_holds_2 none) g ds ds (sg d n p q x5 x6 x7 (some (.loc w)) x9 x10 x11 x12 x13 x14 x15 x16 x17) h1
    | _ => .bad) := rfl
  rw [e, hb]
  simp [den, G1, G2, G3, G4, G5, szB_le, seqI, items]
end
end K42

namespace K42
open PySem PySem.Spec PyProof.Rows L2 Ev
section
variable {t : Rt} {d n : Int} {p q : Int × Int} {x5 x6 x7 x8 x9 x10 x11 x12 x13 x14 x15 x16 x17 : Option D}
theorem body1 (H : HC t) {x : Str} {as : List D} (ok : B01 x as) {h : Hd} : denS t b_law_circle_holds_1 none (sg d n p q x5 x6 x7 x8 x9 x10 x11 (some (.fn x)) (some (.tup as)) x14 x15 x16 x17) h = .nx (sg d n p q x5 x6 x7 x8 x9 x10 x11 (some (.fn x)) (some (.tup as)) x14 x15 x16 x17) (h ++ [.lst bads0] ++ [.lst bads1]) := by
  have k0 : callD p_law_bads [.fn x, .tup as, .int 0, .loc h.length] (h ++ [.lst bads0]) = .ok (.bl true) (h ++ [.lst bads0]) := k_law_bads (i := 0) fro_get rfl ok.1
  have k1 : callD p_law_bads [.fn x, .tup as, .int 1, .loc (h ++ [O.lst bads0]).length] (h ++ [.lst bads0] ++ [.lst bads1]) = .ok (.bl true) (h ++ [.lst bads0] ++ [.lst bads1]) := k_law_bads (i := 1) fro_get rfl ok.2
  have e0 : ∀ h, den t (.lst (.cons .non (.cons (.int 1000001) (.cons (.neg (.int 1000001)) (.cons (.bl true) .nil))))) (sg d n p q x5 x6 x7 x8 x9 x10 x11 (some (.fn x)) (some (.tup as)) x14 x15 x16 x17) h = .ok (.loc h.length) (h ++ [.lst bads0]) := fun h => by
    simp [den, szB_le]
  have e1 : ∀ h, den t (.lst (.cons .non (.cons (.int 1) (.cons (.int 4) (.cons (.int 0) (.cons (.neg (.int 3)) .nil)))))) (sg d n p q x5 x6 x7 x8 x9 x10 x11 (some (.fn x)) (some (.tup as)) x14 x15 x16 x17) h = .ok (.loc h.length) (h ++ [.lst bads1]) := fun h => by
    simp [den, szB_le]
  generalize hL0 : (Ex.lst (.cons .non (.cons (.int 1000001) (.cons (.neg (.int 1000001)) (.cons (.bl true) .nil))))) = L0 at *
  generalize hL1 : (Ex.lst (.cons .non (.cons (.int 1) (.cons (.int 4) (.cons (.int 0) (.cons (.neg (.int 3)) .nil)))))) = L1 at *
  have eb : b_law_circle_holds_1 = .seq (.ife (.or_ (.not_ (.call "_law_bads" 4 (.cons (.var 12) (.cons (.var 13) (.cons (.int 0) (.cons L0 .nil)))))) (.not_ (.call "_law_bads" 4 (.cons (.var 12) (.cons (.var 13) (.cons (.int 1) (.cons L1 .nil))))))) (.seq (.ret (.bl false)) .nil) .nil) .nil := by
    rw [← hL0, ← hL1]; rfl
  rw [eb]
  generalize hh0 : h ++ [O.lst bads0] = h0 at *
  generalize hh1 : h0 ++ [O.lst bads1] = h1 at *
  have e0' := e0 h
  have e1' := e1 h0
  rw [hh0] at e0'
  rw [hh1] at e1'
  simp only [sg] at e0' e1' ⊢
  generalize h.length = l0 at *
  generalize h0.length = l1 at *
  simp [den, denS, H.bads.ar, H.bads.orc, H.bads.dfl, e0', e1', k0, k1]
theorem loop3 (H : HC t) {all : List D} : ∀ (ds : List D) (x12 x13 : Option D) (h : Hd), (∀ v ∈ ds, ∃ x as, v = .tup [.fn x, .tup as] ∧ B01 x as) → ∃ c12 c13 g,
    forD (.t (.cons (.n 12) (.cons (.n 13) .nil))) (denS t b_law_circle_holds_1 none) .non all ds (sg d n p q x5 x6 x7 x8 x9 x10 x11 x12 x13 x14 x15 x16 x17) h = .nx (sg d n p q x5 x6 x7 x8 x9 x10 x11 c12 c13 x14 x15 x16 x17) (h ++ g)
  | [], x12, x13, h, _ => ⟨x12, x13, [], by rw [forD_nil, List.append_nil]⟩
  | v :: ds, x12, x13, h, hv => by
    obtain ⟨x, as, rfl, ok⟩ := hv v List.mem_cons_self
    obtain ⟨c12, c13, g, z⟩ := loop3 H (all := all) ds (some (.fn x)) (some (.tup as)) (h ++ [.lst bads0] ++ [.lst bads1]) (fun v hv' => hv v (List.mem_cons_of_mem _ hv'))
    have body := body1 (d := d) (n := n) (p := p) (q := q) (x5 := x5) (x6 := x6) (x7 := x7) (x8 := x8) (x9 := x9) (x10 := x10) (x11 := x11) (x14 := x14) (x15 := x15) (x16 := x16) (x17 := x17) H ok (h := h)
    refine ⟨c12, c13, [.lst bads0] ++ ([.lst bads1] ++ g), ?_⟩
    rw [forD_cons]
    simp only [bindT_t, bindTs_cons, bindTs_nil, bindT_n, sg, List.set_cons_succ, List.set_cons_zero]
    simp only [sg] at body z
    rw [body]
    simp only
    rw [z]
    simp only [List.append_assoc]
theorem part3 (H : HC t) (m : Dm d n p q) {h : Hd} : ∃ c12 c13 g, denS t f_law_circle_holds_3 none (sg d n p q x5 x6 x7 x8 x9 x10 x11 x12 x13 x14 x15 x16 x17) h = .nx (sg d n p q x5 x6 x7 x8 x9 x10 x11 c12 c13 x14 x15 x16 x17) (h ++ g) := by
  obtain ⟨b1, b2, b3, b4, b5⟩ := bads5 m
  have G1 := H.glob _ _ _ gm
  have G2 := H.glob _ _ _ gp
  have G3 := H.glob _ _ _ gn
  have G4 := H.glob _ _ _ gc
  have G5 := H.glob _ _ _ gl
  let items : List D := [.tup [.fn "is_member", .tup [.int d, .int n, prD p]], .tup [.fn "ring_product", .tup [.int d, .int n, prD p, prD q]], .tup [.fn "ring_norm", .tup [.int d, .int n, prD p]], .tup [.fn "circle_member", .tup [.int d, .int n, .int 0]], .tup [.fn "members_of_norm", .tup [.int d, .int n, .int 0]]]
  obtain ⟨c12, c13, g, z⟩ := loop3 (d := d) (n := n) (p := p) (q := q) (x5 := x5) (x6 := x6) (x7 := x7) (x8 := x8) (x9 := x9) (x10 := x10) (x11 := x11) (x14 := x14) (x15 := x15) (x16 := x16) (x17 := x17) H (all := items) items x12 x13 h (fun v hv => by
    simp only [items, List.mem_cons, List.not_mem_nil, or_false] at hv
    rcases hv with rfl | rfl | rfl | rfl | rfl
    · exact ⟨_, _, rfl, b1⟩
    · exact ⟨_, _, rfl, b2⟩
    · exact ⟨_, _, rfl, b3⟩
    · exact ⟨_, _, rfl, b4⟩
    · exact ⟨_, _, rfl, b5⟩)
  refine ⟨c12, c13, g, ?_⟩
  rw [← z]
  generalize hb : denS t b_law_circle_holds_1 none = B
  have e : denS t f_law_circle_holds_3 none (sg d n p q x5 x6 x7 x8 x9 x10 x11 x12 x13 x14 x15 x16 x17) h = ((den t (.itS (.tup (.cons (.tup (.cons (.glo "is_member") (.cons (.tup (.cons (.var 1) (.cons (.var 2) (.cons (.var 3) .nil)))) .nil))) (.cons (.tup (.cons (.glo "ring_product") (.cons (.tup (.cons (.var 1) (.cons (.var 2) (.cons (.var 3) (.cons (.var 4) .nil))))) .nil))) (.cons (.tup (.cons (.glo "ring_norm") (.cons (.tup (.cons (.var 1) (.cons (.var 2) (.cons (.var 3) .nil)))) .nil))) (.cons (.tup (.cons (.glo "circle_member") (.cons (.tup (.cons (.var 1) (.cons (.var 2) (.cons (.int 0) .nil)))) .nil))) (.cons (.tup (.cons (.glo "members_of_norm") (.cons (.tup (.cons (.var 1) (.cons (.var 2) (.cons (.int 0) .nil)))) .nil))) .nil))))))) (sg d n p q x5 x6 x7 x8 x9 x10 x11 x12 x13 x14 x15 x16 x17) h).thn (sg d n p q x5 x6 x7 x8 x9 x10 x11 x12 x13 x14 x15 x16 x17) fun y h1 => match y with
    | .tup [.tup ds, g] => forD (.t (.cons (.n 12) (.cons (.n 13) .nil))) (denS t b_law_circle_holds_1 none) g ds ds (sg d n p q x5 x6 x7 x8 x9 x10 x11 x12 x13 x14 x15 x16 x17) h1
    | _ => .bad) := rfl
  rw [e, hb]
  simp [den, G1, G2, G3, G4, G5, szB_le, seqI, items]
/-- one call of bads with a written list -/
theorem bad_call (H : HC t) {σ : En} {x : Str} {ae ie le : Ex} {as bads : List D} {i : Nat} (hx : t.glob x = some (.fn x)) (ha : ∀ h, den t ae σ h = .ok (.tup as) h) (hi : ∀ h, den t ie σ h = .ok (.int (i : Int)) h) (hl : ∀ h, den t le σ h = .ok (.loc h.length) (h ++ [.lst bads])) (fb : D.flats bads = true) (ok : BadsOK x as i bads) (h : Hd) :
    den t (.not_ (.call "_law_bads" 4 (.cons (.glo x) (.cons ae (.cons ie (.cons le .nil)))))) σ h = .ok (.bl false) (h ++ [.lst bads]) := by
  have k0 : callD p_law_bads [.fn x, .tup as, .int (i : Int), .loc h.length] (h ++ [.lst bads]) = .ok (.bl true) (h ++ [.lst bads]) := k_law_bads fro_get fb ok
  have hl' := hl h
  generalize h ++ [O.lst bads] = h1 at *
  generalize h.length = l0 at *
  simp [den, H.bads.ar, H.bads.orc, H.bads.dfl, hx, ha, hi, hl', k0]
theorem part1 (H : HC t) (m : Dm d n p q) {h : Hd} : ∃ g, denS t i_law_circle_holds_1 none (sg d n p q x5 x6 x7 x8 x9 x10 x11 x12 x13 x14 x15 x16 x17) h = .nx (sg d n p q x5 x6 x7 x8 x9 x10 x11 x12 x13 x14 x15 x16 x17) (h ++ g) := by
  obtain ⟨b1, b2, b3, b4, b5⟩ := badsL m
  have c1 := bad_call H (σ := sg d n p q x5 x6 x7 x8 x9 x10 x11 x12 x13 x14 x15 x16 x17) (ae := .tup (.cons (.var 1) (.cons (.var 2) (.cons (.var 3) (.cons (.int 1) .nil))))) (ie := .int 3) (le := .lst (.cons (.neg (.int 1)) (.cons .non (.cons (.int 10000000000000001) .nil)))) (H.glob _ _ _ gw) (fun h => by simp [den, szB_le]) (fun h => rfl) (fun h => by simp [den, szB_le]) rfl b1
  have c2 := bad_call H (σ := sg d n p q x5 x6 x7 x8 x9 x10 x11 x12 x13 x14 x15 x16 x17) (ae := .tup (.cons (.var 1) (.cons (.var 2) (.cons (.int 0) .nil)))) (ie := .int 2) (le := .lst (.cons (.neg (.int 1)) (.cons (.var 2) (.cons .non (.cons (.bl true) .nil))))) (H.glob _ _ _ gc) (fun h => by simp [den, szB_le]) (fun h => rfl) (fun h => by simp [den, szB_le]) rfl b2
  have c3 := bad_call H (σ := sg d n p q x5 x6 x7 x8 x9 x10 x11 x12 x13 x14 x15 x16 x17) (ae := .tup (.cons (.var 1) (.cons (.var 2) (.cons (.int 0) .nil)))) (ie := .int 2) (le := .lst (.cons (.neg (.int 1)) (.cons (.var 2) (.cons .non .nil)))) (H.glob _ _ _ gl) (fun h => by simp [den, szB_le]) (fun h => rfl) (fun h => by simp [den, szB_le]) rfl b3
  have c4 := bad_call H (σ := sg d n p q x5 x6 x7 x8 x9 x10 x11 x12 x13 x14 x15 x16 x17) (ae := .tup (.cons (.var 1) (.cons (.var 2) (.cons (.int 0) .nil)))) (ie := .int 1) (le := .lst (.cons (.int 201) .nil)) (H.glob _ _ _ gl) (fun h => by simp [den, szB_le]) (fun h => rfl) (fun h => by simp [den, szB_le]) rfl b4
  have c5 := bad_call H (σ := sg d n p q x5 x6 x7 x8 x9 x10 x11 x12 x13 x14 x15 x16 x17) (ae := .tup (.cons (.var 1) (.cons (.var 2) (.cons (.var 3) .nil)))) (ie := .int 1) (le := .lst (.cons (.int 2001) (.cons .non .nil))) (H.glob _ _ _ go) (fun h => by simp [den, szB_le]) (fun h => rfl) (fun h => by simp [den, szB_le]) rfl b5
  have ei : ∀ {A B C E F : Ex} {σ : En} {h h1 h2 h3 h4 h5 : Hd}, den t A σ h = .ok (.bl false) h1 → den t B σ h1 = .ok (.bl false) h2 → den t C σ h2 = .ok (.bl false) h3 → den t E σ h3 = .ok (.bl false) h4 → den t F σ h4 = .ok (.bl false) h5 →
      denS t (.ife (.or_ A (.or_ B (.or_ C (.or_ E F)))) (.seq (.ret (.bl false)) .nil) .nil) none σ h = .nx σ h5 := fun a b c e f => by
    simp [denS, den, a, b, c, e, f]
  refine ⟨[.lst [.int (-1), .non, .int 10000000000000001]] ++ ([.lst [.int (-1), .int n, .non, .bl true]] ++ ([.lst [.int (-1), .int n, .non]] ++ ([.lst [.int 201]] ++ [.lst [.int 2001, .non]]))), ?_⟩
  show denS t (.ife (.or_ _ (.or_ _ (.or_ _ (.or_ _ _)))) (.seq (.ret (.bl false)) .nil) .nil) none _ h = _
  rw [ei (c1 _) (c2 _) (c3 _) (c4 _) (c5 _)]
  simp only [List.append_assoc]
theorem prim_some {n : Int} (h : ∃ j : Nat, j < 22 ∧ n = ((3 + 2 * j : Nat) : Int)) : ∃ r, primF 50 2 n = some r := by
  obtain ⟨j, hj, rfl⟩ := h
  have : (List.range 22).all (fun j => (primF 50 2 ((3 + 2 * j : Nat) : Int)).isSome) = true := by decide +kernel
  exact Option.isSome_iff_exists.mp (List.all_eq_true.mp this j (List.mem_range.mpr hj))
theorem take_range {st : Int × Int} {m : Int} (h : 0 < m) : 0 ≤ (takeF st m).1 ∧ (takeF st m).1 < m := by
  unfold takeF
  split
  · exact ⟨Int.emod_nonneg _ (Int.ne_of_gt h), Int.emod_lt_of_pos _ h⟩
  · exact ⟨Int.emod_nonneg _ (Int.ne_of_gt h), Int.emod_lt_of_pos _ h⟩
open Classical in
noncomputable def p_law_circle_holds : List D → Hd → R D
  | [.loc 0, .int d, .int n, .tup [.int a, .int b], .tup [.int e, .int f]], [.lst [.int s, .int u]] => if Dm d n (a, b) (e, f) then .ok (.bl true) [stO (takeF (s, u) n).2] else .bad
  | _, _ => .bad
theorem d_law_circle_holds (H : HC t) (ds : List D) (os : Hd) : p_law_circle_holds ds os = .bad ∨ trimR os.length (denS t s_law_circle_holds none (startD N_law_circle_holds ds) os) = p_law_circle_holds ds os := by
  unfold p_law_circle_holds
  split
  · rename_i d n a b e f s u
    split
    · rename_i m
      right
      obtain ⟨n3, n45, nodd⟩ := m.nn
      have np : (0 : Int) < n := by omega
      obtain ⟨r, hr⟩ := prim_some m.n1
      have k0 : ∀ h, callD (pureF g_law_prime) [.int n] h = .ok (.bl r) h := fun h => k_law_prime (by omega) hr
      have s0 : ∀ h, denS t (.asg (.n 5) (.call "_law_prime" 1 (.cons (.var 2) .nil))) none (sg d n (a, b) (e, f) none none none none none none none none none none none none none) h = .nx (sg d n (a, b) (e, f) (some (.bl r)) none none none none none none none none none none none none) h := fun h => by
        simp [denS, den, H.prime.ar, H.prime.orc, H.prime.dfl, k0]
      obtain ⟨c10, g1, s1⟩ := part12 (t := t) H m hr (h := [stO (s, u)])
      generalize htk : takeF (s, u) n = tk at *
      have tr : 0 ≤ tk.1 ∧ tk.1 < n := by rw [← htk]; exact take_range np
      have k2 : callD p_law_take [.loc 0, .int n] ([stO (s, u)] ++ g1) = .ok (.int tk.1) ([stO tk.2] ++ g1) := by
        have := k_law_take (h := [stO (s, u)] ++ g1) (l := 0) (st := (s, u)) (m := n) rfl np (by omega)
        rw [htk] at this
        exact this
      have s2 : denS t (.asg (.n 6) (.call "_law_take" 2 (.cons (.var 0) (.cons (.var 2) .nil)))) none (sg d n (a, b) (e, f) (some (.bl r)) none none none none c10 none none none none none none none) ([stO (s, u)] ++ g1) = .nx (sg d n (a, b) (e, f) (some (.bl r)) (some (.int tk.1)) none none none c10 none none none none none none none) ([stO tk.2] ++ g1) := by
        generalize [stO (s, u)] ++ g1 = h1 at *
        generalize [stO tk.2] ++ g1 = h2 at *
        simp [denS, den, H.take.ar, H.take.orc, H.take.dfl, k2]
      have q1 : ∀ x h, binD .Mod (.int x) (.int n) h = .ok (.int (x % n)) h := fun x h => bin_mod np
      have st1 : S63 tk.1 := ⟨by omega, by omega⟩
      have s3 : ∀ h, denS t (.asg (.n 7) (.bin .Mod (.bi .int (.cons (.bin .Sub (.bin .Mult (.var 6) (.var 6)) (.var 1)) .nil)) (.var 2))) none (sg d n (a, b) (e, f) (some (.bl r)) (some (.int tk.1)) none none none c10 none none none none none none none) h = .nx (sg d n (a, b) (e, f) (some (.bl r)) (some (.int tk.1)) (some (.int ((tk.1 * tk.1 - d) % n))) none none c10 none none none none none none none) h := fun h => by
        simp [denS, den, q1, S63_mul st1]
      obtain ⟨cu, cv, s4⟩ := part10 (t := t) H m (x := tk.1) tr (x5 := some (.bl r)) (c10 := c10) (h := [stO tk.2] ++ g1)
      have s5 : ∀ h, denS t (.asg (.n 8) (.lst (.cons .non (.cons (.tup (.cons (.var 2) (.cons (.int 0) .nil))) (.cons (.tup (.cons (.neg (.int 1)) (.cons (.int 0) .nil))) (.cons (.tup (.cons (.int 0) .nil)) (.cons (.lfr (.cons (.int 0) (.cons (.int 0) .nil))) (.cons (.tup (.cons (.bl true) (.cons (.int 0) .nil))) (.cons (.tup (.cons (.str "0") (.cons (.int 0) .nil))) (.cons (.int 5) .nil)))))))))) none (sg d n (a, b) (e, f) (some (.bl r)) (some (.int tk.1)) (some (.int ((tk.1 * tk.1 - d) % n))) none none c10 none none none none cu cv none) h = .nx (sg d n (a, b) (e, f) (some (.bl r)) (some (.int tk.1)) (some (.int ((tk.1 * tk.1 - d) % n))) (some (.loc h.length)) none c10 none none none none cu cv none) (h ++ [.lst (wrongL n)]) := fun h => by
        simp [denS, den, szB_le]
      obtain ⟨c9, c11, g2, s6⟩ := part7 (t := t) H m (x5 := some (.bl r)) (x6 := some (.int tk.1)) (x7 := some (.int ((tk.1 * tk.1 - d) % n))) (x9 := none) (x10 := c10) (x11 := none) (x12 := none) (x13 := none) (x14 := none) (x15 := cu) (x16 := cv) (x17 := none) (w := ([stO tk.2] ++ g1).length) (h := ([stO tk.2] ++ g1) ++ [.lst (wrongL n)]) fro_get
      obtain ⟨c12, c13, c14, s7⟩ := part5 (t := t) H m (x5 := some (.bl r)) (x6 := some (.int tk.1)) (x7 := some (.int ((tk.1 * tk.1 - d) % n))) (x9 := c9) (x10 := c10) (x11 := c11) (x12 := none) (x13 := none) (x14 := none) (x15 := cu) (x16 := cv) (x17 := none) (w := ([stO tk.2] ++ g1).length) (h := (([stO tk.2] ++ g1) ++ [.lst (wrongL n)]) ++ g2) (get_app fro_get)
      obtain ⟨c12', c13', g3, s8⟩ := part3 (t := t) H m (x5 := some (.bl r)) (x6 := some (.int tk.1)) (x7 := some (.int ((tk.1 * tk.1 - d) % n))) (x8 := some (.loc ([stO tk.2] ++ g1).length)) (x9 := c9) (x10 := c10) (x11 := c11) (x12 := c12) (x13 := c13) (x14 := c14) (x15 := cu) (x16 := cv) (x17 := none) (h := (([stO tk.2] ++ g1) ++ [.lst (wrongL n)]) ++ g2)
      obtain ⟨g4, s9⟩ := part1 (t := t) H m (x5 := some (.bl r)) (x6 := some (.int tk.1)) (x7 := some (.int ((tk.1 * tk.1 - d) % n))) (x8 := some (.loc ([stO tk.2] ++ g1).length)) (x9 := c9) (x10 := c10) (x11 := c11) (x12 := c12') (x13 := c13') (x14 := c14) (x15 := cu) (x16 := cv) (x17 := none) (h := ((([stO tk.2] ++ g1) ++ [.lst (wrongL n)]) ++ g2) ++ g3)
      have ev : ∃ g, denS t s_law_circle_holds none (sg d n (a, b) (e, f) none none none none none none none none none none none none none) [stO (s, u)] = .rt (.bl true) (stO tk.2 :: g) := by
        refine ⟨g1 ++ ([.lst (wrongL n)] ++ (g2 ++ (g3 ++ g4))), ?_⟩
        show denS t (.seq _ _) none _ _ = _
        rw [seq_nx (s0 _), seq_nx s1, seq_nx s2, seq_nx (s3 _), seq_nx s4, seq_nx (s5 _), seq_nx s6, seq_nx s7, seq_nx s8, seq_nx s9]
        have : ∀ σ h, denS t (.seq (.ret (.bl true)) .nil) none σ h = .rt (.bl true) h := fun σ h => rfl
        rw [this]
        simp only [List.append_assoc, List.cons_append, List.nil_append]
      obtain ⟨g, ev⟩ := ev
      have est : startD N_law_circle_holds [.loc 0, .int d, .int n, .tup [.int a, .int b], .tup [.int e, .int f]] = sg d n (a, b) (e, f) none none none none none none none none none none none none none := rfl
      rw [est, ev]
      unfold trimR
      simp [D.ls, uniq, getAll, O.flat, D.flats, D.flat, D.nox, D.ml, List.range_succ]
    · exact .inl rfl
  · exact .inl rfl
end
end K42

namespace K42
open PySem PySem.Spec PyProof.Rows L2 Ev
structure HL (t : Rt) : Prop where
  state : Has t "_law_state" 1 p_law_state
  take : Has t "_law_take" 2 p_law_take
  tells : Has t "_law_tells" 3 (pureF g_law_tells)
  raises : Has t "_law_raises" 3 (pureF g_law_raises)
  value : Has t "_law_value" 2 (pureF g_law_value)
  common : Has t "_law_common" 2 (pureF g_law_common)
  times : Has t "_law_times" 4 (pureF g_product_by)
  circle : Has t "_law_circle_holds" 5 p_law_circle_holds
  glob : ∀ x k g, gOf x = some (k, g) → t.glob x = some (.fn x)
abbrev lw (x0 x2 x3 x4 x5 x6 x7 x8 x9 x10 x11 x12 x13 x14 x15 x16 x17 x18 x19 x20 x21 : Option D) : En := [x0, some (.loc 0), x2, x3, x4, x5, x6, x7, x8, x9, x10, x11, x12, x13, x14, x15, x16, x17, x18, x19, x20, x21]
structure DN (d n : Int) : Prop where
  d1 : -20 ≤ d
  d2 : d ≤ 20
  n1 : ∃ j : Nat, j < 22 ∧ n = ((3 + 2 * j : Nat) : Int)
theorem DN.nn {d n : Int} (m : DN d n) : 3 ≤ n ∧ n ≤ 45 ∧ n % 2 = 1 := by
  obtain ⟨j, h1, h2⟩ := m.n1
  omega
structure In (n : Int) (p : Int × Int) : Prop where
  a : 0 ≤ p.1
  b : p.1 < n
  c : 0 ≤ p.2
  e : p.2 < n
theorem In.mul {d n : Int} (h : 0 < n) (p q : Int × Int) : In n (mulP d n p q) := ⟨Int.emod_nonneg _ (Int.ne_of_gt h), Int.emod_lt_of_pos _ h, Int.emod_nonneg _ (Int.ne_of_gt h), Int.emod_lt_of_pos _ h⟩
theorem In.s1 {d n : Int} {p : Int × Int} (m : DN d n) (h : In n p) : S63 p.1 := by
  have := m.nn; have := h.a; have := h.b
  exact ⟨by omega, by omega⟩
theorem In.s2 {d n : Int} {p : Int × Int} (m : DN d n) (h : In n p) : S63 p.2 := by
  have := m.nn; have := h.c; have := h.e
  exact ⟨by omega, by omega⟩
theorem DN.sd {d n : Int} (m : DN d n) : S63 d := by
  have := m.d1; have := m.d2
  exact ⟨by omega, by omega⟩
theorem DN.rm {d n : Int} {p : Int × Int} (m : DN d n) (h : In n p) : rmB (.int d) (.int n) (prD p) = true := rm_ok m.d1 m.d2 m.nn.1 m.nn.2.1 m.nn.2.2 h.a h.b h.c h.e
theorem k_take0 {st : Int × Int} {m : Int} {g : Hd} (h0 : 0 < m) (h1 : m < 2 ^ 63) : callD p_law_take [.loc 0, .int m] (stO st :: g) = .ok (.int (takeF st m).1) (stO (takeF st m).2 :: g) :=
  k_law_take (h := stO st :: g) (l := 0) rfl h0 h1
theorem k_times {d n : Int} {p q : Int × Int} {h : Hd} (m : DN d n) (hp : In n p) (hq : In n q) : callD (pureF g_product_by) [.int d, .int n, prD p, prD q] h = .ok (prD (mulP d n p q)) h :=
  k_product_by (by have := m.nn; omega) m.sd (hp.s1 m) (hp.s2 m) (hq.s1 m) (hq.s2 m)
theorem told_prod {d n : Int} {p q : Int × Int} (m : DN d n) (hp : In n p) (hq : In n q) : g_law_told [.fn "ring_product", .tup [.int d, .int n, prD p, prD q]] = .v (.tup [.str "told", prD (mulP d n p q)]) := by
  rw [told_of gp rfl rfl]
  have : g_ring_product [.int d, .int n, prD p, prD q] = .v (prD (mulP d n p q)) := by
    unfold g_ring_product
    simp only [dat_int, vp, and_self, if_true, m.rm hp, m.rm hq]
    rfl
  rw [this]
  rfl
theorem told_norm {d n : Int} {p : Int × Int} (m : DN d n) (hp : In n p) : g_law_told [.fn "ring_norm", .tup [.int d, .int n, prD p]] = .v (.tup [.str "told", .int (normP d n p)]) := by
  rw [told_of gn rfl rfl]
  have : g_ring_norm [.int d, .int n, prD p] = .v (.int (normP d n p)) := by
    unfold g_ring_norm
    simp only [dat_int, vp, and_self, if_true, m.rm hp]
    rfl
  rw [this]
  rfl
theorem told_pow {d n : Int} {p : Int × Int} {k : Nat} (m : DN d n) (hp : In n p) (hk : k ≤ 10000000000000000) : g_law_told [.fn "ring_power", .tup [.int d, .int n, prD p, .int (k : Int)]] = .v (.tup [.str "told", prD (itP d n p k)]) := by
  rw [told_of gw rfl rfl]
  have : g_ring_power [.int d, .int n, prD p, .int (k : Int)] = .v (prD (itP d n p k)) := by
    unfold g_ring_power
    have e2 : cntB (.int (k : Int)) 0 10000000000000000 = true := by rw [cntB_int]; simp; omega
    simp only [dat_int, vp, and_self, if_true, m.rm hp, e2]
    show Rs.v (prD (powF d n (1 % n, 0) p (k : Int).toNat)) = _
    rw [pow_one, Int.toNat_natCast]
  rw [this]
  rfl
theorem told_back {d n : Int} {p : Int × Int} (m : DN d n) (hp : In n p) : g_law_told [.fn "ring_back", .tup [.int d, .int n, prD p]] = .v (.tup [.str "told", optP (backP d n p)]) := by
  rw [told_of gb rfl rfl]
  have : g_ring_back [.int d, .int n, prD p] = .v (optP (backP d n p)) := by
    unfold g_ring_back
    simp only [dat_int, vp, and_self, if_true, m.rm hp]
    rfl
  rw [this]
  show (if (optP (backP d n p)).flat = true then _ else _) = _
  rw [if_pos (by cases backP d n p <;> rfl)]
theorem told_memb {d n c : Int} (m : DN d n) (h0 : 0 ≤ c) (h1 : c < n) : g_law_told [.fn "members_of_norm", .tup [.int d, .int n, .int c]] = .v (.tup [.str "told", .tup ((memL d n c).map prD)]) := by
  rw [told_of gl rfl rfl]
  obtain ⟨a1, a2, a3⟩ := m.nn
  have : g_members_of_norm [.int d, .int n, .int c] = .v (.tup ((memL d n c).map prD)) := by
    unfold g_members_of_norm
    have e1 : cntB (.int n) 3 200 = true := by rw [cntB_int]; simp; omega
    have e2 : cntB (.int c) 0 (intOf (.int n) - 1) = true := by show cntB (.int c) 0 (n - 1) = true; rw [cntB_int]; simp; omega
    simp only [dat_int, and_self, if_true, ring_ok m.d1 m.d2 a1 a2 a3, e1, e2]
    rfl
  rw [this]
  show (if (D.tup _).flat = true then _ else _) = _
  rw [if_pos (show (D.tup _).flat = true from flats_map (fun _ => rfl) _)]
theorem told_ord {d n : Int} {p : Int × Int} (m : DN d n) (hp : In n p) : g_law_told [.fn "order_in_ring", .tup [.int d, .int n, prD p]] = (match backP d n p with
    | none => .v (.tup [.str "raised", .str "none"])
    | some _ => (match ordF d n p 3000 p 1 with
      | some k => .v (.tup [.str "told", .int k])
      | none => .b)) := by
  rw [told_of go rfl rfl]
  obtain ⟨a1, a2, a3⟩ := m.nn
  have : g_order_in_ring [.int d, .int n, prD p] = (match backP d n p with
    | none => .x (xR "none")
    | some _ => (match ordF d n p 3000 p 1 with
      | some k => .v (.int k)
      | none => .b)) := by
    unfold g_order_in_ring
    have e1 : cntB (.int n) 3 2000 = true := by rw [cntB_int]; simp; omega
    simp only [dat_int, vp, and_self, if_true, m.rm hp, e1]
    rfl
  rw [this]
  cases backP d n p with
  | none => rfl
  | some _ =>
    simp only
    generalize ordF d n p 3000 p 1 = o
    cases o <;> rfl
section
variable {t : Rt} {d n : Int} {p q r : Int × Int} {x0 x2 x3 x4 x5 x6 x7 x8 x9 x10 x11 x12 x13 x14 x15 x16 x17 x18 x19 x20 x21 : Option D}
/-- the lots -/
def lotF (st : Int × Int) (n : Int) : (Int × Int) × (Int × Int) := (((takeF st n).1, (takeF (takeF st n).2 n).1), (takeF (takeF st n).2 n).2)
theorem lot_in {st : Int × Int} {n : Int} (h : 0 < n) : In n (lotF st n).1 := ⟨(take_range h).1, (take_range h).2, (take_range h).1, (take_range h).2⟩
theorem lots_eq (H : HL t) (hn : 3 ≤ n) (hn2 : n ≤ 45) {st : Int × Int} {g : Hd} : den t c_law_5 (lw x0 x2 x3 x4 x5 x6 x7 x8 x9 x10 x11 x12 (some (.int n)) x14 x15 x16 x17 x18 x19 x20 x21) (stO st :: g) =
    .ok (.loc (g.length + 1)) (stO (lotF (lotF (lotF st n).2 n).2 n).2 :: (g ++ [.lst [prD (lotF st n).1, prD (lotF (lotF st n).2 n).1, prD (lotF (lotF (lotF st n).2 n).2 n).1]])) := by
  have kt := fun (st : Int × Int) (g : Hd) => k_take0 (st := st) (m := n) (g := g) (by omega) (by omega)
  have el : ∀ (st : Int × Int) (x17 : Option D), den t (.tup (.cons (.call "_law_take" 2 (.cons (.var 1) (.cons (.var 13) .nil))) (.cons (.call "_law_take" 2 (.cons (.var 1) (.cons (.var 13) .nil))) .nil))) (lw x0 x2 x3 x4 x5 x6 x7 x8 x9 x10 x11 x12 (some (.int n)) x14 x15 x16 x17 x18 x19 x20 x21) (stO st :: g) = .ok (prD (lotF st n).1) (stO (lotF st n).2 :: g) := fun st x17 => by
    simp [den, H.take.ar, H.take.orc, H.take.dfl, kt, szB_le, lotF]
  have it : ∀ σ h, den t (.itR (.cons (.int 3) .nil)) σ h = .ok (.tup [.tup [.int 0, .int 1, .int 2], .non]) h := fun σ h => by
    have r1 := rng1 (n := 3) (h := h) (by decide)
    simp only [den, R.bind_ok]
    exact r1
  have sz : (0 : Nat) < sizeLine ∧ (1 : Nat) < sizeLine ∧ (2 : Nat) < sizeLine := by rw [sizeLine_eq]; decide
  show ((den t (.itR (.cons (.int 3) .nil)) _ _).bind _) = _
  rw [it]
  simp only [R.bind_ok]
  generalize hE : (Ex.tup (.cons (.call "_law_take" 2 (.cons (.var 1) (.cons (.var 13) .nil))) (.cons (.call "_law_take" 2 (.cons (.var 1) (.cons (.var 13) .nil))) .nil))) = E at *
  simp only [lw] at el
  simp [lcLoop, wipeD, den, el, sz]
theorem part13 (H : HL t) (m : DN d n) (hp : In n p) (hq : In n q) (hr : In n r) {h : Hd} : denS t i_law_13 none (lw x0 x2 x3 x4 x5 x6 x7 x8 x9 x10 x11 (some (.int d)) (some (.int n)) (some (prD p)) (some (prD q)) (some (prD r)) x17 x18 x19 x20 x21) h = .nx (lw x0 x2 x3 x4 x5 x6 x7 x8 x9 x10 x11 (some (.int d)) (some (.int n)) (some (prD p)) (some (prD q)) (some (prD r)) x17 x18 x19 x20 x21) h := by
  have n0 : 0 < n := by have := m.nn; omega
  have k1 : ∀ h, callD (pureF g_product_by) [.int d, .int n, prD p, prD q] h = .ok (prD (mulP d n p q)) h := fun h => k_times m hp hq
  have k2 : ∀ h, callD (pureF g_law_tells) [.fn "ring_product", .tup [.int d, .int n, prD p, prD q], prD (mulP d n p q)] h = .ok (.bl true) h := fun h => k_law_tells rfl (told_prod m hp hq) (by simp [sameOK])
  have v1 : ∀ h, callD (pureF g_law_value) [.fn "ring_product", .tup [.int d, .int n, prD p, prD q]] h = .ok (prD (mulP d n p q)) h := fun h => k_law_value rfl (told_prod m hp hq)
  have v2 : ∀ h, callD (pureF g_law_value) [.fn "ring_product", .tup [.int d, .int n, prD q, prD r]] h = .ok (prD (mulP d n q r)) h := fun h => k_law_value rfl (told_prod m hq hr)
  have v3 : ∀ h, callD (pureF g_law_value) [.fn "ring_product", .tup [.int d, .int n, prD (mulP d n p q), prD r]] h = .ok (prD (mulP d n (mulP d n p q) r)) h := fun h => k_law_value rfl (told_prod m (In.mul n0 _ _) hr)
  have v4 : ∀ h, callD (pureF g_law_value) [.fn "ring_product", .tup [.int d, .int n, prD p, prD (mulP d n q r)]] h = .ok (prD (mulP d n (mulP d n p q) r)) h := fun h => by rw [mul_assoc']; exact k_law_value rfl (told_prod m hp (In.mul n0 _ _))
  have ne : ∀ (x : Int × Int) h, cmpD .NotEq (prD x) (prD x) h = .ok (.bl false) h := fun x h => by rw [cmpNe_pp]; simp
  have ne' := ne (mulP d n (mulP d n p q) r)
  have g1 := H.glob _ _ _ gp
  generalize prD (mulP d n (mulP d n p q) r) = PQR at *
  generalize prD (mulP d n p q) = PQ at *
  generalize prD (mulP d n q r) = QR at *
  generalize prD p = P at *
  generalize prD q = Q at *
  generalize prD r = R' at *
  simp [i_law_13, denS, den, H.tells.ar, H.tells.orc, H.tells.dfl, H.times.ar, H.times.orc, H.times.dfl, H.value.ar, H.value.orc, H.value.dfl, g1, k1, k2, v1, v2, v3, v4, ne', szB_le]
theorem part12' (H : HL t) (m : DN d n) (hp : In n p) (hq : In n q) {h : Hd} : denS t i_law_12 none (lw x0 x2 x3 (some (.int (normP d n p))) (some (.int (normP d n q))) x6 x7 x8 x9 x10 x11 (some (.int d)) (some (.int n)) (some (prD p)) (some (prD q)) x16 x17 x18 x19 x20 x21) h = .nx (lw x0 x2 x3 (some (.int (normP d n p))) (some (.int (normP d n q))) x6 x7 x8 x9 x10 x11 (some (.int d)) (some (.int n)) (some (prD p)) (some (prD q)) x16 x17 x18 x19 x20 x21) h := by
  have n0 : 0 < n := by have := m.nn; omega
  have nn := m.nn
  have k1 : ∀ h, callD (pureF g_product_by) [.int d, .int n, prD p, prD q] h = .ok (prD (mulP d n p q)) h := fun h => k_times m hp hq
  have k2 : ∀ h, callD (pureF g_law_tells) [.fn "ring_norm", .tup [.int d, .int n, prD p], .int (normP d n p)] h = .ok (.bl true) h := fun h => k_law_tells rfl (told_norm m hp) (by simp [sameOK])
  have k3 : ∀ h, callD (pureF g_law_tells) [.fn "ring_norm", .tup [.int d, .int n, prD (mulP d n p q)], .int (normP d n p * normP d n q % n)] h = .ok (.bl true) h := fun h => by
    rw [← norm_mul]
    exact k_law_tells rfl (told_norm m (In.mul n0 _ _)) (by simp [sameOK])
  have g1 := H.glob _ _ _ gn
  have q1 : ∀ x h, binD .Mod (.int x) (.int n) h = .ok (.int (x % n)) h := fun x h => bin_mod n0
  have sn : S63 (normP d n p) := by
    have a1 := Int.emod_nonneg (p.1 * p.1 - d * p.2 * p.2) (Int.ne_of_gt n0)
    have a2 := Int.emod_lt_of_pos (p.1 * p.1 - d * p.2 * p.2) n0
    exact ⟨by show _ < _ % n; omega, by show _ % n < _; omega⟩
  have q2 := fun x h => S63_mul sn x h
  generalize normP d n p = NP at *
  generalize normP d n q = NQ at *
  generalize prD (mulP d n p q) = PQ at *
  generalize prD p = P at *
  generalize prD q = Q at *
  simp [i_law_12, denS, den, H.tells.ar, H.tells.orc, H.tells.dfl, H.times.ar, H.times.orc, H.times.dfl, g1, k1, k2, k3, q1, q2, szB_le]
theorem it_in {d n : Int} {p : Int × Int} (h : 1 < n) : ∀ k, In n (itP d n p k)
  | 0 => by
    show In n (1 % n, 0)
    rw [Int.emod_eq_of_lt (by decide) h]
    refine ⟨?_, ?_, ?_, ?_⟩ <;> (simp only; omega)
  | k + 1 => In.mul (by omega) _ _
/-- own, turn by turn -/
theorem loop11 (H : HL t) (m : DN d n) (hp : In n p) {all : List D} : ∀ (k j : Nat) (lo : Int) (x6 : Option D) (h : Hd), ∃ c6,
    forD (.n 6) (denS t b_law_4 none) .non all (rngD lo k) (lw x0 x2 x3 x4 x5 x6 x7 x8 x9 x10 x11 (some (.int d)) (some (.int n)) (some (prD p)) x15 x16 x17 (some (prD (itP d n p j))) x19 x20 x21) h = .nx (lw x0 x2 x3 x4 x5 c6 x7 x8 x9 x10 x11 (some (.int d)) (some (.int n)) (some (prD p)) x15 x16 x17 (some (prD (itP d n p (j + k)))) x19 x20 x21) h
  | 0, j, lo, x6, h => ⟨x6, by rw [show rngD lo 0 = [] from rfl, forD_nil]; rfl⟩
  | k + 1, j, lo, x6, h => by
    obtain ⟨c6, z⟩ := loop11 H m hp (all := all) k (j + 1) (lo + 1) (some (.int lo)) h
    refine ⟨c6, ?_⟩
    have k1 : ∀ h, callD (pureF g_product_by) [.int d, .int n, prD (itP d n p j), prD p] h = .ok (prD (itP d n p (j + 1))) h := fun h => k_times m (it_in (by have := m.nn; omega) j) hp
    rw [rngD_cons, forD_cons]
    simp only [bindT_n, lw, List.set_cons_succ, List.set_cons_zero]
    have body : denS t b_law_4 none (lw x0 x2 x3 x4 x5 (some (.int lo)) x7 x8 x9 x10 x11 (some (.int d)) (some (.int n)) (some (prD p)) x15 x16 x17 (some (prD (itP d n p j))) x19 x20 x21) h = .nx (lw x0 x2 x3 x4 x5 (some (.int lo)) x7 x8 x9 x10 x11 (some (.int d)) (some (.int n)) (some (prD p)) x15 x16 x17 (some (prD (itP d n p (j + 1)))) x19 x20 x21) h := by
      generalize prD (itP d n p (j + 1)) = A at *
      generalize prD (itP d n p j) = B at *
      generalize prD p = P at *
      simp [b_law_4, denS, den, H.times.ar, H.times.orc, H.times.dfl, k1]
    simp only [lw] at body z
    rw [body]
    simp only
    rw [z, show j + 1 + k = j + (k + 1) by omega]
theorem part10' (H : HL t) (m : DN d n) (hp : In n p) {k : Nat} (hk : k ≤ 1000) {h : Hd} : denS t i_law_10 none (lw x0 x2 x3 x4 x5 x6 x7 x8 x9 x10 x11 (some (.int d)) (some (.int n)) (some (prD p)) x15 x16 (some (.int (k : Int))) (some (prD (itP d n p k))) x19 x20 x21) h = .nx (lw x0 x2 x3 x4 x5 x6 x7 x8 x9 x10 x11 (some (.int d)) (some (.int n)) (some (prD p)) x15 x16 (some (.int (k : Int))) (some (prD (itP d n p k))) x19 x20 x21) h := by
  have n1 : 1 < n := by have := m.nn; omega
  have k1 : ∀ h, callD (pureF g_law_tells) [.fn "ring_power", .tup [.int d, .int n, prD p, .int (k : Int)], prD (itP d n p k)] h = .ok (.bl true) h := fun h => k_law_tells rfl (told_pow m hp (by omega)) (by simp [sameOK])
  have v1 : ∀ h, callD (pureF g_law_value) [.fn "ring_power", .tup [.int d, .int n, prD p, .int (10000000000 + (k : Int))]] h = .ok (prD (itP d n p (10000000000 + k))) h := fun h => by
    have := k_law_value (x := "ring_power") (as := [.int d, .int n, prD p, .int ((10000000000 + k : Nat) : Int)]) (h := h) rfl (told_pow m hp (by omega))
    rw [show (((10000000000 + k : Nat)) : Int) = 10000000000 + (k : Int) by omega] at this
    exact this
  have v2 : ∀ h, callD (pureF g_law_value) [.fn "ring_power", .tup [.int d, .int n, prD p, .int 10000000000]] h = .ok (prD (itP d n p 10000000000)) h := fun h => k_law_value (x := "ring_power") (as := [.int d, .int n, prD p, .int ((10000000000 : Nat) : Int)]) (h := h) rfl (told_pow m hp (by omega))
  have v3 : ∀ h, callD (pureF g_product_by) [.int d, .int n, prD (itP d n p 10000000000), prD (itP d n p k)] h = .ok (prD (itP d n p (10000000000 + k))) h := fun h => by
    rw [it_add]
    exact k_times m (it_in n1 _) (it_in n1 _)
  have ne : ∀ (x : Int × Int) h, cmpD .NotEq (prD x) (prD x) h = .ok (.bl false) h := fun x h => by rw [cmpNe_pp]; simp
  have ne' := ne (itP d n p (10000000000 + k))
  have g1 := H.glob _ _ _ gw
  generalize prD (itP d n p (10000000000 + k)) = A at *
  generalize prD (itP d n p 10000000000) = B at *
  generalize prD (itP d n p k) = C at *
  generalize prD p = P at *
  simp [i_law_10, denS, den, H.tells.ar, H.tells.orc, H.tells.dfl, H.times.ar, H.times.orc, H.times.dfl, H.value.ar, H.value.orc, H.value.dfl, g1, k1, v1, v2, v3, ne', szB_le]
end
end K42

namespace Ev
open PySem PySem.Spec PyProof.Rows L2
theorem add_ll2 {k l : Nat} {h : Hd} {a b : List D} (e1 : h[k]? = some (.lst a)) (e2 : h[l]? = some (.lst b)) (z : a.length + b.length ≤ 1000000) : binD .Add (.loc k) (.loc l) h = .ok (.loc h.length) (h ++ [.lst (a ++ b)]) := by
  unfold binD
  simp only [e1, e2]
  rw [if_pos (show szB _ = true from decide_eq_true (Nat.le_trans z (by rw [sizeLine_eq]; decide)))]
end Ev
namespace K42
open PySem PySem.Spec PyProof.Rows L2 Ev
section
variable {t : Rt} {d n : Int} {p q r : Int × Int} {x0 x2 x3 x4 x5 x6 x7 x8 x9 x10 x11 x12 x13 x14 x15 x16 x17 x18 x19 x20 x21 : Option D}
def unitB (d n : Int) (p : Int × Int) : Bool := decide (0 < normP d n p) && (comF (normP d n p) n == 1)
theorem back_unit (m : DN d n) : (backP d n p).isSome = unitB d n p := by
  have n0 : 0 < n := by have := m.nn; omega
  have n3 := m.nn.1
  have a1 := Int.emod_nonneg (p.1 * p.1 - d * p.2 * p.2) (Int.ne_of_gt n0)
  have a2 := Int.emod_lt_of_pos (p.1 * p.1 - d * p.2 * p.2) n0
  have e : normP d n p % n = normP d n p := Int.emod_eq_of_lt a1 a2
  have iff := back_iff (a := normP d n p) n0
  rw [e] at iff
  unfold backP unitB
  rw [Option.isSome_map]
  by_cases c : comF (normP d n p) n = 1
  · obtain ⟨k, ek⟩ := iff.mpr c
    rw [ek, c]
    have : 0 < normP d n p := by
      rcases Int.lt_or_eq_of_le (show 0 ≤ normP d n p from a1) with z | z
      · exact z
      · rw [← z, com_zero n0] at c
        omega
    simp [this]
  · cases ek : backF (normP d n p) n with
    | some k => exact absurd (iff.mp ⟨k, ek⟩) c
    | none =>
      have : (comF (normP d n p) n == 1) = false := beq_eq_false_iff_ne.mpr c
      rw [this]
      simp
theorem part9 (H : HL t) (m : DN d n) (hp : In n p) {h : Hd} : denS t i_law_9 none (lw x0 x2 x3 x4 x5 x6 (some (.bl (unitB d n p))) (some (optP (backP d n p))) x9 x10 x11 (some (.int d)) (some (.int n)) (some (prD p)) x15 x16 x17 x18 x19 x20 x21) h = .nx (lw x0 x2 x3 x4 x5 x6 (some (.bl (unitB d n p))) (some (optP (backP d n p))) x9 x10 x11 (some (.int d)) (some (.int n)) (some (prD p)) x15 x16 x17 x18 x19 x20 x21) h := by
  have n1 : 1 < n := by have := m.nn; omega
  rw [← back_unit m]
  cases e : backP d n p with
  | none =>
    have ne : ∀ h, cmpD .NotEq (.bl false) (.bl false) h = .ok (.bl false) h := fun h => cmp_NotEq eqD_bb
    simp [i_law_9, denS, den, optP, ne]
  | some b =>
    have ne : ∀ h, cmpD .NotEq (.bl true) (.bl true) h = .ok (.bl false) h := fun h => cmp_NotEq eqD_bb
    have bi : In n b := by
      unfold backP at e
      obtain ⟨k, _, rfl⟩ := Option.map_eq_some_iff.mp e
      exact ⟨Int.emod_nonneg _ (by omega), Int.emod_lt_of_pos _ (by omega), Int.emod_nonneg _ (by omega), Int.emod_lt_of_pos _ (by omega)⟩
    have k1 : ∀ h, callD (pureF g_product_by) [.int d, .int n, prD p, prD b] h = .ok (.tup [.int 1, .int 0]) h := fun h => by
      rw [k_times m hp bi, back_prod n1 e]
    generalize prD p = P at *
    generalize hB : prD b = B at *
    have eo : optP (some b) = B := hB
    have en : Ev.isNon B = false := by rw [← hB]; rfl
    simp [i_law_9, denS, den, eo, en, ne, H.times.ar, H.times.orc, H.times.dfl, k1, szB_le]
/-! ### orders -/
theorem loop6b {all : List D} {h : Hd} {ro : Int} (hr : ro ≠ 0) {o : D} : ∀ (k : Nat) (lo : Int) (x19 : Option D), (∀ h, ∃ b, cmpD .Eq o (.tup [.int 1, .int 0]) h = .ok (.bl b) h) → ∃ c19,
    forD (.n 19) (denS t b_law_3 none) .non all (rngD lo k) (lw x0 x2 x3 x4 x5 x6 x7 x8 x9 x10 x11 x12 x13 x14 x15 x16 x17 (some o) x19 (some (.int ro)) x21) h = .nx (lw x0 x2 x3 x4 x5 x6 x7 x8 x9 x10 x11 x12 x13 x14 x15 x16 x17 (some o) c19 (some (.int ro)) x21) h
  | 0, lo, x19, _ => ⟨x19, by rw [show rngD lo 0 = [] from rfl, forD_nil]⟩
  | k + 1, lo, x19, ho => by
    obtain ⟨c19, z⟩ := loop6b hr (all := all) (o := o) k (lo + 1) (some (.int lo)) ho
    refine ⟨c19, ?_⟩
    obtain ⟨b, hb⟩ := ho h
    have rb : (ro == 0) = false := beq_eq_false_iff_ne.mpr hr
    rw [rngD_cons, forD_cons]
    simp only [bindT_n, lw, List.set_cons_succ, List.set_cons_zero]
    have body : denS t b_law_3 none (lw x0 x2 x3 x4 x5 x6 x7 x8 x9 x10 x11 x12 x13 x14 x15 x16 x17 (some o) (some (.int lo)) (some (.int ro)) x21) h = .nx (lw x0 x2 x3 x4 x5 x6 x7 x8 x9 x10 x11 x12 x13 x14 x15 x16 x17 (some o) (some (.int lo)) (some (.int ro)) x21) h := by
      cases b <;> simp [b_law_3, i_law_5, denS, den, hb, rb, szB_le]
    simp only [lw] at body z
    rw [body]
    exact z
theorem loop6 (H : HL t) (m : DN d n) (hp : In n p) {all : List D} {h : Hd} : ∀ (k : Nat) (lo : Int) (o : Int × Int) (x19 : Option D), 1 ≤ lo → In n o → ∃ c18 c19,
    forD (.n 19) (denS t b_law_3 none) .non all (rngD lo k) (lw x0 x2 x3 x4 x5 x6 x7 x8 x9 x10 x11 (some (.int d)) (some (.int n)) (some (prD p)) x15 x16 x17 (some (prD o)) x19 (some (.int 0)) x21) h =
      .nx (lw x0 x2 x3 x4 x5 x6 x7 x8 x9 x10 x11 (some (.int d)) (some (.int n)) (some (prD p)) x15 x16 x17 c18 c19 (some (.int ((ordF d n p k o lo).getD 0))) x21) h
  | 0, lo, o, x19, _, _ => ⟨_, x19, by rw [show rngD lo 0 = [] from rfl, forD_nil]; rfl⟩
  | k + 1, lo, o, x19, hlo, ho => by
    have n1 : 1 < n := by have := m.nn; omega
    have one1 : (1 : Int) % n = 1 := Int.emod_eq_of_lt (by decide) n1
    rw [rngD_cons, forD_cons]
    simp only [bindT_n, lw, List.set_cons_succ, List.set_cons_zero]
    unfold ordF
    rw [one1]
    by_cases c : o = (1, 0)
    · rw [if_pos c]
      subst c
      have hr : lo ≠ 0 := by omega
      have rb : (lo == 0) = false := beq_eq_false_iff_ne.mpr hr
      have ce : ∀ h, cmpD .Eq (.tup [.int 1, .int 0]) (.tup [.int 1, .int 0]) h = .ok (.bl true) h := fun h => by rw [cmpEq_pp]; rfl
      obtain ⟨c19, z⟩ := loop6b (t := t) (x0 := x0) (x2 := x2) (x3 := x3) (x4 := x4) (x5 := x5) (x6 := x6) (x7 := x7) (x8 := x8) (x9 := x9) (x10 := x10) (x11 := x11) (x12 := some (.int d)) (x13 := some (.int n)) (x14 := some (prD p)) (x15 := x15) (x16 := x16) (x17 := x17) (x21 := x21) (h := h) hr (all := all) (o := prD (1, 0)) k (lo + 1) (some (.int lo)) (fun h => ⟨true, ce h⟩)
      refine ⟨some (prD (1, 0)), c19, ?_⟩
      have body : denS t b_law_3 none (lw x0 x2 x3 x4 x5 x6 x7 x8 x9 x10 x11 (some (.int d)) (some (.int n)) (some (prD p)) x15 x16 x17 (some (prD (1, 0))) (some (.int lo)) (some (.int 0)) x21) h = .nx (lw x0 x2 x3 x4 x5 x6 x7 x8 x9 x10 x11 (some (.int d)) (some (.int n)) (some (prD p)) x15 x16 x17 (some (prD (1, 0))) (some (.int lo)) (some (.int lo)) x21) h := by
        simp [b_law_3, i_law_5, denS, den, ce, rb, szB_le]
      simp only [lw] at body z
      rw [body]
      exact z
    · rw [if_neg c]
      have cb : ∀ h, cmpD .Eq (prD o) (.tup [.int 1, .int 0]) h = .ok (.bl false) h := fun h => by
        rw [cmpEq_pp]
        congr 2
        cases q : (o.1 == 1 && o.2 == 0) with
        | false => rfl
        | true =>
          simp only [Bool.and_eq_true, beq_iff_eq] at q
          exact absurd (Prod.ext q.1 q.2) c
      have k1 : ∀ h, callD (pureF g_product_by) [.int d, .int n, prD o, prD p] h = .ok (prD (mulP d n o p)) h := fun h => k_times m ho hp
      obtain ⟨c18, c19, z⟩ := loop6 H m hp (all := all) (h := h) k (lo + 1) (mulP d n o p) (some (.int lo)) (by omega) (In.mul (by omega) _ _)
      refine ⟨c18, c19, ?_⟩
      have body : denS t b_law_3 none (lw x0 x2 x3 x4 x5 x6 x7 x8 x9 x10 x11 (some (.int d)) (some (.int n)) (some (prD p)) x15 x16 x17 (some (prD o)) (some (.int lo)) (some (.int 0)) x21) h = .nx (lw x0 x2 x3 x4 x5 x6 x7 x8 x9 x10 x11 (some (.int d)) (some (.int n)) (some (prD p)) x15 x16 x17 (some (prD (mulP d n o p))) (some (.int lo)) (some (.int 0)) x21) h := by
        generalize prD (mulP d n o p) = OP at *
        generalize prD o = O at *
        generalize prD p = P at *
        simp [b_law_3, i_law_5, denS, den, cb, szB_le, H.times.ar, H.times.orc, H.times.dfl, k1]
      simp only [lw] at body z
      rw [body]
      exact z
theorem ord_up {f : Nat} : ∀ {k : Nat} {o : Int × Int} {lo v : Int}, ordF d n p k o lo = some v → k ≤ f → ordF d n p f o lo = some v := by
  induction f with
  | zero =>
    intro k o lo v e hk
    have : k = 0 := by omega
    subst this
    exact e
  | succ f ih =>
    intro k o lo v e hk
    cases k with
    | zero => cases e
    | succ k =>
      unfold ordF at e ⊢
      split
      · rename_i c
        rw [if_pos c] at e
        exact e
      · rename_i c
        rw [if_neg c] at e
        exact ih e (by omega)
theorem ord_pos : ∀ {k : Nat} {o : Int × Int} {lo v : Int}, 1 ≤ lo → ordF d n p k o lo = some v → 1 ≤ v
  | 0, o, lo, v, _, e => nomatch e
  | k + 1, o, lo, v, hl, e => by
    unfold ordF at e
    split at e
    · cases e; exact hl
    · exact ord_pos (by omega) e
theorem ord_it {t : Rt} {σ : En} {h : Hd} : den t (.itR (.cons (.int 1) (.cons (.int 2100) .nil))) σ h = .ok (.tup [.tup (rngD 1 2099), .non]) h := by
  have r := rng2 (a := 1) (b := 2100) (h := h) (by decide)
  have e : (2100 - 1 : Int).toNat = 2099 := by decide
  rw [e] at r
  simp only [den, R.bind_ok]
  exact r
theorem part8 (H : HL t) (m : DN d n) (hp : In n p) {h : Hd} : ∃ c18 c19 c20, denS t i_law_8 none (lw x0 x2 x3 x4 x5 x6 (some (.bl (unitB d n p))) x8 x9 x10 x11 (some (.int d)) (some (.int n)) (some (prD p)) x15 x16 x17 x18 x19 x20 x21) h = .nx (lw x0 x2 x3 x4 x5 x6 (some (.bl (unitB d n p))) x8 x9 x10 x11 (some (.int d)) (some (.int n)) (some (prD p)) x15 x16 x17 c18 c19 c20 x21) h := by
  have G := H.glob _ _ _ go
  have told := told_ord m hp
  rw [← back_unit m]
  cases e : backP d n p with
  | none =>
    rw [e] at told
    have k1 : ∀ h, callD (pureF g_law_raises) [.fn "order_in_ring", .tup [.int d, .int n, prD p], .str "none"] h = .ok (.bl true) h := fun h => k_law_raises rfl told (.inr rfl)
    generalize prD p = P at *
    exact ⟨x18, x19, x20, by simp [i_law_8, i_law_7, denS, den, G, H.raises.ar, H.raises.orc, H.raises.dfl, k1, szB_le]⟩
  | some b =>
    rw [e] at told
    simp only at told
    obtain ⟨c18, c19, z⟩ := loop6 (t := t) (x0 := x0) (x2 := x2) (x3 := x3) (x4 := x4) (x5 := x5) (x6 := x6) (x7 := some (.bl true)) (x8 := x8) (x9 := x9) (x10 := x10) (x11 := x11) (x15 := x15) (x16 := x16) (x17 := x17) (x21 := x21) (h := h) H m hp (all := rngD 1 2099) 2099 1 p x19 (by decide) hp
    generalize ho : (ordF d n p 2099 p 1).getD 0 = ro at *
    have fo : denS t f_law_6 none (lw x0 x2 x3 x4 x5 x6 (some (.bl true)) x8 x9 x10 x11 (some (.int d)) (some (.int n)) (some (prD p)) x15 x16 x17 (some (prD p)) x19 (some (.int 0)) x21) h = .nx (lw x0 x2 x3 x4 x5 x6 (some (.bl true)) x8 x9 x10 x11 (some (.int d)) (some (.int n)) (some (prD p)) x15 x16 x17 c18 c19 (some (.int ro)) x21) h := by
      show ((den t (.itR (.cons (.int 1) (.cons (.int 2100) .nil))) _ h).thn _ _) = _
      rw [ord_it]
      exact z
    refine ⟨c18, c19, some (.int ro), ?_⟩
    have i4 : denS t i_law_4 none (lw x0 x2 x3 x4 x5 x6 (some (.bl true)) x8 x9 x10 x11 (some (.int d)) (some (.int n)) (some (prD p)) x15 x16 x17 c18 c19 (some (.int ro)) x21) h = .nx (lw x0 x2 x3 x4 x5 x6 (some (.bl true)) x8 x9 x10 x11 (some (.int d)) (some (.int n)) (some (prD p)) x15 x16 x17 c18 c19 (some (.int ro)) x21) h := by
      cases eo : ordF d n p 2099 p 1 with
      | none =>
        rw [eo] at ho
        have ho : ro = 0 := ho.symm
        subst ho
        simp [i_law_4, denS, den]
      | some v =>
        rw [eo] at ho
        have ho : v = ro := ho
        subst ho
        have vp' := ord_pos (d := d) (n := n) (p := p) (show (1 : Int) ≤ 1 by decide) eo
        have e3 := ord_up (f := 3000) eo (by decide)
        rw [e3] at told
        simp only at told
        have k1 : ∀ h, callD (pureF g_law_tells) [.fn "order_in_ring", .tup [.int d, .int n, prD p], .int v] h = .ok (.bl true) h := fun h => k_law_tells rfl told (by simp [sameOK])
        generalize prD p = P at *
        have vpos : 0 < v := by omega
        simp [i_law_4, denS, den, vpos, G, H.tells.ar, H.tells.orc, H.tells.dfl, k1, szB_le]
    have ew : i_law_8 = .ife (.var 7) (.seq (.asg (.t (.cons (.n 18) (.cons (.n 20) .nil))) (.tup (.cons (.var 14) (.cons (.int 0) .nil)))) (.seq f_law_6 (.seq i_law_4 .nil))) (.seq i_law_7 .nil) := rfl
    rw [ew]
    simp only [lw] at fo i4 ⊢
    generalize prD p = P at *
    simp [denS, den, szB_le, fo, i4]
end
end K42

namespace K42
open PySem PySem.Spec PyProof.Rows L2 Ev
section
variable {t : Rt} {d n : Int} {p q r : Int × Int} {x0 x2 x3 x4 x5 x6 x7 x8 x9 x10 x11 x12 x13 x14 x15 x16 x17 x18 x19 x20 x21 : Option D}
def rowL (d n c : Int) (u : Nat) : List D := ((List.range n.toNat).filter (okV d n c u)).map fun (v : Nat) => prD ((u : Int), (v : Int))
theorem row_lc (m : DN d n) {c : Int} (hc : S63 c) {u : Nat} (hu : u < n.toNat) {h : Hd} : den t c_law_1 (lw x0 x2 x3 x4 x5 x6 x7 x8 (some (.int c)) x10 (some (.int (u : Int))) (some (.int d)) (some (.int n)) x14 x15 x16 x17 x18 x19 x20 x21) h = .ok (.loc h.length) (h ++ [.lst (rowL d n c u)]) := by
  have n0 : 0 < n := by have := m.nn; omega
  have nn := m.nn
  have q1 : ∀ x h, binD .Mod (.int x) (.int n) h = .ok (.int (x % n)) h := fun x h => bin_mod n0
  have sm : small62 n = true := by unfold small62; simp; omega
  have zu : S63 (u : Int) := ⟨by omega, by omega⟩
  have it : den t (.itR (.cons (.var 13) .nil)) (lw x0 x2 x3 x4 x5 x6 x7 x8 (some (.int c)) x10 (some (.int (u : Int))) (some (.int d)) (some (.int n)) x14 x15 x16 x17 x18 x19 x20 x21) h = .ok (.tup [.tup (rngD 0 n.toNat), .non]) h := by
    have r1 := fun h => rng1 (n := n) (h := h) sm
    simp [den, r1]
  have lc := den_lc_tup (t := t) (vs := [21]) (tg := .n 21) (it := .itR (.cons (.var 13) .nil)) (cond := .cmp .Eq (.bin .Mod (.bi .int (.cons (.bin .Sub (.bin .Sub (.bin .Mult (.var 11) (.var 11)) (.bin .Mult (.bin .Mult (.var 12) (.var 21)) (.var 21))) (.var 9)) .nil)) (.var 13)) (.int 0)) (elt := .tup (.cons (.var 11) (.cons (.var 21) .nil)))
    (σ := lw x0 x2 x3 x4 x5 x6 x7 x8 (some (.int c)) x10 (some (.int (u : Int))) (some (.int d)) (some (.int n)) x14 x15 x16 x17 x18 x19 x20 x21) (h := h) (ds := rngD 0 n.toNat) (p := fun d' => okV d n c u (intOf d').toNat) (f := fun d' => prD ((u : Int), ((intOf d').toNat : Int))) it (fun d' hd' => by
      obtain ⟨v, hv, rfl⟩ := List.mem_map.mp hd'
      have hv := List.mem_range.mp hv
      have zv : S63 (v : Int) := ⟨by omega, by omega⟩
      refine ⟨lw x0 x2 x3 x4 x5 x6 x7 x8 (some (.int c)) x10 (some (.int (u : Int))) (some (.int d)) (some (.int n)) x14 x15 x16 x17 x18 x19 x20 (some (.int (0 + (v : Int)))), rfl, ?_, fun _ => ?_⟩
      · simp [den, q1, S63_mul zu, S63_mul m.sd, S63_mulr zv, intOf, okV]
      · simp [den, szB_le, intOf]) (by rw [rng_len]; omega)
  show den t (.lc _ _ _ _ _) _ h = _
  rw [lc]
  have e : ((rngD 0 n.toNat).filter fun d' => okV d n c u (intOf d').toNat).map (fun d' => prD ((u : Int), ((intOf d').toNat : Int))) = rowL d n c u := by
    unfold rowL rngD
    rw [List.filter_map, List.map_map]
    have e1 : ((fun d' => okV d n c u (intOf d').toNat) ∘ fun (i : Nat) => D.int (0 + (i : Int))) = okV d n c u := by
      funext v
      simp [intOf]
    rw [e1]
    exact List.map_congr_left fun v _ => by simp [intOf]
  rw [e]
theorem row_len {d n c : Int} {u : Nat} : (rowL d n c u).length ≤ n.toNat := by
  unfold rowL
  rw [List.length_map]
  exact Nat.le_trans (List.length_filter_le _ _) (by simp)
theorem loop3' (m : DN d n) {c : Int} (hc : S63 c) {all : List D} : ∀ (k u0 : Nat) (acc : List D) (L : Nat) (x11 : Option D) (h : Hd), u0 + k ≤ n.toNat → acc.length ≤ u0 * 50 → h[L]? = some (.lst acc) → ∃ c11 L' g,
    forD (.n 11) (denS t b_law_2 none) .non all (rngD (u0 : Int) k) (lw x0 x2 x3 x4 x5 x6 x7 x8 (some (.int c)) (some (.loc L)) x11 (some (.int d)) (some (.int n)) x14 x15 x16 x17 x18 x19 x20 x21) h =
      .nx (lw x0 x2 x3 x4 x5 x6 x7 x8 (some (.int c)) (some (.loc L')) c11 (some (.int d)) (some (.int n)) x14 x15 x16 x17 x18 x19 x20 x21) (h ++ g) ∧ (h ++ g)[L']? = some (.lst (acc ++ (List.range' u0 k).flatMap (rowL d n c)))
  | 0, u0, acc, L, x11, h, _, _, e => ⟨x11, L, [], by rw [show rngD (u0 : Int) 0 = [] from rfl, forD_nil, List.append_nil], by simpa using e⟩
  | k + 1, u0, acc, L, x11, h, hk, ha, e => by
    have n45 := m.nn
    have rl := row_len (d := d) (n := n) (c := c) (u := u0)
    have lc := fun h => row_lc (t := t) (x0 := x0) (x2 := x2) (x3 := x3) (x4 := x4) (x5 := x5) (x6 := x6) (x7 := x7) (x8 := x8) (x10 := some (.loc L)) (x14 := x14) (x15 := x15) (x16 := x16) (x17 := x17) (x18 := x18) (x19 := x19) (x20 := x20) (x21 := x21) m hc (u := u0) (by omega) (h := h)
    have ad := add_ll2 (h := h ++ [.lst (rowL d n c u0)]) (get_app e) (fro_get (h := h)) (by omega)
    have body : denS t b_law_2 none (lw x0 x2 x3 x4 x5 x6 x7 x8 (some (.int c)) (some (.loc L)) (some (.int (u0 : Int))) (some (.int d)) (some (.int n)) x14 x15 x16 x17 x18 x19 x20 x21) h = .nx (lw x0 x2 x3 x4 x5 x6 x7 x8 (some (.int c)) (some (.loc (h ++ [O.lst (rowL d n c u0)]).length)) (some (.int (u0 : Int))) (some (.int d)) (some (.int n)) x14 x15 x16 x17 x18 x19 x20 x21) ((h ++ [.lst (rowL d n c u0)]) ++ [.lst (acc ++ rowL d n c u0)]) := by
      have lc' := lc h
      generalize h ++ [O.lst (rowL d n c u0)] = h1 at *
      generalize h1 ++ [O.lst (acc ++ rowL d n c u0)] = h2 at *
      generalize h.length = l0 at *
      generalize h1.length = l1 at *
      simp only [lw] at lc' ⊢
      simp [b_law_2, denS, den, lc', ad]
    obtain ⟨c11, L', g, z, z2⟩ := loop3' m hc (all := all) k (u0 + 1) (acc ++ rowL d n c u0) (h ++ [O.lst (rowL d n c u0)]).length (some (.int (u0 : Int))) ((h ++ [.lst (rowL d n c u0)]) ++ [.lst (acc ++ rowL d n c u0)]) (by omega) (by rw [List.length_append]; omega) fro_get
    refine ⟨c11, L', [.lst (rowL d n c u0)] ++ ([.lst (acc ++ rowL d n c u0)] ++ g), ?_, ?_⟩
    · rw [rngD_cons, forD_cons]
      simp only [bindT_n, lw, List.set_cons_succ, List.set_cons_zero]
      simp only [lw] at body z
      rw [body]
      simp only
      have e1 : ((u0 : Int) + 1) = ((u0 + 1 : Nat) : Int) := by omega
      rw [e1, z]
      simp only [List.append_assoc]
    · rw [← List.append_assoc, ← List.append_assoc, z2, List.range'_succ, List.flatMap_cons, List.append_assoc]
theorem mem_rows {d n c : Int} : (List.range' 0 n.toNat).flatMap (rowL d n c) = (memL d n c).map prD := by
  unfold memL rowL
  rw [List.map_flatMap, List.range_eq_range']
  congr 1
  funext u
  rw [List.map_map]
  rfl
theorem part3' (m : DN d n) {c : Int} (hc : S63 c) {L : Nat} {h : Hd} (e : h[L]? = some (.lst [])) : ∃ c11 L' g,
    denS t f_law_3 none (lw x0 x2 x3 x4 x5 x6 x7 x8 (some (.int c)) (some (.loc L)) x11 (some (.int d)) (some (.int n)) x14 x15 x16 x17 x18 x19 x20 x21) h =
      .nx (lw x0 x2 x3 x4 x5 x6 x7 x8 (some (.int c)) (some (.loc L')) c11 (some (.int d)) (some (.int n)) x14 x15 x16 x17 x18 x19 x20 x21) (h ++ g) ∧ (h ++ g)[L']? = some (.lst ((memL d n c).map prD)) := by
  have nn := m.nn
  have sm : small62 n = true := by unfold small62; simp; omega
  have it : den t (.itR (.cons (.var 13) .nil)) (lw x0 x2 x3 x4 x5 x6 x7 x8 (some (.int c)) (some (.loc L)) x11 (some (.int d)) (some (.int n)) x14 x15 x16 x17 x18 x19 x20 x21) h = .ok (.tup [.tup (rngD 0 n.toNat), .non]) h := by
    have r1 := fun h => rng1 (n := n) (h := h) sm
    simp [den, r1]
  obtain ⟨c11, L', g, z, z2⟩ := loop3' (t := t) (x0 := x0) (x2 := x2) (x3 := x3) (x4 := x4) (x5 := x5) (x6 := x6) (x7 := x7) (x8 := x8) (x14 := x14) (x15 := x15) (x16 := x16) (x17 := x17) (x18 := x18) (x19 := x19) (x20 := x20) (x21 := x21) m hc (all := rngD 0 n.toNat) n.toNat 0 [] L x11 h (by omega) (by simp) e
  refine ⟨c11, L', g, ?_, by rw [z2, List.nil_append, mem_rows]⟩
  show ((den t (.itR (.cons (.var 13) .nil)) _ h).thn _ _) = _
  rw [it]
  exact z
theorem mem_len_le {c : Int} (m : DN d n) : (memL d n c).length ≤ 100000 := by
  have nn := m.nn
  have e : ((memL d n c).map prD).length = ((List.range' 0 n.toNat).flatMap (rowL d n c)).length := by rw [mem_rows]
  rw [List.length_map] at e
  rw [e, List.length_flatMap]
  have : ∀ l : List Nat, (l.map fun u => (rowL d n c u).length).sum ≤ l.length * n.toNat := by
    intro l
    induction l with
    | nil => simp
    | cons a l ih =>
      rw [List.map_cons, List.sum_cons, List.length_cons, Nat.add_mul, Nat.one_mul]
      have := row_len (d := d) (n := n) (c := c) (u := a)
      omega
  have h1 := this (List.range' 0 n.toNat)
  rw [List.length_range'] at h1
  have h2 : n.toNat ≤ 45 := by omega
  have h3 := Nat.mul_le_mul h2 h2
  omega
theorem part2' (H : HL t) (m : DN d n) {c : Int} (h0 : 0 ≤ c) (h1 : c < n) {L : Nat} {h : Hd} (e : h[L]? = some (.lst ((memL d n c).map prD))) : denS t i_law_2 none (lw x0 x2 x3 x4 x5 x6 x7 x8 (some (.int c)) (some (.loc L)) x11 (some (.int d)) (some (.int n)) x14 x15 x16 x17 x18 x19 x20 x21) h = .nx (lw x0 x2 x3 x4 x5 x6 x7 x8 (some (.int c)) (some (.loc L)) x11 (some (.int d)) (some (.int n)) x14 x15 x16 x17 x18 x19 x20 x21) h := by
  have k1 : ∀ h, callD (pureF g_law_tells) [.fn "members_of_norm", .tup [.int d, .int n, .int c], .tup ((memL d n c).map prD)] h = .ok (.bl true) h := fun h => k_law_tells rfl (told_memb m h0 h1) (same_list _ (mem_len_le m))
  have tp : biD .tuple [.loc L] h = .ok (.tup ((memL d n c).map prD)) h := by
    unfold biD
    simp only [items, e]
  have G := H.glob _ _ _ gl
  generalize (memL d n c).map prD = ML at *
  simp [i_law_2, denS, den, G, H.tells.ar, H.tells.orc, H.tells.dfl, k1, tp, szB_le]
theorem k_circle {d n : Int} {p q : Int × Int} {st : Int × Int} {g : Hd} (m : Dm d n p q) : callD p_law_circle_holds [.loc 0, .int d, .int n, prD p, prD q] (stO st :: g) = .ok (.bl true) (stO (takeF st n).2 :: g) :=
  call_one (as' := [.loc 0, .int d, .int n, prD p, prD q]) (o := stO st) (l := 0) rfl rfl (by simp [D.mls, D.ml, posOf]) rfl rfl (by
    unfold p_law_circle_holds
    simp only
    rw [if_pos m]) rfl rfl
theorem part1' (H : HL t) (m : Dm d n p q) {st : Int × Int} {g : Hd} : denS t i_law_1 none (lw x0 x2 x3 x4 x5 x6 x7 x8 x9 x10 x11 (some (.int d)) (some (.int n)) (some (prD p)) (some (prD q)) x16 x17 x18 x19 x20 x21) (stO st :: g) = .nx (lw x0 x2 x3 x4 x5 x6 x7 x8 x9 x10 x11 (some (.int d)) (some (.int n)) (some (prD p)) (some (prD q)) x16 x17 x18 x19 x20 x21) (stO (takeF st n).2 :: g) := by
  have k1 := k_circle (st := st) (g := g) m
  generalize stO st :: g = h1 at *
  generalize stO (takeF st n).2 :: g = h2 at *
  generalize prD p = P at *
  generalize prD q = Q at *
  simp [i_law_1, denS, den, H.circle.ar, H.circle.orc, H.circle.dfl, k1]
end
end K42

namespace K42
open PySem PySem.Spec PyProof.Rows L2 Ev
section
variable {t : Rt}
theorem one_turn (H : HL t) {x0 x2 x3 x4 x5 x6 x7 x8 x9 x10 x11 x12 x13 x14 x15 x16 x17 x18 x19 x20 x21 : Option D} {st : Int × Int} {g : Hd} : ∃ y3 y4 y5 y6 y7 y8 y9 y10 y11 y12 y13 y14 y15 y16 y17 y18 y19 y20 st' g',
    denS t b_law_6 none (lw x0 x2 x3 x4 x5 x6 x7 x8 x9 x10 x11 x12 x13 x14 x15 x16 x17 x18 x19 x20 x21) (stO st :: g) = .nx (lw x0 x2 y3 y4 y5 y6 y7 y8 y9 y10 y11 y12 y13 y14 y15 y16 y17 y18 y19 y20 x21) (stO st' :: g') := by
  -- d, n
  have r1 := take_range (st := st) (m := 41) (by decide)
  have k1 := k_take0 (st := st) (m := 41) (g := g) (by decide) (by decide)
  generalize takeF st 41 = t1 at *
  have r2 := take_range (st := t1.2) (m := 22) (by decide)
  have k2 := k_take0 (st := t1.2) (m := 22) (g := g) (by decide) (by decide)
  generalize takeF t1.2 22 = t2 at *
  have q2 : ∀ x h, binD .Mult (.int 2) (.int x) h = .ok (.int (2 * x)) h := fun x h => bin_mul (mulB_l (by decide))
  have s1 : denS t (.asg (.t (.cons (.n 12) (.cons (.n 13) .nil))) (.tup (.cons (.bin .Sub (.call "_law_take" 2 (.cons (.var 1) (.cons (.int 41) .nil))) (.int 20)) (.cons (.bin .Add (.int 3) (.bin .Mult (.int 2) (.call "_law_take" 2 (.cons (.var 1) (.cons (.int 22) .nil))))) .nil)))) none
      (lw x0 x2 x3 x4 x5 x6 x7 x8 x9 x10 x11 x12 x13 x14 x15 x16 x17 x18 x19 x20 x21) (stO st :: g) = .nx (lw x0 x2 x3 x4 x5 x6 x7 x8 x9 x10 x11 (some (.int (t1.1 - 20))) (some (.int (3 + 2 * t2.1))) x14 x15 x16 x17 x18 x19 x20 x21) (stO t2.2 :: g) := by
    generalize stO st :: g = h0 at *
    generalize stO t1.2 :: g = h1 at *
    generalize stO t2.2 :: g = h2 at *
    simp [denS, den, H.take.ar, H.take.orc, H.take.dfl, k1, k2, q2, szB_le]
  have m : DN (t1.1 - 20) (3 + 2 * t2.1) := ⟨by omega, by omega, t2.1.toNat, by omega, by omega⟩
  generalize t1.1 - 20 = d at *
  generalize 3 + 2 * t2.1 = n at *
  generalize t2.2 = st2 at *
  have nn := m.nn
  have n0 : 0 < n := by omega
  -- lots
  have s2e := lots_eq (t := t) (x0 := x0) (x2 := x2) (x3 := x3) (x4 := x4) (x5 := x5) (x6 := x6) (x7 := x7) (x8 := x8) (x9 := x9) (x10 := x10) (x11 := x11) (x12 := some (.int d)) (x14 := x14) (x15 := x15) (x16 := x16) (x17 := x17) (x18 := x18) (x19 := x19) (x20 := x20) (x21 := x21) H nn.1 nn.2.1 (st := st2) (g := g)
  have i1 := lot_in (st := st2) n0
  have i2 := lot_in (st := (lotF st2 n).2) n0
  have i3 := lot_in (st := (lotF (lotF st2 n).2 n).2) n0
  generalize (lotF (lotF (lotF st2 n).2 n).2 n).2 = st3 at *
  generalize (lotF (lotF (lotF st2 n).2 n).2 n).1 = r at *
  generalize (lotF (lotF st2 n).2 n).1 = q at *
  generalize (lotF st2 n).1 = p at *
  have s2 : denS t (.asg (.n 3) c_law_5) none (lw x0 x2 x3 x4 x5 x6 x7 x8 x9 x10 x11 (some (.int d)) (some (.int n)) x14 x15 x16 x17 x18 x19 x20 x21) (stO st2 :: g) = .nx (lw x0 x2 (some (.loc (g.length + 1))) x4 x5 x6 x7 x8 x9 x10 x11 (some (.int d)) (some (.int n)) x14 x15 x16 x17 x18 x19 x20 x21) (stO st3 :: (g ++ [.lst [prD p, prD q, prD r]])) := by
    show ((den t c_law_5 _ _).thn _ _) = _
    rw [s2e]
    rfl
  have lk : (stO st3 :: (g ++ [O.lst [prD p, prD q, prD r]]))[g.length + 1]? = some (.lst [prD p, prD q, prD r]) := by
    rw [List.getElem?_cons_succ]
    exact fro_get
  generalize hg2 : g ++ [O.lst [prD p, prD q, prD r]] = g2 at *
  have s3 : denS t (.asg (.t (.cons (.n 14) (.cons (.n 15) (.cons (.n 16) .nil)))) (.var 3)) none (lw x0 x2 (some (.loc (g.length + 1))) x4 x5 x6 x7 x8 x9 x10 x11 (some (.int d)) (some (.int n)) x14 x15 x16 x17 x18 x19 x20 x21) (stO st3 :: g2) = .nx (lw x0 x2 (some (.loc (g.length + 1))) x4 x5 x6 x7 x8 x9 x10 x11 (some (.int d)) (some (.int n)) (some (prD p)) (some (prD q)) (some (prD r)) x17 x18 x19 x20 x21) (stO st3 :: g2) := by
    generalize g.length + 1 = L at *
    have it : items (.loc L) (stO st3 :: g2) = some [prD p, prD q, prD r] := by
      unfold items
      simp only [lk]
    generalize stO st3 :: g2 = h3 at *
    show (match (match items (.loc L) h3 with | some ds => bindTs _ ds h3 _ | none => none) with | some σ' => RS'.nx σ' h3 | none => .bad) = _
    rw [it]
    rfl
  generalize some (D.loc (g.length + 1)) = y3 at *
  have s4 := fun h => part13 (t := t) (x0 := x0) (x2 := x2) (x3 := y3) (x4 := x4) (x5 := x5) (x6 := x6) (x7 := x7) (x8 := x8) (x9 := x9) (x10 := x10) (x11 := x11) (x17 := x17) (x18 := x18) (x19 := x19) (x20 := x20) (x21 := x21) H m i1 i2 i3 (h := h)
  have qm : ∀ x h, binD .Mod (.int x) (.int n) h = .ok (.int (x % n)) h := fun x h => bin_mod n0
  have sd := m.sd
  have p1 := i1.s1 m
  have p2 := i1.s2 m
  have u1 := i2.s1 m
  have u2 := i2.s2 m
  have s5 : ∀ h, denS t (.asg (.n 4) (.bin .Mod (.bi .int (.cons (.bin .Sub (.bin .Mult (.ix (.var 14) (.int 0)) (.ix (.var 14) (.int 0))) (.bin .Mult (.bin .Mult (.var 12) (.ix (.var 14) (.int 1))) (.ix (.var 14) (.int 1)))) .nil)) (.var 13))) none (lw x0 x2 y3 x4 x5 x6 x7 x8 x9 x10 x11 (some (.int d)) (some (.int n)) (some (prD p)) (some (prD q)) (some (prD r)) x17 x18 x19 x20 x21) h = .nx (lw x0 x2 y3 (some (.int (normP d n p))) x5 x6 x7 x8 x9 x10 x11 (some (.int d)) (some (.int n)) (some (prD p)) (some (prD q)) (some (prD r)) x17 x18 x19 x20 x21) h := fun h => by
    simp [denS, den, qm, S63_mul p1, S63_mul sd, S63_mulr p2, normP]
  have s6 : ∀ h, denS t (.asg (.n 5) (.bin .Mod (.bi .int (.cons (.bin .Sub (.bin .Mult (.ix (.var 15) (.int 0)) (.ix (.var 15) (.int 0))) (.bin .Mult (.bin .Mult (.var 12) (.ix (.var 15) (.int 1))) (.ix (.var 15) (.int 1)))) .nil)) (.var 13))) none (lw x0 x2 y3 (some (.int (normP d n p))) x5 x6 x7 x8 x9 x10 x11 (some (.int d)) (some (.int n)) (some (prD p)) (some (prD q)) (some (prD r)) x17 x18 x19 x20 x21) h = .nx (lw x0 x2 y3 (some (.int (normP d n p))) (some (.int (normP d n q))) x6 x7 x8 x9 x10 x11 (some (.int d)) (some (.int n)) (some (prD p)) (some (prD q)) (some (prD r)) x17 x18 x19 x20 x21) h := fun h => by
    simp [denS, den, qm, S63_mul u1, S63_mul sd, S63_mulr u2, normP]
  have s7 := fun h => part12' (t := t) (x0 := x0) (x2 := x2) (x3 := y3) (x6 := x6) (x7 := x7) (x8 := x8) (x9 := x9) (x10 := x10) (x11 := x11) (x16 := some (prD r)) (x17 := x17) (x18 := x18) (x19 := x19) (x20 := x20) (x21 := x21) H m i1 i2 (h := h)
  -- k
  have r3 := take_range (st := st3) (m := 12) (by decide)
  have k3 := k_take0 (st := st3) (m := 12) (g := g2) (by decide) (by decide)
  generalize takeF st3 12 = t3 at *
  have one1 : (1 : Int) % n = 1 := Int.emod_eq_of_lt (by decide) (by omega)
  have s8 : denS t (.asg (.t (.cons (.n 17) (.cons (.n 18) .nil))) (.tup (.cons (.call "_law_take" 2 (.cons (.var 1) (.cons (.int 12) .nil))) (.cons (.tup (.cons (.int 1) (.cons (.int 0) .nil))) .nil)))) none (lw x0 x2 y3 (some (.int (normP d n p))) (some (.int (normP d n q))) x6 x7 x8 x9 x10 x11 (some (.int d)) (some (.int n)) (some (prD p)) (some (prD q)) (some (prD r)) x17 x18 x19 x20 x21) (stO st3 :: g2) =
      .nx (lw x0 x2 y3 (some (.int (normP d n p))) (some (.int (normP d n q))) x6 x7 x8 x9 x10 x11 (some (.int d)) (some (.int n)) (some (prD p)) (some (prD q)) (some (prD r)) (some (.int t3.1)) (some (prD (1, 0))) x19 x20 x21) (stO t3.2 :: g2) := by
    generalize stO st3 :: g2 = h3 at *
    generalize stO t3.2 :: g2 = h4 at *
    simp [denS, den, H.take.ar, H.take.orc, H.take.dfl, k3, szB_le]
  obtain ⟨k, hk⟩ : ∃ k : Nat, t3.1 = (k : Int) := ⟨t3.1.toNat, by omega⟩
  rw [hk] at s8 r3
  generalize t3.2 = st4 at *
  obtain ⟨c6, z11⟩ := loop11 (t := t) (x0 := x0) (x2 := x2) (x3 := y3) (x4 := some (.int (normP d n p))) (x5 := some (.int (normP d n q))) (x7 := x7) (x8 := x8) (x9 := x9) (x10 := x10) (x11 := x11) (x15 := some (prD q)) (x16 := some (prD r)) (x17 := some (.int (k : Int))) (x19 := x19) (x20 := x20) (x21 := x21) H m i1 (all := rngD 0 k) k 0 0 x6 (stO st4 :: g2)
  have s9 : denS t f_law_11 none (lw x0 x2 y3 (some (.int (normP d n p))) (some (.int (normP d n q))) x6 x7 x8 x9 x10 x11 (some (.int d)) (some (.int n)) (some (prD p)) (some (prD q)) (some (prD r)) (some (.int (k : Int))) (some (prD (1, 0))) x19 x20 x21) (stO st4 :: g2) = .nx (lw x0 x2 y3 (some (.int (normP d n p))) (some (.int (normP d n q))) c6 x7 x8 x9 x10 x11 (some (.int d)) (some (.int n)) (some (prD p)) (some (prD q)) (some (prD r)) (some (.int (k : Int))) (some (prD (itP d n p k))) x19 x20 x21) (stO st4 :: g2) := by
    have e0 : itP d n p 0 = (1, 0) := by show (1 % n, (0 : Int)) = _; rw [one1]
    rw [e0, Nat.zero_add] at z11
    have it0 : ∀ kk : Int, kk = (k : Int) → small62 kk = true → ∀ h, den t (.itR (.cons (.var 17) .nil)) (lw x0 x2 y3 (some (.int (normP d n p))) (some (.int (normP d n q))) x6 x7 x8 x9 x10 x11 (some (.int d)) (some (.int n)) (some (prD p)) (some (prD q)) (some (prD r)) (some (.int kk)) (some (prD (1, 0))) x19 x20 x21) h = .ok (.tup [.tup (rngD 0 kk.toNat), .non]) h := fun kk _ sm h => by
      have r1 := fun h => rng1 (n := kk) (h := h) sm
      simp [den, r1]
    have it := it0 (k : Int) rfl (by unfold small62; simp only [Bool.and_eq_true, decide_eq_true_eq]; omega)
    rw [Int.toNat_natCast] at it
    show ((den t (.itR (.cons (.var 17) .nil)) _ _).thn _ _) = _
    rw [it]
    exact z11
  have s10 := fun h => part10' (t := t) (x0 := x0) (x2 := x2) (x3 := y3) (x4 := some (.int (normP d n p))) (x5 := some (.int (normP d n q))) (x6 := c6) (x7 := x7) (x8 := x8) (x9 := x9) (x10 := x10) (x11 := x11) (x15 := some (prD q)) (x16 := some (prD r)) (x19 := x19) (x20 := x20) (x21 := x21) H m i1 (k := k) (by omega) (h := h)
  generalize some (prD (itP d n p k)) = y18 at *
  generalize some (D.int (k : Int)) = y17 at *
  -- unit, back
  have kc : ∀ h, callD (pureF g_law_common) [.int (normP d n p), .int n] h = .ok (.int (comF (normP d n p) n)) h := fun h => k_law_common (by omega)
  have s11 : ∀ h, denS t (.asg (.n 7) (.ifx (.cmp .Gt (.var 4) (.int 0)) (.cmp .Eq (.call "_law_common" 2 (.cons (.var 4) (.cons (.var 13) .nil))) (.int 1)) (.bl false))) none (lw x0 x2 y3 (some (.int (normP d n p))) (some (.int (normP d n q))) c6 x7 x8 x9 x10 x11 (some (.int d)) (some (.int n)) (some (prD p)) (some (prD q)) (some (prD r)) y17 y18 x19 x20 x21) h = .nx (lw x0 x2 y3 (some (.int (normP d n p))) (some (.int (normP d n q))) c6 (some (.bl (unitB d n p))) x8 x9 x10 x11 (some (.int d)) (some (.int n)) (some (prD p)) (some (prD q)) (some (prD r)) y17 y18 x19 x20 x21) h := fun h => by
    have eu : unitB d n p = (decide (0 < normP d n p) && (comF (normP d n p) n == 1)) := rfl
    rw [eu]
    generalize normP d n p = NP at *
    generalize comF NP n = CF at *
    by_cases c : 0 < NP
    · simp [denS, den, c, H.common.ar, H.common.orc, H.common.dfl, kc]
    · simp [denS, den, c]
  have G := H.glob _ _ _ gb
  have vb : ∀ h, callD (pureF g_law_value) [.fn "ring_back", .tup [.int d, .int n, prD p]] h = .ok (optP (backP d n p)) h := fun h => k_law_value rfl (told_back m i1)
  have s12 : ∀ h, denS t (.asg (.n 8) (.call "_law_value" 2 (.cons (.glo "ring_back") (.cons (.tup (.cons (.var 12) (.cons (.var 13) (.cons (.var 14) .nil)))) .nil)))) none (lw x0 x2 y3 (some (.int (normP d n p))) (some (.int (normP d n q))) c6 (some (.bl (unitB d n p))) x8 x9 x10 x11 (some (.int d)) (some (.int n)) (some (prD p)) (some (prD q)) (some (prD r)) y17 y18 x19 x20 x21) h = .nx (lw x0 x2 y3 (some (.int (normP d n p))) (some (.int (normP d n q))) c6 (some (.bl (unitB d n p))) (some (optP (backP d n p))) x9 x10 x11 (some (.int d)) (some (.int n)) (some (prD p)) (some (prD q)) (some (prD r)) y17 y18 x19 x20 x21) h := fun h => by
    generalize optP (backP d n p) = OB at *
    generalize prD p = P at *
    simp [denS, den, G, H.value.ar, H.value.orc, H.value.dfl, vb, szB_le]
  have s13 := fun h => part9 (t := t) (x0 := x0) (x2 := x2) (x3 := y3) (x4 := some (.int (normP d n p))) (x5 := some (.int (normP d n q))) (x6 := c6) (x9 := x9) (x10 := x10) (x11 := x11) (x15 := some (prD q)) (x16 := some (prD r)) (x17 := y17) (x18 := y18) (x19 := x19) (x20 := x20) (x21 := x21) H m i1 (h := h)
  generalize some (optP (backP d n p)) = y8 at *
  obtain ⟨c18, c19, c20, s14⟩ := part8 (t := t) (x0 := x0) (x2 := x2) (x3 := y3) (x4 := some (.int (normP d n p))) (x5 := some (.int (normP d n q))) (x6 := c6) (x8 := y8) (x9 := x9) (x10 := x10) (x11 := x11) (x15 := some (prD q)) (x16 := some (prD r)) (x17 := y17) (x18 := y18) (x19 := x19) (x20 := x20) (x21 := x21) H m i1 (h := stO st4 :: g2)
  generalize some (D.bl (unitB d n p)) = y7 at *
  generalize some (D.int (normP d n p)) = y4 at *
  generalize some (D.int (normP d n q)) = y5 at *
  -- members
  have r4 := take_range (st := st4) (m := n) n0
  have k4 := k_take0 (st := st4) (m := n) (g := g2) n0 (by omega)
  generalize takeF st4 n = t4 at *
  have s15 : denS t (.asg (.n 9) (.call "_law_take" 2 (.cons (.var 1) (.cons (.var 13) .nil)))) none (lw x0 x2 y3 y4 y5 c6 y7 y8 x9 x10 x11 (some (.int d)) (some (.int n)) (some (prD p)) (some (prD q)) (some (prD r)) y17 c18 c19 c20 x21) (stO st4 :: g2) = .nx (lw x0 x2 y3 y4 y5 c6 y7 y8 (some (.int t4.1)) x10 x11 (some (.int d)) (some (.int n)) (some (prD p)) (some (prD q)) (some (prD r)) y17 c18 c19 c20 x21) (stO t4.2 :: g2) := by
    generalize stO st4 :: g2 = h3 at *
    generalize stO t4.2 :: g2 = h4 at *
    simp [denS, den, H.take.ar, H.take.orc, H.take.dfl, k4]
  generalize t4.2 = st5 at *
  generalize t4.1 = c at *
  have s16 : ∀ h, denS t (.asg (.n 10) (.lst .nil)) none (lw x0 x2 y3 y4 y5 c6 y7 y8 (some (.int c)) x10 x11 (some (.int d)) (some (.int n)) (some (prD p)) (some (prD q)) (some (prD r)) y17 c18 c19 c20 x21) h = .nx (lw x0 x2 y3 y4 y5 c6 y7 y8 (some (.int c)) (some (.loc h.length)) x11 (some (.int d)) (some (.int n)) (some (prD p)) (some (prD q)) (some (prD r)) y17 c18 c19 c20 x21) (h ++ [.lst []]) := fun h => by
    simp [denS, den, szB_le]
  obtain ⟨c11, L', g3, s17, lk2⟩ := part3' (t := t) (x0 := x0) (x2 := x2) (x3 := y3) (x4 := y4) (x5 := y5) (x6 := c6) (x7 := y7) (x8 := y8) (x11 := x11) (x14 := some (prD p)) (x15 := some (prD q)) (x16 := some (prD r)) (x17 := y17) (x18 := c18) (x19 := c19) (x20 := c20) (x21 := x21) m (c := c) ⟨by omega, by omega⟩ (L := (stO st5 :: g2).length) (h := (stO st5 :: g2) ++ [.lst []]) fro_get
  have s18 := part2' (t := t) (x0 := x0) (x2 := x2) (x3 := y3) (x4 := y4) (x5 := y5) (x6 := c6) (x7 := y7) (x8 := y8) (x11 := c11) (x14 := some (prD p)) (x15 := some (prD q)) (x16 := some (prD r)) (x17 := y17) (x18 := c18) (x19 := c19) (x20 := c20) (x21 := x21) H m r4.1 r4.2 lk2
  have dm : Dm d n p q := ⟨m.d1, m.d2, m.n1, i1.a, i1.b, i1.c, i1.e, i2.a, i2.b, i2.c, i2.e⟩
  have s19 := part1' (t := t) (x0 := x0) (x2 := x2) (x3 := y3) (x4 := y4) (x5 := y5) (x6 := c6) (x7 := y7) (x8 := y8) (x9 := some (.int c)) (x10 := some (.loc L')) (x11 := c11) (x16 := some (prD r)) (x17 := y17) (x18 := c18) (x19 := c19) (x20 := c20) (x21 := x21) H dm (st := st5) (g := (g2 ++ [.lst []]) ++ g3)
  refine ⟨y3, y4, y5, c6, y7, y8, some (.int c), some (.loc L'), c11, some (.int d), some (.int n), some (prD p), some (prD q), some (prD r), y17, c18, c19, c20, (takeF st5 n).2, (g2 ++ [.lst []]) ++ g3, ?_⟩
  show denS t (.seq _ _) none _ _ = _
  rw [seq_nx s1, seq_nx s2, seq_nx s3, seq_nx (s4 _), seq_nx (s5 _), seq_nx (s6 _), seq_nx (s7 _), seq_nx s8, seq_nx s9, seq_nx (s10 _), seq_nx (s11 _), seq_nx (s12 _), seq_nx (s13 _), seq_nx s14, seq_nx s15, seq_nx (s16 _), seq_nx s17, seq_nx s18]
  have e5 : ((stO st5 :: g2) ++ [O.lst []]) ++ g3 = stO st5 :: ((g2 ++ [.lst []]) ++ g3) := by simp
  rw [e5, seq_nx s19]
  rfl
theorem turns (H : HL t) {all : List D} {x0 : Option D} : ∀ (ds : List D) {x2 x3 x4 x5 x6 x7 x8 x9 x10 x11 x12 x13 x14 x15 x16 x17 x18 x19 x20 x21 : Option D} {st : Int × Int} {g : Hd}, ∃ σ' h', forD (.n 2) (denS t b_law_6 none) .non all ds (lw x0 x2 x3 x4 x5 x6 x7 x8 x9 x10 x11 x12 x13 x14 x15 x16 x17 x18 x19 x20 x21) (stO st :: g) = .nx σ' h'
  | [], x2, x3, x4, x5, x6, x7, x8, x9, x10, x11, x12, x13, x14, x15, x16, x17, x18, x19, x20, x21, st, g => ⟨_, _, forD_nil⟩
  | d :: ds, x2, x3, x4, x5, x6, x7, x8, x9, x10, x11, x12, x13, x14, x15, x16, x17, x18, x19, x20, x21, st, g => by
    obtain ⟨y3, y4, y5, y6, y7, y8, y9, y10, y11, y12, y13, y14, y15, y16, y17, y18, y19, y20, st', g', e⟩ := one_turn H (x0 := x0) (x2 := some d) (x3 := x3) (x4 := x4) (x5 := x5) (x6 := x6) (x7 := x7) (x8 := x8) (x9 := x9) (x10 := x10) (x11 := x11) (x12 := x12) (x13 := x13) (x14 := x14) (x15 := x15) (x16 := x16) (x17 := x17) (x18 := x18) (x19 := x19) (x20 := x20) (x21 := x21) (st := st) (g := g)
    obtain ⟨σ', h', z⟩ := turns H (all := all) (x0 := x0) ds (x2 := some d) (x3 := y3) (x4 := y4) (x5 := y5) (x6 := y6) (x7 := y7) (x8 := y8) (x9 := y9) (x10 := y10) (x11 := y11) (x12 := y12) (x13 := y13) (x14 := y14) (x15 := y15) (x16 := y16) (x17 := y17) (x18 := y18) (x19 := y19) (x20 := y20) (x21 := x21) (st := st') (g := g')
    refine ⟨σ', h', ?_⟩
    rw [forD_cons]
    simp only [bindT_n, lw, List.set_cons_succ, List.set_cons_zero]
    simp only [lw] at e z
    rw [e]
    exact z
def p_law : List D → Hd → R D
  | [.fro ds], [] => (match intsD ds with
    | some ns => .ok (.bl true) []
    | none => .bad)
  | _, _ => .bad
theorem ints_map : ∀ ns : List Int, intsD (ns.map .int) = some ns
  | [] => rfl
  | n :: ns => by
    show (intsD (ns.map .int)).map (n :: ·) = _
    rw [ints_map ns]
    rfl
theorem d_law (H : HL t) (ds : List D) (os : Hd) : p_law ds os = .bad ∨ trimR os.length (denS t s_law none (startD N_law ds) os) = p_law ds os := by
  unfold p_law
  split
  · rename_i ds
    cases e : intsD ds with
    | none => exact .inl rfl
    | some ns =>
      right
      show trimR _ _ = .ok (.bl true) []
      have ed := intsD_eq e
      subst ed
      have k1 : callD p_law_state [.fro (ns.map D.int)] [] = .ok (.loc 0) [stO (finF ((ns.take 63).foldl stepF (0, 1)))] := by
        have fl : (D.fro (ns.map D.int)).flat = true := flats_map (fun _ => rfl) ns
        have ff : D.flats [D.fro (ns.map D.int)] = true := by show ((D.fro (ns.map D.int)).flat && true) = true; rw [fl]; rfl
        unfold callD
        simp only [lss_flat _ ff, noxs_flat _ ff, uniq, getAll, mls_flat _ _ ff, List.all_nil, if_true]
        have : p_law_state [.fro (ns.map D.int)] [] = .ok (.loc 0) [stO (finF ((ns.take 63).foldl stepF (0, 1)))] := by
          unfold p_law_state
          simp only [e]
        rw [this]
        simp [O.flat, D.flats, D.flat, D.nox, D.ml, backL, backH, Ev.putAll]
      generalize finF ((ns.take 63).foldl stepF (0, 1)) = st at *
      obtain ⟨σ', h', z⟩ := turns (t := t) H (all := rngD 0 5) (x0 := some (.fro (ns.map D.int))) (rngD 0 5) (x2 := none) (x3 := none) (x4 := none) (x5 := none) (x6 := none) (x7 := none) (x8 := none) (x9 := none) (x10 := none) (x11 := none) (x12 := none) (x13 := none) (x14 := none) (x15 := none) (x16 := none) (x17 := none) (x18 := none) (x19 := none) (x20 := none) (x21 := none) (st := st) (g := [])
      have it : ∀ σ h, den t (.itR (.cons (.int 5) .nil)) σ h = .ok (.tup [.tup (rngD 0 5), .non]) h := fun σ h => by
        have r1 := rng1 (n := 5) (h := h) (by decide)
        simp only [den, R.bind_ok]
        exact r1
      have s2 : denS t f_law_14 none (lw (some (.fro (ns.map D.int))) none none none none none none none none none none none none none none none none none none none none) [stO st] = .nx σ' h' := by
        show ((den t (.itR (.cons (.int 5) .nil)) _ _).thn _ _) = _
        rw [it]
        exact z
      generalize ns.map D.int = M at *
      have s1 : denS t (.asg (.n 1) (.call "_law_state" 1 (.cons (.var 0) .nil))) none (startD N_law [.fro M]) [] = .nx (lw (some (.fro M)) none none none none none none none none none none none none none none none none none none none none) [stO st] := by
        simp [startD, N_law, denS, den, H.state.ar, H.state.orc, H.state.dfl, k1]
      have ev : denS t s_law none (startD N_law [.fro M]) [] = .rt (.bl true) h' := by
        show denS t (.seq _ _) none _ _ = _
        rw [seq_nx s1, seq_nx s2]
        rfl
      rw [ev]
      unfold trimR
      simp [D.ls, uniq, getAll, D.nox, D.ml]
  · exact .inl rfl
end
end K42

namespace K42
open PySem PySem.Spec PyProof.Rows L2 Ev
abbrev R : PySem.W.OpenRow := PySem.W.OpenLaw.row PySem.Challenge.rw_primepapers_k42_whole_numbers_with_a_roo
def dd (s : Stmt) : Option He.DefD := match s with
  | .FunctionDef x a b _ _ _ sc _ _ _ => some ⟨(x, none), x, x, a, b, sc, [], []⟩
  | _ => none
def names : List Str := R.prog.main.body.filterMap fun s => match s with
  | .FunctionDef x _ _ _ _ _ _ _ _ _ => if x = "law" then none else some x
  | .ClassDef x _ _ _ _ _ _ _ _ _ _ => some x
  | .Assign [.Name x _] _ _ => if x = "__name__" then none else some x
  | _ => none
def fds : List He.DefD := R.prog.main.body.filterMap dd
/-- the class x's __init__ -/
def ini (x : Str) : Option He.DefD := (R.prog.main.body.findSome? fun s => match s with
  | .ClassDef y _ _ b _ _ _ _ _ _ _ => if y = x then some b else none
  | _ => none).bind fun b => b.findSome? fun s => match s with
  | .FunctionDef m a b _ _ _ sc _ _ _ => if m = "__init__" then some ⟨(x, some "__init__"), "__init__", x ++ ".__init__", a, b, sc, [], []⟩ else none
  | _ => none
def fn : List He.DefD := fds ++ (ini "Refused").toList
def fa : List He.Fa := [.free "len", .free "int", .free "isinstance", .free "bool", .free "abs", .free "all", .free "any", .free "tuple", .free "list", .free "range", .free "str", .exc "Malformed", .glo "Malformed", .glo "Refused", .glo "Fault",
  .exm "Malformed" "Malformed" true, .exm "Malformed" "Refused" false, .exm "Refused" "Malformed" false, .exm "Refused" "Refused" true, .int "MOST" 1000000000000000, .int "MOST_D" 1000000] ++ fds.map fun d => .glo d.at_.1
def exB (K : PySem.W.Frag) : Bool := xoB K "Refused" "Fault" "reason"
abbrev hk : PySem.W.Hook := hookE 4 fa fn exB
def ob (s : PySem.W.SharedT) : AlE := obsE 4 fa fn exB (HandSHeadRun.getT s)
theorem ob_eq (s : PySem.W.SharedT) : ob s = hk.obs s.abs := obsE_eq (HandSHeadRun.getT_eq s)
theorem run (w : World) : HandSHeadRun.RunEq R (PySem.W.view R.prog [R.prog.main.body.length - 1]) hk ob 4000 names w := by
  intro os
  kernel_rfl
end K42

/-! k42: the end: each def keeps its promise, and the law holds. -/
namespace K42
open PySem PySem.Spec PyProof.Rows L2 Ev
theorem d_same0 {t : Rt} (ds : List D) : Does0 t s_law_same N_law_same (g_same 0) ds := by
  unfold Does0 g_same
  split
  · rename_i v w
    split
    · rename_i c
      obtain ⟨rfl, c⟩ := c
      have hi : ∀ T h, isiD T v h = some (isT T v) := fun T h => isiD_dat (same_flat c)
      cases v with
      | int i => simp [s_law_same, N_law_same, startD, denS, den, hi, isT]
      | bl b => simp [s_law_same, N_law_same, startD, denS, den, hi, isT, cmp_Eq eqD_bb, Ev.isNon]
      | str s => simp [s_law_same, N_law_same, startD, denS, den, hi, isT, cmp_Eq (eqD_ss c), Ev.isNon]
      | _ => rw [sameOK] at c <;> first | (cases c; done) | simp at c
    · simp
  · simp
def freeX (x : Str) : Bool := fa.any fun f => match f with
  | .free y => x == y
  | _ => false
def exfX (x : Str) : Option (Option Str) := if x = "Malformed" then some none else if x = "Refused" then some (some "reason") else none
def isaX (x y : Str) : Option Bool := if x = "Malformed" then (if y = "Malformed" then some true else if y = "Refused" then some false else none) else if x = "Refused" then (if y = "Malformed" then some false else if y = "Refused" then some true else none) else none
def globX (x : Str) : Option D := if x = "MOST" then some (.int 1000000000000000) else if x = "MOST_D" then some (.int 1000000) else if (gOf x).isSome = true then some (.fn x) else none
/-- the def x -/
def fd (x : Str) : He.DefD := (fds.find? fun d => d.at_.1 == x).getD ⟨("", none), "", "", ⟨[], [], none, [], [], none, []⟩, [], default, [], []⟩

noncomputable def es : List Df := [⟨"is_integer", N_is_integer, 1, s_is_integer, (pureF g_is_integer)⟩,
  ⟨"is_count", N_is_count, 3, s_is_count, (pureF g_is_count)⟩,
  ⟨"check_from", N_check_from, 3, s_check_from, (pureF g_check_from)⟩,
  ⟨"shares_of", N_shares_of, 2, s_shares_of, (pureF g_shares_of)⟩,
  ⟨"back_rest", N_back_rest, 2, s_back_rest, (pureF g_back_rest)⟩,
  ⟨"check_ring", N_check_ring, 2, s_check_ring, (pureF g_check_ring)⟩,
  ⟨"is_member", N_is_member, 3, s_is_member, (pureF g_is_member)⟩,
  ⟨"check_member", N_check_member, 3, s_check_member, (pureF g_check_member)⟩,
  ⟨"product_by", N_product_by, 4, s_product_by, (pureF g_product_by)⟩,
  ⟨"ring_product", N_ring_product, 4, s_ring_product, (pureF g_ring_product)⟩,
  ⟨"power_by", N_power_by, 4, s_power_by, (pureF g_power_by)⟩,
  ⟨"ring_power", N_ring_power, 4, s_ring_power, (pureF g_ring_power)⟩,
  ⟨"ring_norm", N_ring_norm, 3, s_ring_norm, (pureF g_ring_norm)⟩,
  ⟨"ring_back", N_ring_back, 3, s_ring_back, (pureF g_ring_back)⟩,
  ⟨"circle_member", N_circle_member, 3, s_circle_member, (pureF g_circle_member)⟩,
  ⟨"members_of_norm", N_members_of_norm, 3, s_members_of_norm, (pureF g_members_of_norm)⟩,
  ⟨"order_in_ring", N_order_in_ring, 3, s_order_in_ring, (pureF g_order_in_ring)⟩,
  ⟨"frobenius_turns", N_frobenius_turns, 3, s_frobenius_turns, (pureF g_frobenius_turns)⟩,
  ⟨"_law_state", N_law_state, 1, s_law_state, p_law_state⟩,
  ⟨"_law_take", N_law_take, 2, s_law_take, p_law_take⟩,
  ⟨"_law_same", N_law_same, 2, s_law_same, (pureF (g_same 0))⟩,
  ⟨"_law_same", N_law_same, 2, s_law_same, (pureF (g_same 1))⟩,
  ⟨"_law_same", N_law_same, 2, s_law_same, (pureF (g_same 2))⟩,
  ⟨"_law_same", N_law_same, 2, s_law_same, (pureF (g_same 3))⟩,
  ⟨"_law_same", N_law_same, 2, s_law_same, (pureF (g_same 4))⟩,
  ⟨"_law_told", N_law_told, 2, s_law_told, (pureF g_law_told)⟩,
  ⟨"_law_is_told", N_law_is_told, 2, s_law_is_told, (pureF g_law_is_told)⟩,
  ⟨"_law_is_raised", N_law_is_raised, 2, s_law_is_raised, (pureF g_law_is_raised)⟩,
  ⟨"_law_tells", N_law_tells, 3, s_law_tells, (pureF g_law_tells)⟩,
  ⟨"_law_raises", N_law_raises, 3, s_law_raises, (pureF g_law_raises)⟩,
  ⟨"_law_plain", N_law_plain, 1, s_law_plain, (pureF g_is_integer)⟩,
  ⟨"_law_value", N_law_value, 2, s_law_value, (pureF g_law_value)⟩,
  ⟨"_law_bads", N_law_bads, 4, s_law_bads, p_law_bads⟩,
  ⟨"_law_common", N_law_common, 2, s_law_common, (pureF g_law_common)⟩,
  ⟨"_law_prime", N_law_prime, 1, s_law_prime, (pureF g_law_prime)⟩,
  ⟨"_law_rest", N_law_rest, 3, s_law_rest, (pureF g_law_rest)⟩,
  ⟨"_law_times", N_law_times, 4, s_law_times, (pureF g_product_by)⟩,
  ⟨"_law_circle_holds", N_law_circle_holds, 5, s_law_circle_holds, p_law_circle_holds⟩,
  ⟨"law", N_law, 1, s_law, p_law⟩]
noncomputable abbrev tX (i : Nat) : Rt := mkT es globX exfX isaX i
abbrev AtX (i : Nat) (e : Df) : Prop := DoesAt es globX exfX isaX i e
theorem glob_fn {i : Nat} : ∀ x k g, gOf x = some (k, g) → (tX i).glob x = some (.fn x) := by
  intro x k g h
  unfold gOf at h
  (repeat' split at h) <;> first | (cases h; done) | (subst_vars; rfl)
theorem a_0  : AtX 0 ⟨"is_integer", N_is_integer, 1, s_is_integer, (pureF g_is_integer)⟩ := fun ds os _ => does_pure (d_is_integer  ds) os
theorem a_1  : AtX 1 ⟨"is_count", N_is_count, 3, s_is_count, (pureF g_is_count)⟩ := fun ds os _ => does_pure (d_is_count ⟨by kernel_rfl, by kernel_rfl, rfl⟩ ds) os
theorem a_2  : AtX 2 ⟨"check_from", N_check_from, 3, s_check_from, (pureF g_check_from)⟩ := fun ds os _ => does_pure (d_check_from ⟨by kernel_rfl, by kernel_rfl, rfl⟩ rfl ds) os
theorem a_3  : AtX 3 ⟨"shares_of", N_shares_of, 2, s_shares_of, (pureF g_shares_of)⟩ := fun ds os _ => does_pure (d_shares_of  ds) os
theorem a_4  : AtX 4 ⟨"back_rest", N_back_rest, 2, s_back_rest, (pureF g_back_rest)⟩ := fun ds os _ => does_pure (d_back_rest ⟨by kernel_rfl, by kernel_rfl, rfl⟩ ds) os
theorem a_5  : AtX 5 ⟨"check_ring", N_check_ring, 2, s_check_ring, (pureF g_check_ring)⟩ := fun ds os _ => does_pure (d_check_ring ⟨by kernel_rfl, by kernel_rfl, rfl⟩ ⟨by kernel_rfl, by kernel_rfl, rfl⟩ rfl rfl rfl ds) os
theorem a_6  : AtX 6 ⟨"is_member", N_is_member, 3, s_is_member, (pureF g_is_member)⟩ := fun ds os _ => does_pure (d_is_member ⟨by kernel_rfl, by kernel_rfl, rfl⟩ ⟨by kernel_rfl, by kernel_rfl, rfl⟩ ds) os
theorem a_7  : AtX 7 ⟨"check_member", N_check_member, 3, s_check_member, (pureF g_check_member)⟩ := fun ds os _ => does_pure (d_check_member ⟨by kernel_rfl, by kernel_rfl, rfl⟩ rfl ds) os
theorem a_8  : AtX 8 ⟨"product_by", N_product_by, 4, s_product_by, (pureF g_product_by)⟩ := fun ds os _ => does_pure (d_product_by  ds) os
theorem a_9  : AtX 9 ⟨"ring_product", N_ring_product, 4, s_ring_product, (pureF g_ring_product)⟩ := fun ds os _ => does_pure (d_ring_product ⟨by kernel_rfl, by kernel_rfl, rfl⟩ ⟨by kernel_rfl, by kernel_rfl, rfl⟩ ds) os
theorem a_10  : AtX 10 ⟨"power_by", N_power_by, 4, s_power_by, (pureF g_power_by)⟩ := fun ds os _ => does_pure (d_power_by ⟨by kernel_rfl, by kernel_rfl, rfl⟩ ds) os
theorem a_11  : AtX 11 ⟨"ring_power", N_ring_power, 4, s_ring_power, (pureF g_ring_power)⟩ := fun ds os _ => does_pure (d_ring_power ⟨by kernel_rfl, by kernel_rfl, rfl⟩ ⟨by kernel_rfl, by kernel_rfl, rfl⟩ ⟨by kernel_rfl, by kernel_rfl, rfl⟩ ds) os
theorem a_12  : AtX 12 ⟨"ring_norm", N_ring_norm, 3, s_ring_norm, (pureF g_ring_norm)⟩ := fun ds os _ => does_pure (d_ring_norm ⟨by kernel_rfl, by kernel_rfl, rfl⟩ ds) os
theorem a_13  : AtX 13 ⟨"ring_back", N_ring_back, 3, s_ring_back, (pureF g_ring_back)⟩ := fun ds os _ => does_pure (d_ring_back ⟨by kernel_rfl, by kernel_rfl, rfl⟩ ⟨by kernel_rfl, by kernel_rfl, rfl⟩ ⟨by kernel_rfl, by kernel_rfl, rfl⟩ ds) os
theorem a_14  : AtX 14 ⟨"circle_member", N_circle_member, 3, s_circle_member, (pureF g_circle_member)⟩ := fun ds os _ => does_pure (d_circle_member ⟨by kernel_rfl, by kernel_rfl, rfl⟩ ⟨by kernel_rfl, by kernel_rfl, rfl⟩ ⟨by kernel_rfl, by kernel_rfl, rfl⟩ rfl ds) os
theorem a_15  : AtX 15 ⟨"members_of_norm", N_members_of_norm, 3, s_members_of_norm, (pureF g_members_of_norm)⟩ := fun ds os _ => does_pure (d_members_of_norm ⟨by kernel_rfl, by kernel_rfl, rfl⟩ ⟨by kernel_rfl, by kernel_rfl, rfl⟩ ds) os
theorem a_16  : AtX 16 ⟨"order_in_ring", N_order_in_ring, 3, s_order_in_ring, (pureF g_order_in_ring)⟩ := fun ds os _ => does_pure (d_order_in_ring ⟨by kernel_rfl, by kernel_rfl, rfl⟩ ⟨by kernel_rfl, by kernel_rfl, rfl⟩ ⟨by kernel_rfl, by kernel_rfl, rfl⟩ rfl ds) os
theorem a_17  : AtX 17 ⟨"frobenius_turns", N_frobenius_turns, 3, s_frobenius_turns, (pureF g_frobenius_turns)⟩ := fun ds os _ => does_pure (d_frobenius_turns ⟨by kernel_rfl, by kernel_rfl, rfl⟩ ⟨by kernel_rfl, by kernel_rfl, rfl⟩ ds) os
theorem a_18  : AtX 18 ⟨"_law_state", N_law_state, 1, s_law_state, p_law_state⟩ := fun ds os _ => d_law_state  ds os
theorem a_19  : AtX 19 ⟨"_law_take", N_law_take, 2, s_law_take, p_law_take⟩ := fun ds os _ => d_law_take  ds os
theorem a_20  : AtX 20 ⟨"_law_same", N_law_same, 2, s_law_same, (pureF (g_same 0))⟩ := fun ds os _ => does_pure (d_same0 ds) os
theorem a_21  : AtX 21 ⟨"_law_same", N_law_same, 2, s_law_same, (pureF (g_same 1))⟩ := fun ds os _ => does_pure (d_same ⟨by kernel_rfl, by kernel_rfl, rfl⟩ ds) os
theorem a_22  : AtX 22 ⟨"_law_same", N_law_same, 2, s_law_same, (pureF (g_same 2))⟩ := fun ds os _ => does_pure (d_same ⟨by kernel_rfl, by kernel_rfl, rfl⟩ ds) os
theorem a_23  : AtX 23 ⟨"_law_same", N_law_same, 2, s_law_same, (pureF (g_same 3))⟩ := fun ds os _ => does_pure (d_same ⟨by kernel_rfl, by kernel_rfl, rfl⟩ ds) os
theorem a_24  : AtX 24 ⟨"_law_same", N_law_same, 2, s_law_same, (pureF (g_same 4))⟩ := fun ds os _ => does_pure (d_same ⟨by kernel_rfl, by kernel_rfl, rfl⟩ ds) os
theorem hf_told : ∀ x n g, gOf x = some (n, g) → Has (tX 25) x n (pureF g) := by
  intro x n g h
  unfold gOf at h
  (repeat' split at h) <;> first | (cases h; done) | (cases h; subst_vars; exact ⟨by kernel_rfl, by kernel_rfl, rfl⟩)
theorem a_25  : AtX 25 ⟨"_law_told", N_law_told, 2, s_law_told, (pureF g_law_told)⟩ := fun ds os _ => does_pure (d_law_told hf_told rfl rfl rfl rfl ds) os
theorem a_26  : AtX 26 ⟨"_law_is_told", N_law_is_told, 2, s_law_is_told, (pureF g_law_is_told)⟩ := fun ds os _ => does_pure (d_law_is_told ⟨by kernel_rfl, by kernel_rfl, rfl⟩ ds) os
theorem a_27  : AtX 27 ⟨"_law_is_raised", N_law_is_raised, 2, s_law_is_raised, (pureF g_law_is_raised)⟩ := fun ds os _ => does_pure (d_law_is_raised ⟨by kernel_rfl, by kernel_rfl, rfl⟩ ds) os
theorem a_28  : AtX 28 ⟨"_law_tells", N_law_tells, 3, s_law_tells, (pureF g_law_tells)⟩ := fun ds os _ => does_pure (d_law_tells ⟨by kernel_rfl, by kernel_rfl, rfl⟩ ⟨by kernel_rfl, by kernel_rfl, rfl⟩ ds) os
theorem a_29  : AtX 29 ⟨"_law_raises", N_law_raises, 3, s_law_raises, (pureF g_law_raises)⟩ := fun ds os _ => does_pure (d_law_raises ⟨by kernel_rfl, by kernel_rfl, rfl⟩ ⟨by kernel_rfl, by kernel_rfl, rfl⟩ ds) os
theorem a_30  : AtX 30 ⟨"_law_plain", N_law_plain, 1, s_law_plain, (pureF g_is_integer)⟩ := fun ds os _ => does_pure (d_law_plain  ds) os
theorem a_31  : AtX 31 ⟨"_law_value", N_law_value, 2, s_law_value, (pureF g_law_value)⟩ := fun ds os _ => does_pure (d_law_value ⟨by kernel_rfl, by kernel_rfl, rfl⟩ ds) os
theorem a_32  : AtX 32 ⟨"_law_bads", N_law_bads, 4, s_law_bads, p_law_bads⟩ := fun ds os _ => d_law_bads ⟨by kernel_rfl, by kernel_rfl, rfl⟩ ds os
theorem a_33  : AtX 33 ⟨"_law_common", N_law_common, 2, s_law_common, (pureF g_law_common)⟩ := fun ds os _ => does_pure (d_law_common  ds) os
theorem a_34  : AtX 34 ⟨"_law_prime", N_law_prime, 1, s_law_prime, (pureF g_law_prime)⟩ := fun ds os _ => does_pure (d_law_prime  ds) os
theorem a_35  : AtX 35 ⟨"_law_rest", N_law_rest, 3, s_law_rest, (pureF g_law_rest)⟩ := fun ds os _ => does_pure (d_law_rest  ds) os
theorem a_36  : AtX 36 ⟨"_law_times", N_law_times, 4, s_law_times, (pureF g_product_by)⟩ := fun ds os _ => does_pure (d_law_times  ds) os
theorem hc_circle : HC (tX 37) := ⟨⟨by kernel_rfl, by kernel_rfl, rfl⟩, ⟨by kernel_rfl, by kernel_rfl, rfl⟩, ⟨by kernel_rfl, by kernel_rfl, rfl⟩, ⟨by kernel_rfl, by kernel_rfl, rfl⟩, ⟨by kernel_rfl, by kernel_rfl, rfl⟩, ⟨by kernel_rfl, by kernel_rfl, rfl⟩, ⟨by kernel_rfl, by kernel_rfl, rfl⟩, ⟨by kernel_rfl, by kernel_rfl, rfl⟩, ⟨by kernel_rfl, by kernel_rfl, rfl⟩, glob_fn⟩
theorem a_37  : AtX 37 ⟨"_law_circle_holds", N_law_circle_holds, 5, s_law_circle_holds, p_law_circle_holds⟩ := fun ds os _ => d_law_circle_holds hc_circle ds os
theorem hl_law : HL (tX 38) := ⟨⟨by kernel_rfl, by kernel_rfl, rfl⟩, ⟨by kernel_rfl, by kernel_rfl, rfl⟩, ⟨by kernel_rfl, by kernel_rfl, rfl⟩, ⟨by kernel_rfl, by kernel_rfl, rfl⟩, ⟨by kernel_rfl, by kernel_rfl, rfl⟩, ⟨by kernel_rfl, by kernel_rfl, rfl⟩, ⟨by kernel_rfl, by kernel_rfl, rfl⟩, ⟨by kernel_rfl, by kernel_rfl, rfl⟩, glob_fn⟩
theorem a_38  : AtX 38 ⟨"law", N_law, 1, s_law, p_law⟩ := fun ds os _ => d_law hl_law ds os
def AllAt (P : Nat → Df → Prop) : Nat → List Df → Prop
  | _, [] => True
  | n, a :: l => P n a ∧ AllAt P (n + 1) l
theorem allAt_get {P : Nat → Df → Prop} : ∀ {l : List Df} {n : Nat}, AllAt P n l → ∀ i e, l[i]? = some e → P (n + i) e
  | [], _, _, i, e, h => by simp at h
  | a :: l, n, ⟨h1, h2⟩, 0, e, h => by cases h; exact h1
  | a :: l, n, ⟨h1, h2⟩, i + 1, e, h => by
    have := allAt_get h2 i e h
    rw [show n + (i + 1) = n + 1 + i by omega]
    exact this
theorem does_all : ∀ i e, es[i]? = some e → AtX i e := fun i e h => by
  have := allAt_get (P := AtX) (l := es) (n := 0) ⟨a_0, a_1, a_2, a_3, a_4, a_5, a_6, a_7, a_8, a_9, a_10, a_11, a_12, a_13, a_14, a_15, a_16, a_17, a_18, a_19, a_20, a_21, a_22, a_23, a_24, a_25, a_26, a_27, a_28, a_29, a_30, a_31, a_32, a_33, a_34, a_35, a_36, a_37, a_38, trivial⟩ i e h
  rw [Nat.zero_add] at this
  exact this
theorem same_np : ((es.map fun e => (e.x, e.np)).all fun a => (es.map fun e => (e.x, e.np)).all fun b => !(a.1 == b.1) || a.2 == b.2) = true := by kernel_rfl
theorem np_ok : ∀ e ∈ es, ∀ e' ∈ es, e.x = e'.x → e.np = e'.np := by
  intro e he e' he' hx
  have h1 := List.all_eq_true.mp same_np _ (List.mem_map.mpr ⟨e, he, rfl⟩)
  have h2 := List.all_eq_true.mp h1 _ (List.mem_map.mpr ⟨e', he', rfl⟩)
  simp only [hx, beq_self_eq_true, Bool.not_true, Bool.false_or, beq_iff_eq] at h2
  exact h2
section
variable {P : Program} {w : World} {K : PySem.W.Frag} {h : Heap} {mg : Str → Option Value} {base : Heap}
theorem df_ok (X : K.In h) (G : h.Ns mainGlobals mg) (c : He.SaysD fa fn K) (k : Nat) (x : Str) {N ps : List Str} {np : Nat} {sm : Sm} {sp : List D → Hd → Ev.R D} (h1 : fn[k]? = some (fd x)) (h2 : fa[21 + k]? = some (.glo x)) (h3 : (fd x).name = x) (h4 : (fd x).at_ = (x, none)) (h5 : (fd x).dvs K = [])
    (h6 : ps.length = np) (h7 : C8.scC N ps (fd x).scope = true) (h8 : ∀ (kV doc pm : Value) (an : Option Addr) (cdv ct : Value) (us : List Value), us.length = ps.length → bindArgs (PySem.W.fnOf x (fd x).qual (fd x).params (fd x).body (fd x).scope .none kV doc pm an cdv ct) ⟨us, []⟩ = pure (ps.zip us))
    (h9 : ∀ i, chkS (tX i) ⟨N, (fd x).scope, true, fun _ => true, freeX⟩ (.l (fd x).body) sm = true) : DfOk es globX exfX isaX freeX K mg ⟨x, N, np, sm, sp⟩ := by
  obtain ⟨fd', F⟩ := c.def_ k h1
  rw [h3, h4, h5] at F
  exact ⟨He.fAd K (x, none), fd', (fd x).params, (fd x).body, (fd x).scope, ps, [], _, (fd x).qual, F, He.glo_ok X G (c.fact _ h2), h6, C8.fnScope_by h7, F.bindsN h8, h9⟩
theorem f_is_integer (X : K.In h) (G : h.Ns mainGlobals mg) (c : He.SaysD fa fn K) {sp : List D → Hd → Ev.R D} : DfOk es globX exfX isaX freeX K mg ⟨"is_integer", N_is_integer, 1, s_is_integer, sp⟩ := df_ok X G c 0 "is_integer" (ps := ["value"]) (by kernel_rfl) (by kernel_rfl) (by kernel_rfl) (by kernel_rfl) (by kernel_rfl) rfl (by kernel_rfl) (fun kV doc pm an cdv ct us hl => match us, hl with | [_], _ => by kernel_rfl) (fun i => by kernel_rfl)
theorem f_is_count (X : K.In h) (G : h.Ns mainGlobals mg) (c : He.SaysD fa fn K) {sp : List D → Hd → Ev.R D} : DfOk es globX exfX isaX freeX K mg ⟨"is_count", N_is_count, 3, s_is_count, sp⟩ := df_ok X G c 1 "is_count" (ps := ["value", "low", "high"]) (by kernel_rfl) (by kernel_rfl) (by kernel_rfl) (by kernel_rfl) (by kernel_rfl) rfl (by kernel_rfl) (fun kV doc pm an cdv ct us hl => match us, hl with | [_, _, _], _ => by kernel_rfl) (fun i => by kernel_rfl)
theorem f_check_from (X : K.In h) (G : h.Ns mainGlobals mg) (c : He.SaysD fa fn K) {sp : List D → Hd → Ev.R D} : DfOk es globX exfX isaX freeX K mg ⟨"check_from", N_check_from, 3, s_check_from, sp⟩ := df_ok X G c 2 "check_from" (ps := ["n", "low", "high"]) (by kernel_rfl) (by kernel_rfl) (by kernel_rfl) (by kernel_rfl) (by kernel_rfl) rfl (by kernel_rfl) (fun kV doc pm an cdv ct us hl => match us, hl with | [_, _, _], _ => by kernel_rfl) (fun i => by kernel_rfl)
theorem f_shares_of (X : K.In h) (G : h.Ns mainGlobals mg) (c : He.SaysD fa fn K) {sp : List D → Hd → Ev.R D} : DfOk es globX exfX isaX freeX K mg ⟨"shares_of", N_shares_of, 2, s_shares_of, sp⟩ := df_ok X G c 3 "shares_of" (ps := ["a", "b"]) (by kernel_rfl) (by kernel_rfl) (by kernel_rfl) (by kernel_rfl) (by kernel_rfl) rfl (by kernel_rfl) (fun kV doc pm an cdv ct us hl => match us, hl with | [_, _], _ => by kernel_rfl) (fun i => by kernel_rfl)
theorem f_back_rest (X : K.In h) (G : h.Ns mainGlobals mg) (c : He.SaysD fa fn K) {sp : List D → Hd → Ev.R D} : DfOk es globX exfX isaX freeX K mg ⟨"back_rest", N_back_rest, 2, s_back_rest, sp⟩ := df_ok X G c 4 "back_rest" (ps := ["a", "n"]) (by kernel_rfl) (by kernel_rfl) (by kernel_rfl) (by kernel_rfl) (by kernel_rfl) rfl (by kernel_rfl) (fun kV doc pm an cdv ct us hl => match us, hl with | [_, _], _ => by kernel_rfl) (fun i => by kernel_rfl)
theorem f_check_ring (X : K.In h) (G : h.Ns mainGlobals mg) (c : He.SaysD fa fn K) {sp : List D → Hd → Ev.R D} : DfOk es globX exfX isaX freeX K mg ⟨"check_ring", N_check_ring, 2, s_check_ring, sp⟩ := df_ok X G c 5 "check_ring" (ps := ["d", "n"]) (by kernel_rfl) (by kernel_rfl) (by kernel_rfl) (by kernel_rfl) (by kernel_rfl) rfl (by kernel_rfl) (fun kV doc pm an cdv ct us hl => match us, hl with | [_, _], _ => by kernel_rfl) (fun i => by kernel_rfl)
theorem f_is_member (X : K.In h) (G : h.Ns mainGlobals mg) (c : He.SaysD fa fn K) {sp : List D → Hd → Ev.R D} : DfOk es globX exfX isaX freeX K mg ⟨"is_member", N_is_member, 3, s_is_member, sp⟩ := df_ok X G c 6 "is_member" (ps := ["d", "n", "value"]) (by kernel_rfl) (by kernel_rfl) (by kernel_rfl) (by kernel_rfl) (by kernel_rfl) rfl (by kernel_rfl) (fun kV doc pm an cdv ct us hl => match us, hl with | [_, _, _], _ => by kernel_rfl) (fun i => by kernel_rfl)
theorem f_check_member (X : K.In h) (G : h.Ns mainGlobals mg) (c : He.SaysD fa fn K) {sp : List D → Hd → Ev.R D} : DfOk es globX exfX isaX freeX K mg ⟨"check_member", N_check_member, 3, s_check_member, sp⟩ := df_ok X G c 7 "check_member" (ps := ["d", "n", "value"]) (by kernel_rfl) (by kernel_rfl) (by kernel_rfl) (by kernel_rfl) (by kernel_rfl) rfl (by kernel_rfl) (fun kV doc pm an cdv ct us hl => match us, hl with | [_, _, _], _ => by kernel_rfl) (fun i => by kernel_rfl)
theorem f_product_by (X : K.In h) (G : h.Ns mainGlobals mg) (c : He.SaysD fa fn K) {sp : List D → Hd → Ev.R D} : DfOk es globX exfX isaX freeX K mg ⟨"product_by", N_product_by, 4, s_product_by, sp⟩ := df_ok X G c 8 "product_by" (ps := ["d", "n", "one", "two"]) (by kernel_rfl) (by kernel_rfl) (by kernel_rfl) (by kernel_rfl) (by kernel_rfl) rfl (by kernel_rfl) (fun kV doc pm an cdv ct us hl => match us, hl with | [_, _, _, _], _ => by kernel_rfl) (fun i => by kernel_rfl)
theorem f_ring_product (X : K.In h) (G : h.Ns mainGlobals mg) (c : He.SaysD fa fn K) {sp : List D → Hd → Ev.R D} : DfOk es globX exfX isaX freeX K mg ⟨"ring_product", N_ring_product, 4, s_ring_product, sp⟩ := df_ok X G c 9 "ring_product" (ps := ["d", "n", "one", "two"]) (by kernel_rfl) (by kernel_rfl) (by kernel_rfl) (by kernel_rfl) (by kernel_rfl) rfl (by kernel_rfl) (fun kV doc pm an cdv ct us hl => match us, hl with | [_, _, _, _], _ => by kernel_rfl) (fun i => by kernel_rfl)
theorem f_power_by (X : K.In h) (G : h.Ns mainGlobals mg) (c : He.SaysD fa fn K) {sp : List D → Hd → Ev.R D} : DfOk es globX exfX isaX freeX K mg ⟨"power_by", N_power_by, 4, s_power_by, sp⟩ := df_ok X G c 11 "power_by" (ps := ["d", "n", "one", "k"]) (by kernel_rfl) (by kernel_rfl) (by kernel_rfl) (by kernel_rfl) (by kernel_rfl) rfl (by kernel_rfl) (fun kV doc pm an cdv ct us hl => match us, hl with | [_, _, _, _], _ => by kernel_rfl) (fun i => by kernel_rfl)
theorem f_ring_power (X : K.In h) (G : h.Ns mainGlobals mg) (c : He.SaysD fa fn K) {sp : List D → Hd → Ev.R D} : DfOk es globX exfX isaX freeX K mg ⟨"ring_power", N_ring_power, 4, s_ring_power, sp⟩ := df_ok X G c 10 "ring_power" (ps := ["d", "n", "one", "k"]) (by kernel_rfl) (by kernel_rfl) (by kernel_rfl) (by kernel_rfl) (by kernel_rfl) rfl (by kernel_rfl) (fun kV doc pm an cdv ct us hl => match us, hl with | [_, _, _, _], _ => by kernel_rfl) (fun i => by kernel_rfl)
theorem f_ring_norm (X : K.In h) (G : h.Ns mainGlobals mg) (c : He.SaysD fa fn K) {sp : List D → Hd → Ev.R D} : DfOk es globX exfX isaX freeX K mg ⟨"ring_norm", N_ring_norm, 3, s_ring_norm, sp⟩ := df_ok X G c 12 "ring_norm" (ps := ["d", "n", "one"]) (by kernel_rfl) (by kernel_rfl) (by kernel_rfl) (by kernel_rfl) (by kernel_rfl) rfl (by kernel_rfl) (fun kV doc pm an cdv ct us hl => match us, hl with | [_, _, _], _ => by kernel_rfl) (fun i => by kernel_rfl)
theorem f_ring_back (X : K.In h) (G : h.Ns mainGlobals mg) (c : He.SaysD fa fn K) {sp : List D → Hd → Ev.R D} : DfOk es globX exfX isaX freeX K mg ⟨"ring_back", N_ring_back, 3, s_ring_back, sp⟩ := df_ok X G c 13 "ring_back" (ps := ["d", "n", "one"]) (by kernel_rfl) (by kernel_rfl) (by kernel_rfl) (by kernel_rfl) (by kernel_rfl) rfl (by kernel_rfl) (fun kV doc pm an cdv ct us hl => match us, hl with | [_, _, _], _ => by kernel_rfl) (fun i => by kernel_rfl)
theorem f_circle_member (X : K.In h) (G : h.Ns mainGlobals mg) (c : He.SaysD fa fn K) {sp : List D → Hd → Ev.R D} : DfOk es globX exfX isaX freeX K mg ⟨"circle_member", N_circle_member, 3, s_circle_member, sp⟩ := df_ok X G c 14 "circle_member" (ps := ["d", "n", "t"]) (by kernel_rfl) (by kernel_rfl) (by kernel_rfl) (by kernel_rfl) (by kernel_rfl) rfl (by kernel_rfl) (fun kV doc pm an cdv ct us hl => match us, hl with | [_, _, _], _ => by kernel_rfl) (fun i => by kernel_rfl)
theorem f_members_of_norm (X : K.In h) (G : h.Ns mainGlobals mg) (c : He.SaysD fa fn K) {sp : List D → Hd → Ev.R D} : DfOk es globX exfX isaX freeX K mg ⟨"members_of_norm", N_members_of_norm, 3, s_members_of_norm, sp⟩ := df_ok X G c 15 "members_of_norm" (ps := ["d", "n", "c"]) (by kernel_rfl) (by kernel_rfl) (by kernel_rfl) (by kernel_rfl) (by kernel_rfl) rfl (by kernel_rfl) (fun kV doc pm an cdv ct us hl => match us, hl with | [_, _, _], _ => by kernel_rfl) (fun i => by kernel_rfl)
theorem f_order_in_ring (X : K.In h) (G : h.Ns mainGlobals mg) (c : He.SaysD fa fn K) {sp : List D → Hd → Ev.R D} : DfOk es globX exfX isaX freeX K mg ⟨"order_in_ring", N_order_in_ring, 3, s_order_in_ring, sp⟩ := df_ok X G c 16 "order_in_ring" (ps := ["d", "n", "one"]) (by kernel_rfl) (by kernel_rfl) (by kernel_rfl) (by kernel_rfl) (by kernel_rfl) rfl (by kernel_rfl) (fun kV doc pm an cdv ct us hl => match us, hl with | [_, _, _], _ => by kernel_rfl) (fun i => by kernel_rfl)
theorem f_frobenius_turns (X : K.In h) (G : h.Ns mainGlobals mg) (c : He.SaysD fa fn K) {sp : List D → Hd → Ev.R D} : DfOk es globX exfX isaX freeX K mg ⟨"frobenius_turns", N_frobenius_turns, 3, s_frobenius_turns, sp⟩ := df_ok X G c 17 "frobenius_turns" (ps := ["d", "p", "one"]) (by kernel_rfl) (by kernel_rfl) (by kernel_rfl) (by kernel_rfl) (by kernel_rfl) rfl (by kernel_rfl) (fun kV doc pm an cdv ct us hl => match us, hl with | [_, _, _], _ => by kernel_rfl) (fun i => by kernel_rfl)
theorem f_law_state (X : K.In h) (G : h.Ns mainGlobals mg) (c : He.SaysD fa fn K) {sp : List D → Hd → Ev.R D} : DfOk es globX exfX isaX freeX K mg ⟨"_law_state", N_law_state, 1, s_law_state, sp⟩ := df_ok X G c 18 "_law_state" (ps := ["script"]) (by kernel_rfl) (by kernel_rfl) (by kernel_rfl) (by kernel_rfl) (by kernel_rfl) rfl (by kernel_rfl) (fun kV doc pm an cdv ct us hl => match us, hl with | [_], _ => by kernel_rfl) (fun i => by kernel_rfl)
theorem f_law_take (X : K.In h) (G : h.Ns mainGlobals mg) (c : He.SaysD fa fn K) {sp : List D → Hd → Ev.R D} : DfOk es globX exfX isaX freeX K mg ⟨"_law_take", N_law_take, 2, s_law_take, sp⟩ := df_ok X G c 19 "_law_take" (ps := ["state", "m"]) (by kernel_rfl) (by kernel_rfl) (by kernel_rfl) (by kernel_rfl) (by kernel_rfl) rfl (by kernel_rfl) (fun kV doc pm an cdv ct us hl => match us, hl with | [_, _], _ => by kernel_rfl) (fun i => by kernel_rfl)
theorem f_law_same (X : K.In h) (G : h.Ns mainGlobals mg) (c : He.SaysD fa fn K) {sp : List D → Hd → Ev.R D} : DfOk es globX exfX isaX freeX K mg ⟨"_law_same", N_law_same, 2, s_law_same, sp⟩ := df_ok X G c 20 "_law_same" (ps := ["value", "due"]) (by kernel_rfl) (by kernel_rfl) (by kernel_rfl) (by kernel_rfl) (by kernel_rfl) rfl (by kernel_rfl) (fun kV doc pm an cdv ct us hl => match us, hl with | [_, _], _ => by kernel_rfl) (fun i => by kernel_rfl)
theorem f_law_told (X : K.In h) (G : h.Ns mainGlobals mg) (c : He.SaysD fa fn K) {sp : List D → Hd → Ev.R D} : DfOk es globX exfX isaX freeX K mg ⟨"_law_told", N_law_told, 2, s_law_told, sp⟩ := df_ok X G c 21 "_law_told" (ps := ["f", "given"]) (by kernel_rfl) (by kernel_rfl) (by kernel_rfl) (by kernel_rfl) (by kernel_rfl) rfl (by kernel_rfl) (fun kV doc pm an cdv ct us hl => match us, hl with | [_, _], _ => by kernel_rfl) (fun i => by kernel_rfl)
theorem f_law_is_told (X : K.In h) (G : h.Ns mainGlobals mg) (c : He.SaysD fa fn K) {sp : List D → Hd → Ev.R D} : DfOk es globX exfX isaX freeX K mg ⟨"_law_is_told", N_law_is_told, 2, s_law_is_told, sp⟩ := df_ok X G c 22 "_law_is_told" (ps := ["pair", "due"]) (by kernel_rfl) (by kernel_rfl) (by kernel_rfl) (by kernel_rfl) (by kernel_rfl) rfl (by kernel_rfl) (fun kV doc pm an cdv ct us hl => match us, hl with | [_, _], _ => by kernel_rfl) (fun i => by kernel_rfl)
theorem f_law_is_raised (X : K.In h) (G : h.Ns mainGlobals mg) (c : He.SaysD fa fn K) {sp : List D → Hd → Ev.R D} : DfOk es globX exfX isaX freeX K mg ⟨"_law_is_raised", N_law_is_raised, 2, s_law_is_raised, sp⟩ := df_ok X G c 23 "_law_is_raised" (ps := ["pair", "reason"]) (by kernel_rfl) (by kernel_rfl) (by kernel_rfl) (by kernel_rfl) (by kernel_rfl) rfl (by kernel_rfl) (fun kV doc pm an cdv ct us hl => match us, hl with | [_, _], _ => by kernel_rfl) (fun i => by kernel_rfl)
theorem f_law_tells (X : K.In h) (G : h.Ns mainGlobals mg) (c : He.SaysD fa fn K) {sp : List D → Hd → Ev.R D} : DfOk es globX exfX isaX freeX K mg ⟨"_law_tells", N_law_tells, 3, s_law_tells, sp⟩ := df_ok X G c 24 "_law_tells" (ps := ["f", "given", "due"]) (by kernel_rfl) (by kernel_rfl) (by kernel_rfl) (by kernel_rfl) (by kernel_rfl) rfl (by kernel_rfl) (fun kV doc pm an cdv ct us hl => match us, hl with | [_, _, _], _ => by kernel_rfl) (fun i => by kernel_rfl)
theorem f_law_raises (X : K.In h) (G : h.Ns mainGlobals mg) (c : He.SaysD fa fn K) {sp : List D → Hd → Ev.R D} : DfOk es globX exfX isaX freeX K mg ⟨"_law_raises", N_law_raises, 3, s_law_raises, sp⟩ := df_ok X G c 25 "_law_raises" (ps := ["f", "given", "reason"]) (by kernel_rfl) (by kernel_rfl) (by kernel_rfl) (by kernel_rfl) (by kernel_rfl) rfl (by kernel_rfl) (fun kV doc pm an cdv ct us hl => match us, hl with | [_, _, _], _ => by kernel_rfl) (fun i => by kernel_rfl)
theorem f_law_plain (X : K.In h) (G : h.Ns mainGlobals mg) (c : He.SaysD fa fn K) {sp : List D → Hd → Ev.R D} : DfOk es globX exfX isaX freeX K mg ⟨"_law_plain", N_law_plain, 1, s_law_plain, sp⟩ := df_ok X G c 26 "_law_plain" (ps := ["x"]) (by kernel_rfl) (by kernel_rfl) (by kernel_rfl) (by kernel_rfl) (by kernel_rfl) rfl (by kernel_rfl) (fun kV doc pm an cdv ct us hl => match us, hl with | [_], _ => by kernel_rfl) (fun i => by kernel_rfl)
theorem f_law_value (X : K.In h) (G : h.Ns mainGlobals mg) (c : He.SaysD fa fn K) {sp : List D → Hd → Ev.R D} : DfOk es globX exfX isaX freeX K mg ⟨"_law_value", N_law_value, 2, s_law_value, sp⟩ := df_ok X G c 27 "_law_value" (ps := ["f", "given"]) (by kernel_rfl) (by kernel_rfl) (by kernel_rfl) (by kernel_rfl) (by kernel_rfl) rfl (by kernel_rfl) (fun kV doc pm an cdv ct us hl => match us, hl with | [_, _], _ => by kernel_rfl) (fun i => by kernel_rfl)
theorem f_law_bads (X : K.In h) (G : h.Ns mainGlobals mg) (c : He.SaysD fa fn K) {sp : List D → Hd → Ev.R D} : DfOk es globX exfX isaX freeX K mg ⟨"_law_bads", N_law_bads, 4, s_law_bads, sp⟩ := df_ok X G c 28 "_law_bads" (ps := ["f", "given", "at", "bads"]) (by kernel_rfl) (by kernel_rfl) (by kernel_rfl) (by kernel_rfl) (by kernel_rfl) rfl (by kernel_rfl) (fun kV doc pm an cdv ct us hl => match us, hl with | [_, _, _, _], _ => by kernel_rfl) (fun i => by kernel_rfl)
theorem f_law_common (X : K.In h) (G : h.Ns mainGlobals mg) (c : He.SaysD fa fn K) {sp : List D → Hd → Ev.R D} : DfOk es globX exfX isaX freeX K mg ⟨"_law_common", N_law_common, 2, s_law_common, sp⟩ := df_ok X G c 29 "_law_common" (ps := ["a", "b"]) (by kernel_rfl) (by kernel_rfl) (by kernel_rfl) (by kernel_rfl) (by kernel_rfl) rfl (by kernel_rfl) (fun kV doc pm an cdv ct us hl => match us, hl with | [_, _], _ => by kernel_rfl) (fun i => by kernel_rfl)
theorem f_law_prime (X : K.In h) (G : h.Ns mainGlobals mg) (c : He.SaysD fa fn K) {sp : List D → Hd → Ev.R D} : DfOk es globX exfX isaX freeX K mg ⟨"_law_prime", N_law_prime, 1, s_law_prime, sp⟩ := df_ok X G c 30 "_law_prime" (ps := ["n"]) (by kernel_rfl) (by kernel_rfl) (by kernel_rfl) (by kernel_rfl) (by kernel_rfl) rfl (by kernel_rfl) (fun kV doc pm an cdv ct us hl => match us, hl with | [_], _ => by kernel_rfl) (fun i => by kernel_rfl)
theorem f_law_rest (X : K.In h) (G : h.Ns mainGlobals mg) (c : He.SaysD fa fn K) {sp : List D → Hd → Ev.R D} : DfOk es globX exfX isaX freeX K mg ⟨"_law_rest", N_law_rest, 3, s_law_rest, sp⟩ := df_ok X G c 31 "_law_rest" (ps := ["a", "k", "n"]) (by kernel_rfl) (by kernel_rfl) (by kernel_rfl) (by kernel_rfl) (by kernel_rfl) rfl (by kernel_rfl) (fun kV doc pm an cdv ct us hl => match us, hl with | [_, _, _], _ => by kernel_rfl) (fun i => by kernel_rfl)
theorem f_law_times (X : K.In h) (G : h.Ns mainGlobals mg) (c : He.SaysD fa fn K) {sp : List D → Hd → Ev.R D} : DfOk es globX exfX isaX freeX K mg ⟨"_law_times", N_law_times, 4, s_law_times, sp⟩ := df_ok X G c 32 "_law_times" (ps := ["d", "n", "one", "two"]) (by kernel_rfl) (by kernel_rfl) (by kernel_rfl) (by kernel_rfl) (by kernel_rfl) rfl (by kernel_rfl) (fun kV doc pm an cdv ct us hl => match us, hl with | [_, _, _, _], _ => by kernel_rfl) (fun i => by kernel_rfl)
theorem f_law_circle_holds (X : K.In h) (G : h.Ns mainGlobals mg) (c : He.SaysD fa fn K) {sp : List D → Hd → Ev.R D} : DfOk es globX exfX isaX freeX K mg ⟨"_law_circle_holds", N_law_circle_holds, 5, s_law_circle_holds, sp⟩ := df_ok X G c 33 "_law_circle_holds" (ps := ["state", "d", "n", "one", "two"]) (by kernel_rfl) (by kernel_rfl) (by kernel_rfl) (by kernel_rfl) (by kernel_rfl) rfl (by kernel_rfl) (fun kV doc pm an cdv ct us hl => match us, hl with | [_, _, _, _, _], _ => by kernel_rfl) (fun i => by kernel_rfl)
theorem f_law (X : K.In h) (G : h.Ns mainGlobals mg) (c : He.SaysD fa fn K) {sp : List D → Hd → Ev.R D} : DfOk es globX exfX isaX freeX K mg ⟨"law", N_law, 1, s_law, sp⟩ := df_ok X G c 34 "law" (ps := ["script"]) (by kernel_rfl) (by kernel_rfl) (by kernel_rfl) (by kernel_rfl) (by kernel_rfl) rfl (by kernel_rfl) (fun kV doc pm an cdv ct us hl => match us, hl with | [_], _ => by kernel_rfl) (fun i => by kernel_rfl)
theorem fm {P : Df → Prop} {a : Df} {l : List Df} (h1 : P a) (h2 : ∀ e ∈ l, P e) : ∀ e ∈ a :: l, P e := List.forall_mem_cons.mpr ⟨h1, h2⟩
theorem df_all (X : K.In h) (G : h.Ns mainGlobals mg) (c : He.SaysD fa fn K) : ∀ e ∈ es, DfOk es globX exfX isaX freeX K mg e :=
  fm (f_is_integer X G c) ( fm (f_is_count X G c) ( fm (f_check_from X G c) ( fm (f_shares_of X G c) ( fm (f_back_rest X G c) ( fm (f_check_ring X G c) ( fm (f_is_member X G c) ( fm (f_check_member X G c) ( fm (f_product_by X G c) ( fm (f_ring_product X G c) ( fm (f_power_by X G c) ( fm (f_ring_power X G c) ( fm (f_ring_norm X G c) ( fm (f_ring_back X G c) ( fm (f_circle_member X G c) ( fm (f_members_of_norm X G c) ( fm (f_order_in_ring X G c) ( fm (f_frobenius_turns X G c) ( fm (f_law_state X G c) ( fm (f_law_take X G c) ( fm (f_law_same X G c) ( fm (f_law_same X G c) ( fm (f_law_same X G c) ( fm (f_law_same X G c) ( fm (f_law_same X G c) ( fm (f_law_told X G c) ( fm (f_law_is_told X G c) ( fm (f_law_is_raised X G c) ( fm (f_law_tells X G c) ( fm (f_law_raises X G c) ( fm (f_law_plain X G c) ( fm (f_law_value X G c) ( fm (f_law_bads X G c) ( fm (f_law_common X G c) ( fm (f_law_prime X G c) ( fm (f_law_rest X G c) ( fm (f_law_times X G c) ( fm (f_law_circle_holds X G c) ( fm (f_law X G c) (fun _ h => nomatch h)))))))))))))))))))))))))))))))))))))))
theorem nine_ok (X : K.In h) (G : h.Ns mainGlobals mg) (c : He.SaysD fa fn K) (x : Str) (hx : (gOf x).isSome = true) : ∃ f, mg x = some (.ref f) := by
  unfold gOf at hx
  by_cases e : x = "is_member"
  · subst e
    exact ⟨_, He.glo_ok X G (c.fact 27 (f := .glo "is_member") (by kernel_rfl))⟩
  rw [if_neg e] at hx
  by_cases e : x = "ring_product"
  · subst e
    exact ⟨_, He.glo_ok X G (c.fact 30 (f := .glo "ring_product") (by kernel_rfl))⟩
  rw [if_neg e] at hx
  by_cases e : x = "ring_power"
  · subst e
    exact ⟨_, He.glo_ok X G (c.fact 31 (f := .glo "ring_power") (by kernel_rfl))⟩
  rw [if_neg e] at hx
  by_cases e : x = "ring_norm"
  · subst e
    exact ⟨_, He.glo_ok X G (c.fact 33 (f := .glo "ring_norm") (by kernel_rfl))⟩
  rw [if_neg e] at hx
  by_cases e : x = "ring_back"
  · subst e
    exact ⟨_, He.glo_ok X G (c.fact 34 (f := .glo "ring_back") (by kernel_rfl))⟩
  rw [if_neg e] at hx
  by_cases e : x = "circle_member"
  · subst e
    exact ⟨_, He.glo_ok X G (c.fact 35 (f := .glo "circle_member") (by kernel_rfl))⟩
  rw [if_neg e] at hx
  by_cases e : x = "members_of_norm"
  · subst e
    exact ⟨_, He.glo_ok X G (c.fact 36 (f := .glo "members_of_norm") (by kernel_rfl))⟩
  rw [if_neg e] at hx
  by_cases e : x = "order_in_ring"
  · subst e
    exact ⟨_, He.glo_ok X G (c.fact 37 (f := .glo "order_in_ring") (by kernel_rfl))⟩
  rw [if_neg e] at hx
  by_cases e : x = "frobenius_turns"
  · subst e
    exact ⟨_, He.glo_ok X G (c.fact 38 (f := .glo "frobenius_turns") (by kernel_rfl))⟩
  rw [if_neg e] at hx
  cases hx
theorem c_exc (c : He.SaysD fa fn K) : (He.Fa.exc "Malformed").ok K = true := c.fact 11 (by kernel_rfl)
def ini1 : He.DefD := (ini "Refused").getD ⟨("", none), "", "", ⟨[], [], none, [], [], none, []⟩, [], default, [], []⟩
theorem hbody : ini1.body = [.Expr (.Call (.Attribute (.Name "Fault" ⟨9, 8, 9, 13⟩) "__init__" ⟨9, 8, 9, 22⟩) [.Name "self" ⟨9, 23, 9, 27⟩, .Name "reason" ⟨9, 29, 9, 35⟩] [] ⟨9, 8, 9, 36⟩) ⟨9, 8, 9, 36⟩,
    .Assign [.Attribute (.Name "self" ⟨10, 8, 10, 12⟩) "reason" ⟨10, 8, 10, 19⟩] (.Name "reason" ⟨10, 22, 10, 28⟩) ⟨10, 8, 10, 28⟩] := by kernel_rfl
theorem g_ok (X : K.In h) (G : h.Ns mainGlobals mg) (c : He.SaysD fa fn K) (b : exB K = true) (i k : Nat) (hk : 3 ≤ k) : GOk (tX i) P w K mg base freeX k := by
  have gR : mg "Refused" = some (.ref (He.ga K "Refused")) := He.glo_ok X G (c.fact 13 (f := .glo "Refused") (by kernel_rfl))
  have gM : mg "Malformed" = some (.ref (He.ga K "Malformed")) := He.glo_ok X G (c.fact 12 (f := .glo "Malformed") (by kernel_rfl))
  have gF : mg "Fault" = some (.ref (He.ga K "Fault")) := He.glo_ok X G (c.fact 14 (f := .glo "Fault") (by kernel_rfl))
  obtain ⟨b1, b⟩ := and3 (show _ = true from b)
  obtain ⟨b2, b⟩ := and3 b
  obtain ⟨b3, b⟩ := and3 b
  obtain ⟨b4, b⟩ := and3 b
  obtain ⟨b5, b⟩ := and3 b
  obtain ⟨b6, b⟩ := and3 b
  obtain ⟨b7, b8⟩ := and3 b
  refine { free := fun x hx => ?_, glob := fun x d hx => ?_, xc := fun x g C hx hm => ?_, rai := fun x g hx => ?_, isa := fun x y r hx => ?_ }
  · obtain ⟨f, hf, e⟩ := List.any_eq_true.mp hx
    obtain ⟨j, hj⟩ := List.getElem?_of_mem hf
    cases f with
    | free y =>
      have e := beq_iff_eq.mp (show (x == y) = true from e)
      subst e
      exact He.free_ok X G (c.fact j hj)
    | _ => cases e
  · have hx : globX x = some d := hx
    unfold globX at hx
    by_cases e1 : x = "MOST"
    · subst e1
      rw [if_pos rfl] at hx
      cases hx
      obtain ⟨u, hu⟩ := He.int_ok X G (c.fact 19 (f := .int "MOST" 1000000000000000) (by kernel_rfl))
      exact ⟨_, .int 1000000000000000, hu, ⟨_, rfl⟩, fun _ _ => rfl⟩
    rw [if_neg e1] at hx
    by_cases e2 : x = "MOST_D"
    · subst e2
      rw [if_pos rfl] at hx
      cases hx
      obtain ⟨u, hu⟩ := He.int_ok X G (c.fact 20 (f := .int "MOST_D" 1000000) (by kernel_rfl))
      exact ⟨_, .int 1000000, hu, ⟨_, rfl⟩, fun _ _ => rfl⟩
    rw [if_neg e2] at hx
    by_cases e3 : (gOf x).isSome = true
    · rw [if_pos e3] at hx
      cases hx
      obtain ⟨f, hf⟩ := nine_ok X G c x e3
      exact ⟨_, .ref f, hf, rfl, fun _ _ => ⟨f, rfl, hf⟩⟩
    · rw [if_neg e3] at hx
      cases hx
  · have hx : exfX x = some (some g) := hx
    unfold exfX at hx
    by_cases e1 : x = "Malformed"
    · rw [if_pos e1] at hx
      cases hx
    rw [if_neg e1] at hx
    by_cases e2 : x = "Refused"
    · rw [if_pos e2] at hx
      subst e2
      cases hx
      rw [gR] at hm
      cases hm
      exact ⟨xfB_ok b8, He.eqO_ok b7⟩
    · rw [if_neg e2] at hx
      cases hx
  · have hx : exfX x = some g := hx
    unfold exfX at hx
    by_cases e1 : x = "Malformed"
    · rw [if_pos e1] at hx
      subst e1
      cases hx
      obtain ⟨q1, q2, q3, q4⟩ := He.exc_ok (c_exc c)
      exact ⟨_, "ValueError", "ValueError.__new__", "ValueError.__init__", He.veBase, gM, PySem.F.excBase_ValueError, q1, q2, q3, q4⟩
    rw [if_neg e1] at hx
    by_cases e2 : x = "Refused"
    · rw [if_pos e2] at hx
      subst e2
      cases hx
      obtain ⟨fd', F⟩ := c.def_ 35 (d := ini1) (by kernel_rfl)
      rw [show ini1.dvs K = [] by kernel_rfl, show ini1.at_ = (("Refused" : Str), some ("__init__" : Str)) by kernel_rfl] at F
      refine ⟨He.ga K "Refused", He.fAd K ("Refused", some "__init__"), 1, fd', ["self", "reason"], by omega, gR, oexB_ok b1, He.eqO_ok b2, dec_ b3, ?_, ?_⟩
      · exact init_ok (k := 0) (B := "Fault") (p1 := ⟨9, 8, 9, 13⟩) (p2 := ⟨9, 8, 9, 22⟩) F (C8.fnScope_by (by kernel_rfl)) hbody (by kernel_rfl) (by kernel_rfl) (by kernel_rfl) (by kernel_rfl) gF b4 (He.eqO_ok b5) (valB_ok b6) (oexB_ok b1) (He.eqO_ok b7) (fun env => ⟨_, rfl⟩)
      · exact F.bindsN (fun kV doc pm an cdv ct us hl => match us, hl with | [_, _], _ => by kernel_rfl)
    · rw [if_neg e2] at hx
      cases hx
  · have hx : isaX x y = some r := hx
    unfold isaX at hx
    by_cases e1 : x = "Malformed"
    · subst e1
      rw [if_pos rfl] at hx
      by_cases e3 : y = "Malformed"
      · subst e3
        rw [if_pos rfl] at hx
        cases hx
        exact ⟨_, _, gM, gM, He.exm_ok (c.fact 15 (by kernel_rfl))⟩
      rw [if_neg e3] at hx
      by_cases e4 : y = "Refused"
      · subst e4
        rw [if_pos rfl] at hx
        cases hx
        exact ⟨_, _, gM, gR, He.exm_ok (c.fact 16 (by kernel_rfl))⟩
      · rw [if_neg e4] at hx
        cases hx
    rw [if_neg e1] at hx
    by_cases e2 : x = "Refused"
    · subst e2
      rw [if_pos rfl] at hx
      by_cases e3 : y = "Malformed"
      · subst e3
        rw [if_pos rfl] at hx
        cases hx
        exact ⟨_, _, gR, gM, He.exm_ok (c.fact 17 (by kernel_rfl))⟩
      rw [if_neg e3] at hx
      by_cases e4 : y = "Refused"
      · subst e4
        rw [if_pos rfl] at hx
        cases hx
        exact ⟨_, _, gR, gR, He.exm_ok (c.fact 18 (by kernel_rfl))⟩
      · rw [if_neg e4] at hx
        cases hx
    · rw [if_neg e2] at hx
      cases hx
theorem spec_law (ns : List Int) (_ : ns.length ≤ 63) : p_law [.fro (ns.map .int)] [] = .ok (.bl true) [] := by
  show (match intsD (ns.map .int) with
    | some ns => (Ev.R.ok (D.bl true) [] : Ev.R D)
    | none => .bad) = _
  rw [ints_map]
theorem law_fn (X : K.In h) (G : h.Ns mainGlobals mg) (c : He.SaysD fa fn K) (b : exB K = true) {f : Addr} (hf : mg "law" = some (.ref f)) : ∃ fd : FuncData, (∀ (s : Shared) (v : Value), BindsTo s fd ⟨[v], []⟩ [("script", v)]) ∧
    ∀ base : Heap, FnOk P w K mg base (L2.CX P w) 42 f fd ["script"] (spOf ⟨K, mg, none⟩ 1 p_law) := by
  obtain ⟨fd', F⟩ := c.def_ 34 (d := fd "law") (by kernel_rfl)
  rw [show (fd "law").dvs K = [] by kernel_rfl, show (fd "law").at_ = (("law" : Str), none) by kernel_rfl] at F
  have gl : mg "law" = some (.ref (He.fAd K ("law", none))) := He.glo_ok X G (c.fact 55 (f := .glo "law") (by kernel_rfl))
  have hfa := hf.symm.trans gl
  cases hfa
  have bA := FunD.bindsA (ps := ["script"]) F (fun kV doc pm an cdv ct us hl => match us, hl with | [_], _ => by kernel_rfl)
  refine ⟨fd', fun s v => bA s [v] rfl, fun base => ?_⟩
  have S : FnScope N_law ["script"] (fd "law").scope := C8.fnScope_by (by kernel_rfl)
  have heldA := held_all (P := P) (w := w) (base := base) (fun i k hk => g_ok X G c b i k hk) np_ok (df_all X G c) does_all 38 (Nat.le_of_ble_eq_true (by kernel_rfl))
  have held : ∀ x n, (tX 38).ar x n = true → FnHeld (tX 38) P w K mg base 41 x := by
    intro x n ha
    obtain ⟨e', he', hq⟩ := List.any_eq_true.mp ha
    obtain ⟨q1, q2⟩ := Bool.and_eq_true_iff.mp hq
    obtain rfl := beq_iff_eq.mp q1
    obtain ⟨e'', hf''⟩ := Option.isSome_iff_exists.mp (show ((es.take 38).reverse.find? (fun e => e.x == e'.x)).isSome = true from List.find?_isSome.mpr ⟨e', List.mem_reverse.mpr he', beq_self_eq_true _⟩)
    have hx'' : e''.x = e'.x := beq_iff_eq.mp (List.find?_some (p := fun (e : Df) => e.x == e'.x) hf'')
    have he'' : e'' ∈ es.take 38 := List.mem_reverse.mp (List.mem_of_find?_eq_some hf'')
    obtain ⟨f', fd2, ps', m1, m2, m3, m4, m5⟩ := heldA e'' he''
    have ho : orcOf es 38 e'.x = e''.sp := by
      unfold orcOf
      rw [hf'']
    refine ⟨f', fd2, ps', by rw [← hx'']; exact m1, m2, ?_, fun n' ha' => ?_⟩
    · show FnOk P w K mg base (L2.CX P w) 41 f' fd2 ps' (spOf ⟨K, mg, none⟩ ps'.length (orcOf es 38 e'.x))
      rw [ho, m3]
      exact m4
    · obtain ⟨e2, he2, hq2⟩ := List.any_eq_true.mp ha'
      obtain ⟨p1, p2⟩ := Bool.and_eq_true_iff.mp hq2
      have p1 := beq_iff_eq.mp p1
      have p2 : e2.np = n' := of_decide_eq_true p2
      have e12 := np_ok e2 (List.mem_of_mem_take he2) e'' (List.mem_of_mem_take he'') (p1.trans hx''.symm)
      exact ⟨by show n' + 0 = _; omega, rfl, [], [], m5, .nil, fun _ _ => rfl⟩
  exact def_ok (t := tX 38) (k := 41) (spec := p_law) F S (g_ok X G c b 38 41 (by omega)) (by kernel_rfl) held (fun ds os e => a_38 ds os e)
end
end K42
open PySem PySem.W PySem.Calls PyProof.Rows
/-- the law's walk, where what stays behind a call that raises names the world -/
theorem Ev.walk_cx {lw : PySem.W.OpenLaw} {most k : Nat} {pr : Program} {ls : List Str} {XPr : (Str → Option Value) → Heap → Prop} {YPr : World → Heap → Prop} {dr : DefRec} {C : World → L2.CXT} {arg : Str}
    (h1 : lw.most = some most) (h2 : most ≤ sizeLine) (h3 : dr.params.defaults = []) (h4 : L2.Room k callerA)
    (h5 : ∀ (w : World) (mg : Str → Option Value) (af : Addr) (hp : Heap), YPr w hp → hp.Ns mainGlobals mg → mg dr.name = some (.ref af) →
      ∃ (K : PySem.W.Frag) (fd : FuncData) (sp : L2.Sp), K.In hp ∧ (∀ (s : Shared) (u : Value), BindsTo s fd ⟨[u], []⟩ [(arg, u)]) ∧
        (∀ (H : L2.Hp) (a : Addr) (is : List Int), is.length ≤ most → L2.Only H → L2.SqL K H a (is.map L2.V.int) → sp [.ref a] H (fun v _ => v = .bl true) fun _ _ _ => False) ∧
        ∀ base : Heap, K.In base → base.Ns mainGlobals mg → L2.FnOk lw.prog w K mg base (C w) k af fd [arg] sp)
    (h6 : ∀ (w : World) (H : L2.Hp) (s : Shared) (e : Value) (s' : Shared), C w [] H s (fun _ _ _ => False) e s' → False) :
    PySem.W.WalkO pr ls XPr YPr lw.row.toRowW dr [] (fun f vs => PySem.call f vs) := by
  refine Att.attach_call h1 h3 fun w t0 t1 mg mb af ob pm cd doc aa vs is G Y to td tcd tmg tob tin tlen tg => ?_
  obtain ⟨K, fd, sp, KX, hb, hq, hF⟩ := h5 w mg af _ Y G.T.g tmg
  exact L2.law_call KX G.T.g G.T.b G.T.builtins G.T.nolimit tg tob tin (Nat.le_trans tlen h2) h4 hF hb (fun H hO hS => hq H aa is tlen hO hS) fun H e s' => h6 w H t1 e s'
theorem PySem.Challenge.cw_primepapers_k42_whole_numbers_with_a_roo_holds : PySem.Challenge.rw_primepapers_k42_whole_numbers_with_a_roo.Holds := by
  w_on; o_law
  refine HandSHeadRun.head_any (r := K42.R) (q := view K42.R.prog [K42.R.prog.main.body.length - 1]) (H := K42.hk) (ob := K42.ob) (M := 4000) (loose := K42.names) (d := HandSHeadRun.topDef K42.R.prog (K42.R.prog.main.body.length - 1)) (kwd := []) K42.ob_eq
    (by kernel_rfl) (fun s => by kernel_rfl) K42.run (by kernel_rfl) (by kernel_rfl) (by kernel_rfl) (by rfl) (by first | assumption | decide +kernel) (by decide +kernel) ⟨by kernel_rfl, by kernel_rfl, by kernel_rfl, by kernel_rfl, by kernel_rfl, by decide +kernel⟩ ?hw ?hc
  case hw => w_witness2
  case hc =>
    refine Ev.walk_cx (lw := PySem.Challenge.rw_primepapers_k42_whole_numbers_with_a_roo) (most := 63) (k := 42) (arg := "script") (C := L2.CX (PySem.Challenge.rw_primepapers_k42_whole_numbers_with_a_roo).prog) rfl (by decide) (by kernel_rfl) ⟨rfl, by decide, by decide⟩ ?F (fun _ => Ev.cx_end)
    intro w mg fa h Y G hmg0
    obtain ⟨K, KX, c, b⟩ := Y
    have hmg : mg ("law" : PySem.Str) = some (.ref fa) := by
      have e : (HandSHeadRun.topDef K42.R.prog (K42.R.prog.main.body.length - 1)).name = ("law" : PySem.Str) := by kernel_rfl
      rw [← e]
      exact hmg0
    obtain ⟨fd, hb, hF⟩ := K42.law_fn KX G c b hmg (w := w) (P := (PySem.Challenge.rw_primepapers_k42_whole_numbers_with_a_roo).prog)
    exact ⟨K, fd, Ev.spOf ⟨K, mg, none⟩ 1 K42.p_law, KX, hb, fun H a ns hl ho hS => Ev.law_sp K42.spec_law hl ho hS, fun base _ _ => hF base⟩
