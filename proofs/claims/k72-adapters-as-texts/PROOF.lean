import PyProof.Rows.All
import Wide.All
import OpenK.AllK
import Wide.FinOn
import HandS.ForMost
import HandS.Nested
import HandS.Deep
import HandS.HeadHook1
import HandS.Defaults
import HandS.Property
import HandS.Wide
import HandS.IsInst
import HandS.Text
import HandS.TupAny
import HandS.Steps
import HandS.RaiseMore
import HandS.FStr
import KE.GoesMore
import HandS.Star
import HandS.Codes
import HandS.OwnEq
import PyProof.InstNe
import HandS.HeadHook4
import HandS.Strs
import PySem.Challenge.RW_overparts_k72_adapters_as_texts
import KE.KNestM
import HandS.Head0
import HandS.Head1
import HandS.Head2
import HandS.HeadEnd
import HandS.HeadHook2
import HandS.HeadHook3
import HandS.HeadNt
import HandS.EndTab
import HandS.HeadWalk
import Lean
section
set_option Elab.async false
set_option linter.all false
set_option maxRecDepth 100000
set_option maxHeartbeats 4000000
/-! The data layer, part 0: data, owned trees, states. -/
namespace DL
open PySem PySem.Spec PyProof.Rows L2

/-- data: what a value stands for, with all that it leads to -/
inductive D where
  | non | bl (b : Bool) | int (i : Int) | str (x : Str) | tup (l : List D) | lst (l : List D)
  | dic (l : List (Key × D)) | ins (c : Str) (l : List (Str × D)) | glo (x : Str) | ty (n : String) | sq (l : List D)
/-- owned trees: a value that nobody else holds -/
inductive Sl where
  | d (x : D) | ol (l : List Sl) | od (l : List (Key × Sl)) | oi (c : Str) (l : List (Str × Sl))
mutual
def frz : Sl → D
  | .d x => x
  | .ol l => .lst (frzL l)
  | .od l => .dic (frzK l)
  | .oi C l => .ins C (frzF l)
def frzL : List Sl → List D
  | [] => []
  | s :: r => frz s :: frzL r
def frzK : List (Key × Sl) → List (Key × D)
  | [] => []
  | (k, s) :: r => (k, frz s) :: frzK r
def frzF : List (Str × Sl) → List (Str × D)
  | [] => []
  | (k, s) :: r => (k, frz s) :: frzF r
end
abbrev Env := List (Option Sl)

/-- H' has all that H has -/
def Ex (H H' : Hp) : Prop := ∀ a o, H a = some o → H' a = some o
theorem Ex.refl (H : Hp) : Ex H H := fun _ _ h => h
theorem Ex.trans {H H1 H2 : Hp} (a : Ex H H1) (b : Ex H1 H2) : Ex H H2 := fun x o h => b x o (a x o h)
theorem Ex.new {H : Hp} {p : Addr} {o : HO} (h : H p = none) : Ex H (upd H p o) := fun a u e => by
  rw [upd_ne (ne_of_none e h)]; exact e
theorem Ex.rd {H H' : Hp} {a : Addr} {u : HO} (e : Ex H H') (h : Rd H a u) : Rd H' a u := by
  rcases h with h | ⟨o, h⟩
  · exact .inl (e a _ h)
  · exact .inr ⟨o, e a _ h⟩
theorem Ex.l {K : PySem.W.Frag} {H H' : Hp} {a : Addr} {xs : List V} (e : Ex H H') (h : SqL K H a xs) : SqL K H' a xs := by
  rcases h with h | h
  · exact .inl (e.rd h)
  · exact .inr h
theorem Ex.t {K : PySem.W.Frag} {H H' : Hp} {a : Addr} {xs : List V} (e : Ex H H') (h : SqT K H a xs) : SqT K H' a xs := by
  rcases h with h | h
  · exact .inl (e.rd h)
  · exact .inr h

mutual
/-- in the heap B the value stands for the data -/
inductive Is (K : PySem.W.Frag) (B : Hp) : V → D → Prop
  | non : Is K B .non .non
  | bl (b : Bool) : Is K B (.bl b) (.bl b)
  | int (i : Int) : Is K B (.int i) (.int i)
  | str (x : Str) : Is K B (.str x) (.str x)
  | glo (x : Str) : Is K B (.ref (He.ga K x)) (.glo x)
  | ty (n : String) : Is K B (.ty n) (.ty n)
  | tup {a : Addr} {xs : List V} {l : List D} : SqT K B a xs → IsAll K B xs l → Is K B (.ref a) (.tup l)
  | lst {a : Addr} {xs : List V} {l : List D} : B a = some (.lst xs) → IsAll K B xs l → Is K B (.ref a) (.lst l)
  | sq {a : Addr} {xs : List V} {l : List D} : SqL K B a xs → IsAll K B xs l → Is K B (.ref a) (.sq l)
  | dic {a : Addr} {kvs : List (Key × V)} {l : List (Key × D)} : B a = some (.dK kvs) → kvs.map Prod.fst = l.map Prod.fst → IsAll K B (kvs.map Prod.snd) (l.map Prod.snd) → Is K B (.ref a) (.dic l)
  | ins {a dx : Addr} {c : Str} {fs : List (Str × V)} {l : List (Str × D)} : B a = some (.ins (He.ga K c) dx fs) → B dx = some (.own a) → fs.map Prod.fst = l.map Prod.fst → IsAll K B (fs.map Prod.snd) (l.map Prod.snd) → Is K B (.ref a) (.ins c l)
inductive IsAll (K : PySem.W.Frag) (B : Hp) : List V → List D → Prop
  | nil : IsAll K B [] []
  | cons {v : V} {vs : List V} {d : D} {ds : List D} : Is K B v d → IsAll K B vs ds → IsAll K B (v :: vs) (d :: ds)
end
mutual
theorem Is.mono {K : PySem.W.Frag} {B B' : Hp} (e : Ex B B') : ∀ {v : V} {d : D}, Is K B v d → Is K B' v d
  | _, _, .non => .non
  | _, _, .bl b => .bl b
  | _, _, .int i => .int i
  | _, _, .str x => .str x
  | _, _, .glo x => .glo x
  | _, _, .ty n => .ty n
  | _, _, .tup h1 h2 => .tup (e.t h1) (IsAll.mono e h2)
  | _, _, .lst h1 h2 => .lst (e _ _ h1) (IsAll.mono e h2)
  | _, _, .dic h1 h2 h3 => .dic (e _ _ h1) h2 (IsAll.mono e h3)
  | _, _, .sq h1 h2 => .sq (e.l h1) (IsAll.mono e h2)
  | _, _, .ins h1 h2 h3 h4 => .ins (e _ _ h1) (e _ _ h2) h3 (IsAll.mono e h4)
theorem IsAll.mono {K : PySem.W.Frag} {B B' : Hp} (e : Ex B B') : ∀ {vs : List V} {ds : List D}, IsAll K B vs ds → IsAll K B' vs ds
  | _, _, .nil => .nil
  | _, _, .cons h1 h2 => .cons (Is.mono e h1) (IsAll.mono e h2)
end
mutual
/-- in B and H the value is the owned tree; the addresses that it owns -/
inductive Ow (K : PySem.W.Frag) (B H : Hp) : V → Sl → List Addr → Prop
  | d {v : V} {x : D} : Is K B v x → Ow K B H v (.d x) []
  | ol {a : Addr} {xs : List V} {l : List Sl} {F : List Addr} : H a = some (.lst xs) → a ∉ F → OwAll K B H xs l F → Ow K B H (.ref a) (.ol l) (a :: F)
  | od {a : Addr} {kvs : List (Key × V)} {l : List (Key × Sl)} {F : List Addr} : H a = some (.dK kvs) → a ∉ F → kvs.map Prod.fst = l.map Prod.fst → OwAll K B H (kvs.map Prod.snd) (l.map Prod.snd) F → Ow K B H (.ref a) (.od l) (a :: F)
  | oi {a dx : Addr} {c : Str} {fs : List (Str × V)} {l : List (Str × Sl)} {F : List Addr} : H a = some (.ins (He.ga K c) dx fs) → H dx = some (.own a) → a ∉ F → dx ∉ F → fs.map Prod.fst = l.map Prod.fst → OwAll K B H (fs.map Prod.snd) (l.map Prod.snd) F → Ow K B H (.ref a) (.oi c l) (a :: dx :: F)
inductive OwAll (K : PySem.W.Frag) (B H : Hp) : List V → List Sl → List Addr → Prop
  | nil : OwAll K B H [] [] []
  | cons {v : V} {vs : List V} {s : Sl} {ss : List Sl} {F G : List Addr} : Ow K B H v s F → OwAll K B H vs ss G → (∀ a, a ∈ F → a ∉ G) → OwAll K B H (v :: vs) (s :: ss) (F ++ G)
end
theorem IsAll.length {K : PySem.W.Frag} {B : Hp} : ∀ {vs : List V} {ds : List D}, IsAll K B vs ds → vs.length = ds.length
  | _, _, .nil => rfl
  | _, _, .cons _ t => by rw [List.length_cons, List.length_cons, IsAll.length t]
theorem OwAll.length {K : PySem.W.Frag} {B H : Hp} : ∀ {vs : List V} {ss : List Sl} {F : List Addr}, OwAll K B H vs ss F → vs.length = ss.length
  | _, _, _, .nil => rfl
  | _, _, _, .cons _ t _ => by rw [List.length_cons, List.length_cons, OwAll.length t]
theorem IsAll.get {K : PySem.W.Frag} {B : Hp} : ∀ {vs : List V} {ds : List D} {i : Nat} {d : D}, IsAll K B vs ds → ds[i]? = some d → ∃ v, vs[i]? = some v ∧ Is K B v d
  | _, _, _, _, .nil, e => by simp at e
  | _, _, 0, _, .cons h _, e => by simp at e; subst e; exact ⟨_, rfl, h⟩
  | _, _, i + 1, d, .cons _ t, e => by
    obtain ⟨v, h1, h2⟩ := IsAll.get (i := i) (d := d) t (by simpa using e)
    exact ⟨v, by simpa using h1, h2⟩
theorem IsAll.of_get {K : PySem.W.Frag} {B : Hp} : ∀ {vs : List V} {ds : List D} {i : Nat} {v : V}, IsAll K B vs ds → vs[i]? = some v → ∃ d, ds[i]? = some d ∧ Is K B v d
  | _, _, _, _, .nil, e => by simp at e
  | _, _, 0, _, .cons h _, e => by simp at e; subst e; exact ⟨_, rfl, h⟩
  | _, _, i + 1, d, .cons _ t, e => by
    obtain ⟨v, h1, h2⟩ := IsAll.of_get (i := i) t (by simpa using e)
    exact ⟨v, by simpa using h1, h2⟩
/-- what may stand at an owned address -/
def Ownable : HO → Prop
  | .lst _ => True
  | .dK _ => True
  | .ins _ _ _ => True
  | .own _ => True
  | _ => False
section
variable {K : PySem.W.Frag} {B B' H H' : Hp}
mutual
theorem Ow.there : ∀ {v : V} {s : Sl} {F : List Addr}, Ow K B H v s F → ∀ a, a ∈ F → ∃ o, H a = some o ∧ Ownable o
  | _, _, _, .d _, a, h => by cases h
  | _, _, _, .ol h1 _ h3, a, h => by
    rcases List.mem_cons.mp h with e | h
    · rw [e]; exact ⟨_, h1, trivial⟩
    · exact OwAll.there h3 a h
  | _, _, _, .od h1 _ _ h3, a, h => by
    rcases List.mem_cons.mp h with e | h
    · rw [e]; exact ⟨_, h1, trivial⟩
    · exact OwAll.there h3 a h
  | _, _, _, .oi h1 h2 _ _ _ h3, a, h => by
    rcases List.mem_cons.mp h with e | h
    · rw [e]; exact ⟨_, h1, trivial⟩
    · rcases List.mem_cons.mp h with e | h
      · rw [e]; exact ⟨_, h2, trivial⟩
      · exact OwAll.there h3 a h
theorem OwAll.there : ∀ {vs : List V} {ss : List Sl} {F : List Addr}, OwAll K B H vs ss F → ∀ a, a ∈ F → ∃ o, H a = some o ∧ Ownable o
  | _, _, _, .nil, a, h => by cases h
  | _, _, _, .cons h1 h2 _, a, h => by
    rcases List.mem_append.mp h with h | h
    · exact Ow.there h1 a h
    · exact OwAll.there h2 a h
end
mutual
theorem Ow.mono (e : Ex B B') : ∀ {v : V} {s : Sl} {F : List Addr}, Ow K B H v s F → (∀ a o, a ∈ F → H a = some o → H' a = some o) → Ow K B' H' v s F
  | _, _, _, .d h, _ => .d (h.mono e)
  | _, _, _, .ol h1 h2 h3, k => .ol (k _ _ List.mem_cons_self h1) h2 (OwAll.mono e h3 fun a o h => k a o (List.mem_cons_of_mem _ h))
  | _, _, _, .od h1 h2 h3 h4, k => .od (k _ _ List.mem_cons_self h1) h2 h3 (OwAll.mono e h4 fun a o h => k a o (List.mem_cons_of_mem _ h))
  | _, _, _, .oi h1 h2 h3 h4 h5 h6, k => .oi (k _ _ List.mem_cons_self h1) (k _ _ (List.mem_cons_of_mem _ List.mem_cons_self) h2) h3 h4 h5 (OwAll.mono e h6 fun a o h => k a o (List.mem_cons_of_mem _ (List.mem_cons_of_mem _ h)))
theorem OwAll.mono (e : Ex B B') : ∀ {vs : List V} {ss : List Sl} {F : List Addr}, OwAll K B H vs ss F → (∀ a o, a ∈ F → H a = some o → H' a = some o) → OwAll K B' H' vs ss F
  | _, _, _, .nil, _ => .nil
  | _, _, _, .cons h1 h2 h3, k => .cons (Ow.mono e h1 fun a o h => k a o (List.mem_append_left _ h)) (OwAll.mono e h2 fun a o h => k a o (List.mem_append_right _ h)) h3
end
theorem frzL_eq : ∀ l : List Sl, frzL l = l.map frz
  | [] => rfl
  | s :: r => by unfold frzL; rw [frzL_eq r]; rfl
theorem frzK_eq : ∀ l : List (Key × Sl), frzK l = l.map fun p => (p.1, frz p.2)
  | [] => rfl
  | (k, s) :: r => by unfold frzK; rw [frzK_eq r]; rfl
theorem frzF_eq : ∀ l : List (Str × Sl), frzF l = l.map fun p => (p.1, frz p.2)
  | [] => rfl
  | (k, s) :: r => by unfold frzF; rw [frzF_eq r]; rfl
mutual
/-- an owned tree is let go: it is data in any heap that has what it owns -/
theorem Ow.frz (e : Ex B B') : ∀ {v : V} {s : Sl} {F : List Addr}, Ow K B H v s F → (∀ a o, a ∈ F → H a = some o → B' a = some o) → Is K B' v (DL.frz s)
  | _, _, _, .d h, _ => by unfold DL.frz; exact h.mono e
  | _, _, _, .ol h1 h2 h3, k => by unfold DL.frz; exact .lst (k _ _ List.mem_cons_self h1) (OwAll.frz e h3 fun a o h => k a o (List.mem_cons_of_mem _ h))
  | _, _, _, .od (l := l) h1 h2 h3 h4, k => by
    unfold DL.frz
    refine .dic (k _ _ List.mem_cons_self h1) ?_ ?_
    · rw [h3, frzK_eq, List.map_map]; rfl
    · have q := OwAll.frz e h4 fun a o h => k a o (List.mem_cons_of_mem _ h)
      rw [frzL_eq, List.map_map] at q
      rw [frzK_eq, List.map_map]; exact q
  | _, _, _, .oi (l := l) h1 h2 h3 h4 h5 h6, k => by
    unfold DL.frz
    refine .ins (k _ _ List.mem_cons_self h1) (k _ _ (List.mem_cons_of_mem _ List.mem_cons_self) h2) ?_ ?_
    · rw [h5, frzF_eq, List.map_map]; rfl
    · have q := OwAll.frz e h6 fun a o h => k a o (List.mem_cons_of_mem _ (List.mem_cons_of_mem _ h))
      rw [frzL_eq, List.map_map] at q
      rw [frzF_eq, List.map_map]; exact q
theorem OwAll.frz (e : Ex B B') : ∀ {vs : List V} {ss : List Sl} {F : List Addr}, OwAll K B H vs ss F → (∀ a o, a ∈ F → H a = some o → B' a = some o) → IsAll K B' vs (frzL ss)
  | _, _, _, .nil, _ => by unfold frzL; exact .nil
  | _, _, _, .cons h1 h2 h3, k => by
    unfold frzL
    exact .cons (Ow.frz e h1 fun a o h => k a o (List.mem_append_left _ h)) (OwAll.frz e h2 fun a o h => k a o (List.mem_append_right _ h))
end
/-- B with what H has at F -/
noncomputable def ad (B H : Hp) (F : List Addr) : Hp := fun a => if a ∈ F then H a else B a
theorem ad_in {F : List Addr} {a : Addr} {o : HO} (h : a ∈ F) (e : H a = some o) : ad B H F a = some o := by unfold ad; rw [if_pos h]; exact e
theorem ad_ex {F : List Addr} (e : Ex B H) : Ex B (ad B H F) := fun a o h => by
  unfold ad
  split
  · exact e a o h
  · exact h
theorem ad_le {F : List Addr} (e : Ex B H) : Ex (ad B H F) H := fun a o h => by
  unfold ad at h
  split at h
  · exact h
  · exact e a o h
theorem ad_none {F : List Addr} {a : Addr} (h1 : B a = none) (h2 : a ∉ F) : ad B H F a = none := by unfold ad; rw [if_neg h2]; exact h1
theorem ad_some {F : List Addr} {a : Addr} (h : ad B H F a ≠ none) : B a ≠ none ∨ a ∈ F := by
  unfold ad at h
  split at h
  · exact .inr (by assumption)
  · exact .inl h
end
end DL

end
section
set_option Elab.async false
set_option linter.all false
set_option autoImplicit false
set_option maxRecDepth 100000
set_option maxHeartbeats 4000000
/-! The data layer, part 1: states, readings, expressions. -/
namespace DL
open PySem PySem.Spec L2 NdefX

/-! ### results -/
inductive Res (α : Type) where
  | ok (a : α) (ρ : Env)
  | exc (c : Str) (fs : List (Str × D)) (ρ : Env)
  | fail
abbrev M (α : Type) := Env → Res α
def M.pure {α : Type} (a : α) : M α := fun ρ => .ok a ρ
def M.bind {α β : Type} (g : M α) (k : α → M β) : M β := fun ρ => match g ρ with
  | .ok a ρ' => k a ρ'
  | .exc c fs ρ' => .exc c fs ρ'
  | .fail => .fail
/-- a plain partial function's answer -/
def M.of {α : Type} (o : Option α) : M α := fun ρ => match o with
  | some a => .ok a ρ
  | none => .fail

def NoT (B : Hp) : Prop := ∀ a ps, B a ≠ some (.tbl ps)
theorem NoT.upd {B : Hp} {p : Addr} {o : HO} (n : NoT B) (h : ∀ ps, o ≠ .tbl ps) : NoT (upd B p o) := fun a ps e => by
  unfold L2.upd at e
  split at e
  · exact h ps (Option.some.inj e)
  · exact n a ps e
/-! ### states -/
structure SR (T : List NTab) (K : PySem.W.Frag) (ρ : Env) (σ : St) (H B : Hp) (Fs : Nat → List Addr) : Prop where
  ex : Ex B H
  tabs : TabsN T H
  noT : NoT B
  slot : ∀ i s, ρ[i]? = some (some s) → ∃ v, σ[i]? = some (some v) ∧ Ow K B H v s (Fs i)
  off : ∀ i, (∀ s, ρ[i]? ≠ some (some s)) → Fs i = []
  apart : ∀ i j a, i ≠ j → a ∈ Fs i → a ∉ Fs j
  offB : ∀ i a, a ∈ Fs i → B a = none
def Own (Fs : Nat → List Addr) (a : Addr) : Prop := ∃ i, a ∈ Fs i
/-- nothing that may be owned stands there -/
def NOwn (H : Hp) (a : Addr) : Prop := ∀ o, H a = some o → ¬ Ownable o
theorem nown {H : Hp} {a : Addr} (h : H a = none) : NOwn H a := fun o e => by rw [h] at e; cases e
/-- nothing stands there but a table of code objects -/
def NT (H : Hp) (a : Addr) : Prop := ∀ o, H a = some o → ∃ ps, o = .tbl ps
theorem nt {H : Hp} {a : Addr} (h : H a = none) : NT H a := fun o e => by rw [h] at e; cases e
theorem NT.no {H : Hp} {a : Addr} {o : HO} (z : NT H a) (h : H a = some o) (own : Ownable o) : False := by
  obtain ⟨ps, e⟩ := z o h
  rw [e] at own; exact own
theorem NT.not {H : Hp} {a : Addr} {o : HO} (z : NT H a) (h : H a = some o) (n : ∀ ps, o ≠ .tbl ps) : False := by
  obtain ⟨ps, e⟩ := z o h
  exact n ps e
theorem NT.nown {H : Hp} {a : Addr} (z : NT H a) : NOwn H a := fun o h own => z.no h own
structure Step (H B : Hp) (F : Addr → Prop) (H' B' : Hp) (F' : Addr → Prop) : Prop where
  keep : ∀ a o, ¬ F a → (∀ ps, o ≠ .tbl ps) → H a = some o → H' a = some o
  there : ∀ a, H a ≠ none → H a ≠ none
  ex : Ex B B'
  newB : ∀ a, B' a ≠ none → B a ≠ none ∨ NOwn H a ∨ F a
  newF : ∀ a, F' a → F a ∨ NT H a
section
variable {T : List NTab} {K : PySem.W.Frag} {ρ : Env} {σ : St} {H B H' B' H1 B1 H2 B2 : Hp} {Fs : Nat → List Addr} {F F1 F2 F' : Addr → Prop}
theorem Step.refl : Step H B F H B F := ⟨fun _ _ _ _ e => e, fun _ e => e, Ex.refl B, fun _ e => .inl e, fun _ e => .inl e⟩
theorem Step.back (s : Step H B F H1 B1 F1) {a : Addr} (h : NT H1 a) : F a ∨ NT H a := by
  by_cases hF : F a
  · exact .inl hF
  · refine .inr fun o e => ?_
    by_cases ht : ∃ ps, o = .tbl ps
    · exact ht
    · exact h o (s.keep a o hF (fun ps z => ht ⟨ps, z⟩) e)
theorem Step.trans (s1 : Step H B F H1 B1 F1) (s2 : Step H1 B1 F1 H2 B2 F2) : Step H B F H2 B2 F2 := by
  refine ⟨fun a o hF ht e => ?_, fun a e => e, s1.ex.trans s2.ex, fun a e => ?_, fun a e => ?_⟩
  · refine s2.keep a o (fun z => ?_) ht (s1.keep a o hF ht e)
    rcases s1.newF a z with z | z
    · exact hF z
    · exact z.not e ht
  · rcases s2.newB a e with z | z | z
    · exact s1.newB a z
    · by_cases hF : F a
      · exact .inr (.inr hF)
      · exact .inr (.inl fun o q own => z o (s1.keep a o hF (fun ps r => by rw [r] at own; exact own) q) own)
    · rcases s1.newF a z with z | z
      · exact .inr (.inr z)
      · exact .inr (.inl z.nown)
  · rcases s2.newF a e with z | z
    · exact s1.newF a z
    · exact s1.back z
theorem Step.congr (s : Step H B F H1 B1 F1) (h : ∀ a, F a ↔ F2 a) (h1 : ∀ a, F' a → F1 a) : Step H B F2 H1 B1 F' :=
  ⟨fun a o n t e => s.keep a o (fun z => n ((h a).mp z)) t e, s.there, s.ex, fun a e => (s.newB a e).elim .inl fun z => .inr (z.elim .inl fun z => .inr ((h a).mp z)), fun a e => (s.newF a (h1 a e)).elim (fun z => .inl ((h a).mp z)) .inr⟩
/-- the heap grows by new objects, B with them -/
structure Grow (H B H' B' : Hp) : Prop where
  ex : Ex H H'
  le : Ex B' H'
  exB : Ex B B'
  newB : ∀ a, B' a ≠ none → B a ≠ none ∨ H a = none
  noT : NoT B'
theorem Grow.refl (h : Ex B H) (n : NoT B) : Grow H B H B := ⟨Ex.refl H, h, Ex.refl B, fun _ e => .inl e, n⟩
theorem Grow.new {p : Addr} {o : HO} (h : Ex B H) (n : NoT B) (hp : H p = none) (ho : ∀ ps, o ≠ .tbl ps) : Grow H B (upd H p o) (upd B p o) := by
  have hB : B p = none := by
    cases e : B p with
    | none => rfl
    | some u => rw [h _ _ e] at hp; cases hp
  refine ⟨Ex.new hp, fun a u e => ?_, Ex.new hB, fun a e => ?_, n.upd ho⟩
  · by_cases z : a = p
    · subst z; rw [upd_same] at e ⊢; exact e
    · rw [upd_ne z] at e ⊢; exact h a u e
  · by_cases z : a = p
    · subst z; exact .inr hp
    · rw [upd_ne z] at e; exact .inl e
/-- a new object that is not let go -/
theorem Grow.own {p : Addr} {o : HO} (h : Ex B H) (n : NoT B) (hp : H p = none) : Grow H B (upd H p o) B :=
  ⟨Ex.new hp, h.trans (Ex.new hp), Ex.refl B, fun _ e => .inl e, n⟩
theorem Grow.trans (a : Grow H B H1 B1) (b : Grow H1 B1 H2 B2) : Grow H B H2 B2 := by
  refine ⟨a.ex.trans b.ex, b.le, a.exB.trans b.exB, fun x e => ?_, b.noT⟩
  rcases b.newB x e with z | z
  · exact a.newB x z
  · refine .inr ?_
    cases q : H x with
    | none => rfl
    | some o => rw [a.ex _ _ q] at z; cases z
theorem Grow.step (g : Grow H B H' B') : Step H B F H' B' F :=
  ⟨fun a o _ _ e => g.ex a o e, (fun _ e => e), g.exB, fun a e => (g.newB a e).elim .inl fun z => .inr (.inl (nown z)), fun _ e => .inl e⟩
theorem SR.grow (s : SR T K ρ σ H B Fs) (g : Grow H B H' B') : SR T K ρ σ H' B' Fs := by
  refine ⟨g.le, s.tabs.ext g.ex, g.noT, fun i t e => ?_, s.off, s.apart, fun i a ha => ?_⟩
  · obtain ⟨v, h1, h2⟩ := s.slot i t e
    exact ⟨v, h1, h2.mono g.exB fun a o _ q => g.ex a o q⟩
  · cases q : B' a with
    | none => rfl
    | some o =>
      rcases g.newB a (by rw [q]; simp) with z | z
      · exact absurd (s.offB i a ha) z
      · obtain ⟨w, hw⟩ : ∃ w, ρ[i]? = some (some w) := by
          cases e : ρ[i]? with
          | none => rw [s.off i (fun w z => by rw [e] at z; cases z)] at ha; cases ha
          | some x => cases x with
            | none => rw [s.off i (fun w z => by rw [e] at z; cases z)] at ha; cases ha
            | some w => exact ⟨w, rfl⟩
        obtain ⟨v, _, h2⟩ := s.slot i w hw
        obtain ⟨u, hu, _⟩ := h2.there a ha
        rw [z] at hu; cases hu
theorem SR.live (s : SR T K ρ σ H B Fs) {i : Nat} {a : Addr} (ha : a ∈ Fs i) : ∃ w v, ρ[i]? = some (some w) ∧ σ[i]? = some (some v) ∧ Ow K B H v w (Fs i) := by
  obtain ⟨w, hw⟩ : ∃ w, ρ[i]? = some (some w) := by
    cases e : ρ[i]? with
    | none => rw [s.off i (fun w z => by rw [e] at z; cases z)] at ha; cases ha
    | some x => cases x with
      | none => rw [s.off i (fun w z => by rw [e] at z; cases z)] at ha; cases ha
      | some w => exact ⟨w, rfl⟩
  obtain ⟨v, h1, h2⟩ := s.slot i w hw
  exact ⟨w, v, hw, h1, h2⟩
theorem SR.alive (s : SR T K ρ σ H B Fs) {i : Nat} {a : Addr} (ha : a ∈ Fs i) : ∃ o, H a = some o ∧ Ownable o := by
  obtain ⟨_, _, _, _, h⟩ := s.live ha
  exact h.there a ha
end

def setF (Fs : Nat → List Addr) (i : Nat) (G : List Addr) : Nat → List Addr := fun j => if j = i then G else Fs j
theorem setF_same {Fs : Nat → List Addr} {i : Nat} {G : List Addr} : setF Fs i G i = G := if_pos rfl
theorem setF_ne {Fs : Nat → List Addr} {i j : Nat} {G : List Addr} (h : j ≠ i) : setF Fs i G j = Fs j := if_neg h
theorem own_setF {Fs : Nat → List Addr} {i : Nat} {G : List Addr} {a : Addr} (h : Own (setF Fs i G) a) : a ∈ G ∨ Own Fs a := by
  obtain ⟨j, hj⟩ := h
  by_cases z : j = i
  · subst z; rw [setF_same] at hj; exact .inl hj
  · rw [setF_ne z] at hj; exact .inr ⟨j, hj⟩
/-- one slot is given a new content -/
theorem SR.put {T : List NTab} {K : PySem.W.Frag} {ρ : Env} {σ σ' : St} {H B H' B' : Hp} {Fs : Nat → List Addr} {i : Nat} {o : Option Sl} {G : List Addr} (s : SR T K ρ σ H B Fs) (ilt : i < ρ.length)
    (hσ : ∀ j, j ≠ i → σ'[j]? = σ[j]?) (new : ∀ t, o = some t → ∃ v, σ'[i]? = some (some v) ∧ Ow K B' H' v t G) (gone : o = none → G = [])
    (exB : Ex B B') (le : Ex B' H') (tabs : TabsN T H') (noT : NoT B') (kept : ∀ j a u, j ≠ i → a ∈ Fs j → H a = some u → H' a = some u)
    (ap : ∀ a, a ∈ G → (∀ j, j ≠ i → a ∉ Fs j) ∧ B' a = none) (off : ∀ j a, j ≠ i → a ∈ Fs j → B' a = none) : SR T K (ρ.set i o) σ' H' B' (setF Fs i G) := by
  refine ⟨le, tabs, noT, fun j u hu => ?_, fun j hj => ?_, fun j k a hjk ha => ?_, fun j a ha => ?_⟩
  · by_cases hj : j = i
    · subst hj
      rw [List.getElem?_set_self ilt] at hu
      rw [setF_same]
      exact new u (Option.some.inj hu)
    · rw [List.getElem?_set_ne (Ne.symm hj)] at hu
      obtain ⟨w, q1, q2⟩ := s.slot j u hu
      rw [setF_ne hj]
      exact ⟨w, (hσ j hj).trans q1, q2.mono exB fun a u ha q => kept j a u hj ha q⟩
  · by_cases hj' : j = i
    · subst hj'
      rw [setF_same]
      cases o with
      | none => exact gone rfl
      | some t => exact absurd (List.getElem?_set_self ilt) (hj t)
    · rw [setF_ne hj']
      exact s.off j fun w hw => hj w (by rw [List.getElem?_set_ne (Ne.symm hj')]; exact hw)
  · by_cases hj : j = i
    · subst hj
      rw [setF_same] at ha
      rw [setF_ne (Ne.symm hjk)]
      exact (ap a ha).1 k (Ne.symm hjk)
    · rw [setF_ne hj] at ha
      by_cases hk : k = i
      · subst hk
        rw [setF_same]
        exact fun z => (ap a z).1 j hj ha
      · rw [setF_ne hk]; exact s.apart j k a hjk ha
  · by_cases hj : j = i
    · subst hj; rw [setF_same] at ha; exact (ap a ha).2
    · rw [setF_ne hj] at ha; exact off j a hj ha

/-! ### readings -/
def excAt (K : PySem.W.Frag) (B H : Hp) (c : Str) (fs : List (Str × D)) (cls : Value) (dx : Option Addr) : Prop :=
  cls = .ref (He.ga K c) ∧ ((fs = [] ∧ dx = none) ∨ ∃ d vs, dx = some d ∧ H d = some (.xd vs) ∧ vs.map Prod.fst = fs.map Prod.fst ∧ IsAll K B (vs.map Prod.snd) (fs.map Prod.snd))
section
variable (T : List NTab) (K : PySem.W.Frag)
/-- what is wanted of an exception -/
def postX (W : XK) (c : Str) (fs : List (Str × D)) (ρ : Env) (σ : St) (H B : Hp) (F : Addr → Prop) : Prop :=
  ∀ cls dx H' B' Fs', SR T K ρ σ H' B' Fs' → excAt K B' H' c fs cls dx → Step H B F H' B' (Own Fs') → W cls dx H'
/-- an answer that is data -/
def postD (W : XK) (r : Res D) (σ : St) (H B : Hp) (F : Addr → Prop) (Q : VK) : Prop := match r with
  | .ok d ρ => ∀ v H' B' Fs', SR T K ρ σ H' B' Fs' → Is K B' v d → Step H B F H' B' (Own Fs') → Q v H'
  | .exc c fs ρ => postX T K W c fs ρ σ H B F
  | .fail => False
/-- temporaries stand apart from the slots and the data -/
def Off (B : Hp) (Fs : Nat → List Addr) (Fr : List Addr) : Prop := ∀ a, a ∈ Fr → (∀ i, a ∉ Fs i) ∧ B a = none
def postO (W : XK) (r : Res Sl) (σ : St) (H B : Hp) (F : Addr → Prop) (Q : VK) : Prop := match r with
  | .ok s ρ => ∀ v H' B' Fs' Fr, SR T K ρ σ H' B' Fs' → Ow K B' H' v s Fr → Off B' Fs' Fr → Step H B F H' B' (fun a => Own Fs' a ∨ a ∈ Fr) → Q v H'
  | .exc c fs ρ => postX T K W c fs ρ σ H B F
  | .fail => False
def postA (W : XK) (r : Res (List Sl)) (σ : St) (H B : Hp) (F : Addr → Prop) (Q : List V → Hp → Prop) : Prop := match r with
  | .ok ss ρ => ∀ vs H' B' Fs' Fr, SR T K ρ σ H' B' Fs' → OwAll K B' H' vs ss Fr → Off B' Fs' Fr → Step H B F H' B' (fun a => Own Fs' a ∨ a ∈ Fr) → Q vs H'
  | .exc c fs ρ => postX T K W c fs ρ σ H B F
  | .fail => False
def postAD (W : XK) (r : Res (List D)) (σ : St) (H B : Hp) (F : Addr → Prop) (Q : List V → Hp → Prop) : Prop := match r with
  | .ok ds ρ => ∀ vs H' B' Fs', SR T K ρ σ H' B' Fs' → IsAll K B' vs ds → Step H B F H' B' (Own Fs') → Q vs H'
  | .exc c fs ρ => postX T K W c fs ρ σ H B F
  | .fail => False
def postT (W : XK) (r : Res Bool) (σ : St) (H B : Hp) (F : Addr → Prop) (Q : Bool → Hp → Prop) : Prop := match r with
  | .ok b ρ => ∀ H' B' Fs', SR T K ρ σ H' B' Fs' → Step H B F H' B' (Own Fs') → Q b H'
  | .exc c fs ρ => postX T K W c fs ρ σ H B F
  | .fail => False
def tD (W : St → XK) (g : M D) : TE := fun σ H Q => ∃ ρ B Fs, SR T K ρ σ H B Fs ∧ postD T K (W σ) (g ρ) σ H B (Own Fs) Q
def tO (W : St → XK) (g : M Sl) : TE := fun σ H Q => ∃ ρ B Fs, SR T K ρ σ H B Fs ∧ postO T K (W σ) (g ρ) σ H B (Own Fs) Q
def tA (W : St → XK) (g : M (List Sl)) : TA := fun σ H Q => ∃ ρ B Fs, SR T K ρ σ H B Fs ∧ postA T K (W σ) (g ρ) σ H B (Own Fs) Q
def tAD (W : St → XK) (g : M (List D)) : TA := fun σ H Q => ∃ ρ B Fs, SR T K ρ σ H B Fs ∧ postAD T K (W σ) (g ρ) σ H B (Own Fs) Q
def tT (W : St → XK) (g : M Bool) : TT := fun σ H Q => ∃ ρ B Fs, SR T K ρ σ H B Fs ∧ postT T K (W σ) (g ρ) σ H B (Own Fs) Q
end
abbrev ED (T : List NTab) (W : St → XK) (X : Cx) (e : Expr) (g : M D) : Prop := PE X e (tD T X.K W g)
abbrev EO (T : List NTab) (W : St → XK) (X : Cx) (e : Expr) (g : M Sl) : Prop := PE X e (tO T X.K W g)
abbrev ET (T : List NTab) (W : St → XK) (X : Cx) (e : Expr) (g : M Bool) : Prop := PT X e (tT T X.K W g)
abbrev EA (T : List NTab) (W : St → XK) (X : Cx) (es : List Expr) (g : M (List Sl)) : Prop := PA X es (tA T X.K W g)
abbrev EAD (T : List NTab) (W : St → XK) (X : Cx) (es : List Expr) (g : M (List D)) : Prop := PA X es (tAD T X.K W g)

section
variable {X : Cx} {e : Expr} {es : List Expr} {t t' : TE} {st : Stmt} {sts : List Stmt}
theorem pe_imp (h : PE X e t) (i : ∀ σ H Q, t' σ H Q → t σ H Q) : PE X e t' := ⟨fun pins s σ H Q I w => h.run pins s σ H Q I (i _ _ _ w)⟩
theorem pt_imp {t t' : TT} (h : PT X e t) (i : ∀ σ H Q, t' σ H Q → t σ H Q) : PT X e t' := ⟨fun pins s σ H Q I w => h.run pins s σ H Q I (i _ _ _ w)⟩
theorem pa_imp {t t' : TA} (h : PA X es t) (i : ∀ σ H Q, t' σ H Q → t σ H Q) : PA X es t' := ⟨fun pos pins s σ H Q I w => h.run pos pins s σ H Q I (i _ _ _ w)⟩
theorem ps_imp {t t' : TS} (h : PS X st t) (i : ∀ D σ H, t' D σ H → t D σ H) : PS X st t' := ⟨fun pins s σ H D I w => h.run pins s σ H D I (i _ _ _ w)⟩
theorem pss_imp {t t' : TS} (h : PSs X sts t) (i : ∀ D σ H, t' D σ H → t D σ H) : PSs X sts t' := ⟨fun pins s σ H D I w => h.run pins s σ H D I (i _ _ _ w)⟩
end

/-! ### how posts go on -/
section
variable {T : List NTab} {K : PySem.W.Frag} {W : St → XK} {ρ : Env} {σ : St} {H B H1 B1 : Hp} {Fs : Nat → List Addr} {F F1 : Addr → Prop}
theorem postX.from {W : XK} {c : Str} {fs : List (Str × D)} (s : Step H B F H1 B1 F1) (h : postX T K W c fs ρ σ H B F) : postX T K W c fs ρ σ H1 B1 F1 := fun cls dx H' B' Fs' h1 h2 h3 => h cls dx H' B' Fs' h1 h2 (s.trans h3)
theorem postD.from {W : XK} {r : Res D} {Q : VK} (s : Step H B F H1 B1 F1) (h : postD T K W r σ H B F Q) : postD T K W r σ H1 B1 F1 Q := by
  cases r with
  | ok d ρ => exact fun v H' B' Fs' h1 h2 h3 => h v H' B' Fs' h1 h2 (s.trans h3)
  | exc c fs ρ => exact postX.from s h
  | fail => exact h
theorem postO.from {W : XK} {r : Res Sl} {Q : VK} (s : Step H B F H1 B1 F1) (h : postO T K W r σ H B F Q) : postO T K W r σ H1 B1 F1 Q := by
  cases r with
  | ok d ρ => exact fun v H' B' Fs' Fr h1 h2 h3 h4 => h v H' B' Fs' Fr h1 h2 h3 (s.trans h4)
  | exc c fs ρ => exact postX.from s h
  | fail => exact h
theorem postT.from {W : XK} {r : Res Bool} {Q : Bool → Hp → Prop} (s : Step H B F H1 B1 F1) (h : postT T K W r σ H B F Q) : postT T K W r σ H1 B1 F1 Q := by
  cases r with
  | ok d ρ => exact fun H' B' Fs' h1 h3 => h H' B' Fs' h1 (s.trans h3)
  | exc c fs ρ => exact postX.from s h
  | fail => exact h
theorem postA.from {W : XK} {r : Res (List Sl)} {Q : List V → Hp → Prop} (s : Step H B F H1 B1 F1) (h : postA T K W r σ H B F Q) : postA T K W r σ H1 B1 F1 Q := by
  cases r with
  | ok d ρ => exact fun v H' B' Fs' Fr h1 h2 h3 h4 => h v H' B' Fs' Fr h1 h2 h3 (s.trans h4)
  | exc c fs ρ => exact postX.from s h
  | fail => exact h
theorem postAD.from {W : XK} {r : Res (List D)} {Q : List V → Hp → Prop} (s : Step H B F H1 B1 F1) (h : postAD T K W r σ H B F Q) : postAD T K W r σ H1 B1 F1 Q := by
  cases r with
  | ok d ρ => exact fun v H' B' Fs' h1 h2 h4 => h v H' B' Fs' h1 h2 (s.trans h4)
  | exc c fs ρ => exact postX.from s h
  | fail => exact h
/-- what a post is, as a predicate over answers that each bind shares: P r H B F -/
structure PostLike (T : List NTab) (K : PySem.W.Frag) (W : XK) (σ : St) {β : Type} (P : Res β → Hp → Hp → (Addr → Prop) → Prop) : Prop where
  from_ : ∀ {r H B F H1 B1 F1}, Step H B F H1 B1 F1 → P r H B F → P r H1 B1 F1
  exc : ∀ {c fs ρ H B F}, P (.exc c fs ρ) H B F → postX T K W c fs ρ σ H B F
  fail : ∀ {H B F}, ¬ P .fail H B F
theorem pl_D {W : XK} {Q : VK} : PostLike T K W σ fun r H B F => postD T K W r σ H B F Q := ⟨postD.from, fun h => h, fun h => h⟩
theorem pl_O {W : XK} {Q : VK} : PostLike T K W σ fun r H B F => postO T K W r σ H B F Q := ⟨postO.from, fun h => h, fun h => h⟩
theorem pl_T {W : XK} {Q : Bool → Hp → Prop} : PostLike T K W σ fun r H B F => postT T K W r σ H B F Q := ⟨postT.from, fun h => h, fun h => h⟩
theorem pl_A {W : XK} {Q : List V → Hp → Prop} : PostLike T K W σ fun r H B F => postA T K W r σ H B F Q := ⟨postA.from, fun h => h, fun h => h⟩
theorem pl_AD {W : XK} {Q : List V → Hp → Prop} : PostLike T K W σ fun r H B F => postAD T K W r σ H B F Q := ⟨postAD.from, fun h => h, fun h => h⟩
/-- first a data operand, then the rest -/
theorem bindD {β : Type} {P : Res β → Hp → Hp → (Addr → Prop) → Prop} (p : PostLike T K (W σ) σ P) {g : M D} {k : D → M β} {Q : VK} (s : SR T K ρ σ H B Fs) (h : P (M.bind g k ρ) H B (Own Fs))
    (go : ∀ v d ρ1 H1 B1 Fs1, SR T K ρ1 σ H1 B1 Fs1 → Is K B1 v d → Step H B (Own Fs) H1 B1 (Own Fs1) → P (k d ρ1) H1 B1 (Own Fs1) → Q v H1) : tD T K W g σ H Q := by
  refine ⟨ρ, B, Fs, s, ?_⟩
  unfold M.bind at h
  cases e : g ρ with
  | ok d ρ1 =>
    rw [e] at h
    exact fun v H' B' Fs' h1 h2 h3 => go v d ρ1 H' B' Fs' h1 h2 h3 (p.from_ h3 h)
  | exc c fs ρ1 => rw [e] at h; exact p.exc h
  | fail => rw [e] at h; exact (p.fail h).elim
theorem bindT {β : Type} {P : Res β → Hp → Hp → (Addr → Prop) → Prop} (p : PostLike T K (W σ) σ P) {g : M Bool} {k : Bool → M β} {Q : Bool → Hp → Prop} (s : SR T K ρ σ H B Fs) (h : P (M.bind g k ρ) H B (Own Fs))
    (go : ∀ b ρ1 H1 B1 Fs1, SR T K ρ1 σ H1 B1 Fs1 → Step H B (Own Fs) H1 B1 (Own Fs1) → P (k b ρ1) H1 B1 (Own Fs1) → Q b H1) : tT T K W g σ H Q := by
  refine ⟨ρ, B, Fs, s, ?_⟩
  unfold M.bind at h
  cases e : g ρ with
  | ok d ρ1 =>
    rw [e] at h
    exact fun H' B' Fs' h1 h3 => go d ρ1 H' B' Fs' h1 h3 (p.from_ h3 h)
  | exc c fs ρ1 => rw [e] at h; exact p.exc h
  | fail => rw [e] at h; exact (p.fail h).elim
theorem bindAD {β : Type} {P : Res β → Hp → Hp → (Addr → Prop) → Prop} (p : PostLike T K (W σ) σ P) {g : M (List D)} {k : List D → M β} {Q : List V → Hp → Prop} (s : SR T K ρ σ H B Fs) (h : P (M.bind g k ρ) H B (Own Fs))
    (go : ∀ vs ds ρ1 H1 B1 Fs1, SR T K ρ1 σ H1 B1 Fs1 → IsAll K B1 vs ds → Step H B (Own Fs) H1 B1 (Own Fs1) → P (k ds ρ1) H1 B1 (Own Fs1) → Q vs H1) : tAD T K W g σ H Q := by
  refine ⟨ρ, B, Fs, s, ?_⟩
  unfold M.bind at h
  cases e : g ρ with
  | ok d ρ1 =>
    rw [e] at h
    exact fun v H' B' Fs' h1 h2 h3 => go v d ρ1 H' B' Fs' h1 h2 h3 (p.from_ h3 h)
  | exc c fs ρ1 => rw [e] at h; exact p.exc h
  | fail => rw [e] at h; exact (p.fail h).elim
theorem bindO {β : Type} {P : Res β → Hp → Hp → (Addr → Prop) → Prop} (p : PostLike T K (W σ) σ P) {g : M Sl} {k : Sl → M β} {Q : VK} (s : SR T K ρ σ H B Fs) (h : P (M.bind g k ρ) H B (Own Fs))
    (go : ∀ v t ρ1 H1 B1 Fs1 Fr, SR T K ρ1 σ H1 B1 Fs1 → Ow K B1 H1 v t Fr → Off B1 Fs1 Fr → Step H B (Own Fs) H1 B1 (fun a => Own Fs1 a ∨ a ∈ Fr) → P (k t ρ1) H1 B1 (fun a => Own Fs1 a ∨ a ∈ Fr) → Q v H1) : tO T K W g σ H Q := by
  refine ⟨ρ, B, Fs, s, ?_⟩
  unfold M.bind at h
  cases e : g ρ with
  | ok d ρ1 =>
    rw [e] at h
    exact fun v H' B' Fs' Fr h1 h2 h3 h4 => go v d ρ1 H' B' Fs' Fr h1 h2 h3 h4 (p.from_ h4 h)
  | exc c fs ρ1 => rw [e] at h; exact p.exc h
  | fail => rw [e] at h; exact (p.fail h).elim
theorem bindA {β : Type} {P : Res β → Hp → Hp → (Addr → Prop) → Prop} (p : PostLike T K (W σ) σ P) {g : M (List Sl)} {k : List Sl → M β} {Q : List V → Hp → Prop} (s : SR T K ρ σ H B Fs) (h : P (M.bind g k ρ) H B (Own Fs))
    (go : ∀ v t ρ1 H1 B1 Fs1 Fr, SR T K ρ1 σ H1 B1 Fs1 → OwAll K B1 H1 v t Fr → Off B1 Fs1 Fr → Step H B (Own Fs) H1 B1 (fun a => Own Fs1 a ∨ a ∈ Fr) → P (k t ρ1) H1 B1 (fun a => Own Fs1 a ∨ a ∈ Fr) → Q v H1) : tA T K W g σ H Q := by
  refine ⟨ρ, B, Fs, s, ?_⟩
  unfold M.bind at h
  cases e : g ρ with
  | ok d ρ1 =>
    rw [e] at h
    exact fun v H' B' Fs' Fr h1 h2 h3 h4 => go v d ρ1 H' B' Fs' Fr h1 h2 h3 h4 (p.from_ h4 h)
  | exc c fs ρ1 => rw [e] at h; exact p.exc h
  | fail => rw [e] at h; exact (p.fail h).elim
end
end DL

end
section
set_option Elab.async false
set_option linter.all false
set_option autoImplicit false
set_option maxRecDepth 100000
set_option maxHeartbeats 4000000
/-! The data layer, part 2: expressions. -/
namespace DL
open PySem PySem.Spec L2 NdefX
/-! ### answers of plain operations -/
/-- wanted of a value that stands for z, whatever new objects come with it -/
def PCt (K : PySem.W.Frag) (B H : Hp) (z : D) (Q : VK) : Prop := ∀ v H' B', Grow H B H' B' → Is K B' v z → Q v H'
def POt (K : PySem.W.Frag) (B H : Hp) (s : Sl) (Q : VK) : Prop := ∀ v H' B' Fr, Grow H B H' B' → Ow K B' H' v s Fr → (∀ a, a ∈ Fr → H a = none ∧ B' a = none) → Q v H'
section
variable {T : List NTab} {K : PySem.W.Frag} {W : St → XK} {ρ : Env} {σ : St} {H B : Hp} {Fs : Nat → List Addr} {z : D} {Q : VK}
theorem PCt.at {v : V} (h : PCt K B H z Q) (e : Ex B H) (n : NoT B) (i : Is K B v z) : Q v H := h v H B (.refl e n) i
theorem PCt.new {p : Addr} {o : HO} (h : PCt K B H z Q) (e : Ex B H) (n : NoT B) (hp : H p = none) (ho : ∀ ps, o ≠ .tbl ps) (i : Is K (upd B p o) (.ref p) z) : Q (.ref p) (upd H p o) := h _ _ _ (.new e n hp ho) i
theorem exUpd (e : Ex B H) {p : Addr} {o : HO} (hp : H p = none) : Ex B (upd B p o) := Ex.new (by
  cases q : B p with
  | none => rfl
  | some u => rw [e _ _ q] at hp; cases hp)
theorem PCt.tup {p : Addr} {xs : List V} {l : List D} (h : PCt K B H (.tup l) Q) (e : Ex B H) (n : NoT B) (i : IsAll K B xs l) (hp : H p = none) : Q (.ref p) (upd H p (.tup xs)) :=
  h.new e n hp (fun _ q => nomatch q) (.tup (.of upd_same) (i.mono (exUpd e hp)))
theorem PCt.lst {p : Addr} {xs : List V} {l : List D} (h : PCt K B H (.lst l) Q) (e : Ex B H) (n : NoT B) (i : IsAll K B xs l) (hp : H p = none) : Q (.ref p) (upd H p (.lst xs)) :=
  h.new e n hp (fun _ q => nomatch q) (.lst upd_same (i.mono (exUpd e hp)))
theorem POt.lst {p : Addr} {xs : List V} {l : List Sl} (h : POt K B H (.ol l) Q) (e : Ex B H) (n : NoT B) (i : OwAll K B H xs l []) (hp : H p = none) : Q (.ref p) (upd H p (.lst xs)) := by
  refine h _ _ B [p] (.own (o := .lst xs) e n hp) (.ol upd_same (by simp) (i.mono (Ex.refl B) fun a o ha => by cases ha)) fun a ha => ?_
  have q : a = p := by simpa using ha
  subst q
  refine ⟨hp, ?_⟩
  cases q : B a with
  | none => rfl
  | some u => rw [e _ _ q] at hp; cases hp
theorem owAll_d : ∀ {vs : List V} {l : List D}, IsAll K B vs l → OwAll K B H vs (l.map Sl.d) []
  | _, _, .nil => .nil
  | _, _, .cons h1 h2 => .cons (F := []) (G := []) (.d h1) (owAll_d h2) (fun _ h => by cases h)
/-- an operation's post -/
theorem PCt.of (s : SR T K ρ σ H B Fs) {r : Option D} {W : XK} (h : postD T K W (M.of r ρ) σ H B (Own Fs) Q) : ∃ z, r = some z ∧ PCt K B H z Q := by
  cases r with
  | none => exact h.elim
  | some z => exact ⟨z, rfl, fun v H' B' g i => h v H' B' Fs (s.grow g) i g.step⟩
theorem POt.of (s : SR T K ρ σ H B Fs) {r : Option Sl} {W : XK} (h : postO T K W (M.of r ρ) σ H B (Own Fs) Q) : ∃ z, r = some z ∧ POt K B H z Q := by
  cases r with
  | none => exact h.elim
  | some z =>
    refine ⟨z, rfl, fun v H' B' Fr g i k => h v H' B' Fs Fr (s.grow g) i (fun a ha => ⟨fun j hj => ?_, (k a ha).2⟩) ?_⟩
    · obtain ⟨o, ho, _⟩ := s.alive hj
      rw [(k a ha).1] at ho; cases ho
    · exact ⟨fun a o _ _ e => g.ex a o e, (fun _ e => e), g.exB, fun a e => (g.newB a e).elim .inl fun z => .inr (.inl (nown z)), fun a e => e.elim .inl fun z => .inr (nt (k a z).1)⟩
end
def OpD (X : Cx) (f : Value → Value → Sem Value) (op : D → D → Option D) : Prop :=
  OpR X f fun x y H Q => ∃ d e z B, Ex B H ∧ NoT B ∧ Is X.K B x d ∧ Is X.K B y e ∧ op d e = some z ∧ PCt X.K B H z Q
def OpO (X : Cx) (f : Value → Value → Sem Value) (op : D → D → Option Sl) : Prop :=
  OpR X f fun x y H Q => ∃ d e z B, Ex B H ∧ NoT B ∧ Is X.K B x d ∧ Is X.K B y e ∧ op d e = some z ∧ POt X.K B H z Q
def UnD (X : Cx) (f : Value → Sem Value) (op : D → Option D) : Prop := UnR X f fun x H Q => ∃ d z B, Ex B H ∧ NoT B ∧ Is X.K B x d ∧ op d = some z ∧ PCt X.K B H z Q
def CallD (X : Cx) (f : Value) (op : List D → Option D) : Prop := CallR X f fun xs H Q => ∃ ds z B, Ex B H ∧ NoT B ∧ IsAll X.K B xs ds ∧ op ds = some z ∧ PCt X.K B H z Q
def CallO (X : Cx) (f : Value) (op : List D → Option Sl) : Prop := CallR X f fun xs H Q => ∃ ds z B, Ex B H ∧ NoT B ∧ IsAll X.K B xs ds ∧ op ds = some z ∧ POt X.K B H z Q
def IxD (X : Cx) (op : D → D → Option D) : Prop := IxR X fun x y H Q => ∃ d e z B, Ex B H ∧ NoT B ∧ Is X.K B x d ∧ Is X.K B y e ∧ op d e = some z ∧ PCt X.K B H z Q
def TruD (X : Cx) (op : D → Option Bool) : Prop := TruR X fun x H Q => ∃ d b B, Ex B H ∧ Is X.K B x d ∧ op d = some b ∧ Q b H
/-! ### the programs' meanings -/
def mVar (i : Nat) : M D := fun ρ => match ρ[i]? with
  | some (some (.d x)) => .ok x ρ
  | some (some s) => .ok (frz s) (ρ.set i (some (.d (frz s))))
  | _ => .fail
/-- the variable's owned tree, given away -/
def mMove (i : Nat) : M Sl := fun ρ => match ρ[i]? with
  | some (some s) => .ok s (ρ.set i none)
  | _ => .fail
def mC (d : D) : M D := M.pure d
def mOD (g : M D) : M Sl := M.bind g fun d => M.pure (.d d)
def mFz (g : M Sl) : M D := M.bind g fun s => M.pure (frz s)
def mOp2 (f : D → D → Option D) (a b : M D) : M D := M.bind a fun x => M.bind b fun y => M.of (f x y)
def mOp2O (f : D → D → Option Sl) (a b : M D) : M Sl := M.bind a fun x => M.bind b fun y => M.of (f x y)
def mOp1 (f : D → Option D) (a : M D) : M D := M.bind a fun x => M.of (f x)
def mOpN (f : List D → Option D) (a : M (List D)) : M D := M.bind a fun x => M.of (f x)
def mOpNO (f : List D → Option Sl) (a : M (List D)) : M Sl := M.bind a fun x => M.of (f x)
def mNil {α : Type} : M (List α) := M.pure []
def mCons {α : Type} (a : M α) (r : M (List α)) : M (List α) := M.bind a fun x => M.bind r fun xs => M.pure (x :: xs)
def mFzL (g : M (List Sl)) : M (List D) := M.bind g fun ss => M.pure (ss.map frz)
def lineOk (n : Nat) : Bool := decide (n ≤ 16777216)
theorem lineOk_le {n : Nat} (h : lineOk n = true) : n ≤ sizeLine := by rw [sizeLine_eq]; exact of_decide_eq_true h
def mkTup (ds : List D) : Option D := if lineOk ds.length then some (.tup ds) else none
def mkLst (ss : List Sl) : Option Sl := if lineOk ss.length then some (.ol ss) else none
def mTup (g : M (List D)) : M D := M.bind g fun ds => M.of (mkTup ds)
def mLst (g : M (List Sl)) : M Sl := M.bind g fun ss => M.of (mkLst ss)
def asB : D → Option Bool
  | .bl b => some b
  | _ => none
def mTest (g : M D) : M Bool := M.bind g fun d => M.of (asB d)
def mB (g : M Bool) : M D := M.bind g fun b => M.pure (.bl b)
def mAnd (a b : M Bool) : M Bool := M.bind a fun x => if x = true then b else M.pure false
def mOr (a b : M Bool) : M Bool := M.bind a fun x => if x = true then M.pure true else b
def mNot (a : M Bool) : M Bool := M.bind a fun x => M.pure (!x)
def mIf {α : Type} (c : M Bool) (a b : M α) : M α := M.bind c fun x => if x = true then a else b
def mTruB (f : D → Option Bool) (g : M D) : M Bool := M.bind g fun d => M.of (f d)

section
variable {T : List NTab} {W : St → XK} {X : Cx} {a b c e : Expr} {es rest : List Expr} {pos p : Pos} {ga gb : M D} {go_ : M Sl} {x : Str}
theorem ed_imp {g g' : M D} (h : ED T W X e g) (q : g = g') : ED T W X e g' := q ▸ h
theorem ed_var (i : Nat) (hN : X.N[i]? = some x := by rfl) (hv : Vis X.env.scope x := by first | exact Or.inl rfl | exact Or.inr (Or.inl rfl) | exact Or.inr (Or.inr rfl)) (hd : (x == ("__debug__" : Str)) = false := by decide)
    (hcd : (x == ("__classdict__" : Str)) = false := by decide) : ED T W X (.Name x pos) (mVar i) := by
  refine pe_imp (pe_var (pos := pos) hN hv hd hcd) fun σ H Q ⟨ρ, B, Fs, s, h⟩ => ?_
  unfold mVar at h
  cases e : ρ[i]? with
  | none => rw [e] at h; exact h.elim
  | some o =>
    cases o with
    | none => rw [e] at h; exact h.elim
    | some t =>
      obtain ⟨v, h1, h2⟩ := s.slot i t e
      refine ⟨v, h1, ?_⟩
      have ilt : i < ρ.length := (List.getElem?_eq_some_iff.mp e).1
      have key : (∀ d, t ≠ .d d) → postD T X.K (W σ) (.ok (frz t) (ρ.set i (some (.d (frz t))))) σ H B (Own Fs) Q → Q v H := fun nd hq => by
        have off : ∀ a, a ∈ Fs i → B a = none := fun a ha => s.offB i a ha
        have iq : Is X.K (ad B H (Fs i)) v (frz t) := h2.frz (ad_ex s.ex) fun a o ha q => ad_in ha q
        refine hq v H (ad B H (Fs i)) (setF Fs i []) ?_ iq ?_
        · refine s.put ilt (fun _ _ => rfl) (fun t' q => ⟨v, h1, by cases q; exact .d iq⟩) (fun q => by cases q) (ad_ex s.ex) (ad_le s.ex) s.tabs (fun a ps z => ?_) (fun _ _ _ _ _ q => q) (fun a z => by cases z) fun j a hj ha => ad_none (s.offB j a ha) fun z => s.apart j i a hj ha z
          by_cases ha : a ∈ Fs i
          · obtain ⟨o, ho, own⟩ := h2.there a ha
            rw [ad_in ha ho] at z
            cases z; exact own
          · unfold ad at z; rw [if_neg ha] at z; exact s.noT a ps z
        · refine ⟨fun _ _ _ _ q => q, fun _ q => q, ad_ex s.ex, fun a q => ?_, fun a q => .inl ?_⟩
          · rcases ad_some q with q | q
            · exact .inl q
            · exact .inr (.inr ⟨i, q⟩)
          · rcases own_setF q with q | q
            · cases q
            · exact q
      cases t with
      | d y =>
        rw [e] at h
        have h3 : Is X.K B v y := by
          generalize Fs i = G at h2
          cases h2 with
          | d h3 => exact h3
        exact h v H B Fs s h3 .refl
      | ol l => rw [e] at h; exact key (fun _ q => nomatch q) h
      | od l => rw [e] at h; exact key (fun _ q => nomatch q) h
      | oi c l => rw [e] at h; exact key (fun _ q => nomatch q) h
theorem eo_move (i : Nat) (hN : X.N[i]? = some x := by rfl) (hv : Vis X.env.scope x := by first | exact Or.inl rfl | exact Or.inr (Or.inl rfl) | exact Or.inr (Or.inr rfl)) (hd : (x == ("__debug__" : Str)) = false := by decide)
    (hcd : (x == ("__classdict__" : Str)) = false := by decide) : EO T W X (.Name x pos) (mMove i) := by
  refine pe_imp (pe_var (pos := pos) hN hv hd hcd) fun σ H Q ⟨ρ, B, Fs, s, h⟩ => ?_
  unfold mMove at h
  cases e : ρ[i]? with
  | none => rw [e] at h; exact h.elim
  | some o =>
    cases o with
    | none => rw [e] at h; exact h.elim
    | some t =>
      obtain ⟨v, h1, h2⟩ := s.slot i t e
      rw [e] at h
      have ilt : i < ρ.length := (List.getElem?_eq_some_iff.mp e).1
      refine ⟨v, h1, h v H B (setF Fs i []) (Fs i) ?_ h2 (fun a ha => ⟨fun j hj => ?_, s.offB i a ha⟩) ?_⟩
      · exact s.put ilt (fun _ _ => rfl) (fun t' q => by cases q) (fun _ => rfl) (Ex.refl B) s.ex s.tabs s.noT (fun _ _ _ _ _ q => q) (fun a z => by cases z) fun j a hj ha => s.offB j a ha
      · by_cases z : j = i
        · subst z; rw [setF_same] at hj; cases hj
        · rw [setF_ne z] at hj; exact s.apart j i a z hj ha
      · refine ⟨fun _ _ _ _ q => q, fun _ q => q, Ex.refl B, fun a q => .inl q, fun a q => .inl ?_⟩
        rcases q with q | q
        · rcases own_setF q with q | q
          · cases q
          · exact q
        · exact ⟨i, q⟩
theorem ed_const {t : V} {d : D} (h : PE X e (tC t)) (i : ∀ B, Is X.K B t d) : ED T W X e (mC d) := pe_imp h fun σ H Q ⟨ρ, B, Fs, s, q⟩ => q t H B Fs s (i B) .refl
theorem ed_int {i : Int} {j : Nat} : ED T W X (.Constant (.int i) j pos) (mC (.int i)) := ed_const pe_int fun _ => .int _
theorem ed_bl {i : Bool} {j : Nat} : ED T W X (.Constant (.bool i) j pos) (mC (.bl i)) := ed_const pe_bl fun _ => .bl _
theorem ed_non {j : Nat} : ED T W X (.Constant .none j pos) (mC .non) := ed_const pe_non fun _ => .non
theorem ed_str {i : Str} {j : Nat} : ED T W X (.Constant (.str i) j pos) (mC (.str i)) := ed_const pe_str fun _ => .str _
/-- a module's constant -/
theorem ed_glob {v : V} {u : Value} {d : D} (hm : X.mg x = some u) (r : RelV v u) (i : ∀ B, Is X.K B v d) (hg : Gl X x := by rfl) (hd : (x == ("__debug__" : Str)) = false := by decide) : ED T W X (.Name x pos) (mC d) := ed_const (pe_glob hg hm r hd) i
/-- a built-in class as a value -/
theorem ed_ty {n : String} (hm : X.mg x = none) (hv : bootBuiltins x = some (.type n) := by decide +kernel) (hg : Gl X x := by rfl) (hn : x ≠ "__name__" := by decide) (hd : (x == ("__debug__" : Str)) = false := by decide) : ED T W X (.Name x pos) (mC (.ty n)) :=
  ed_const (pe_bltn (v := .ty n) hg hm hv rfl hn hd) fun _ => .ty n
theorem eo_d (h : ED T W X e ga) : EO T W X e (mOD ga) := pe_imp h fun σ H Q ⟨ρ, B, Fs, s, h⟩ =>
  bindD pl_O s h fun v d ρ1 H1 B1 Fs1 s1 i1 st q => q v H1 B1 Fs1 [] s1 (.d i1) (fun _ z => by cases z) ⟨fun _ _ _ _ q => q, fun _ q => q, Ex.refl _, fun a q => .inl q, fun a q => .inl (q.elim id fun z => by cases z)⟩
theorem SR.letgo {K : PySem.W.Frag} {ρ : Env} {σ : St} {H B : Hp} {Fs : Nat → List Addr} {Fr : List Addr} (s : SR T K ρ σ H B Fs) (h : ∀ a, a ∈ Fr → ∃ o, H a = some o ∧ Ownable o) (o : Off B Fs Fr) :
    SR T K ρ σ H (ad B H Fr) Fs ∧ Step H B (fun a => Own Fs a ∨ a ∈ Fr) H (ad B H Fr) (Own Fs) := by
  refine ⟨⟨ad_le s.ex, s.tabs, fun a ps z => ?_, fun j u hu => ?_, s.off, s.apart, fun j a ha => ?_⟩, fun _ _ _ _ q => q, fun _ q => q, ad_ex s.ex, fun a q => ?_, fun a q => .inl (.inl q)⟩
  · by_cases ha : a ∈ Fr
    · obtain ⟨o, ho, own⟩ := h a ha
      rw [ad_in ha ho] at z
      cases z; exact own
    · unfold ad at z; rw [if_neg ha] at z; exact s.noT a ps z
  · obtain ⟨w, q1, q2⟩ := s.slot j u hu
    exact ⟨w, q1, q2.mono (ad_ex s.ex) fun _ _ _ q => q⟩
  · exact ad_none (s.offB j a ha) fun z => (o a z).1 j ha
  · rcases ad_some q with q | q
    · exact .inl q
    · exact .inr (.inr (.inr q))
theorem ed_o (h : EO T W X e go_) : ED T W X e (mFz go_) := pe_imp h fun σ H Q ⟨ρ, B, Fs, s, h⟩ =>
  bindO pl_D s h fun v t ρ1 H1 B1 Fs1 Fr s1 i1 o st q =>
    have z := s1.letgo (fun a ha => i1.there a ha) o
    q v H1 (ad B1 H1 Fr) Fs1 z.1 (i1.frz (ad_ex s1.ex) fun a o ha q => ad_in ha q) z.2
theorem ed_op {op : Operator} {f : D → D → Option D} (ho : OpD X (binaryOp op) f) (ha : ED T W X a ga) (hb : ED T W X b gb) : ED T W X (.BinOp a op b pos) (mOp2 f ga gb) :=
  pe_imp (pe_op ho ha hb) fun σ H Q ⟨ρ, B, Fs, s, h⟩ => bindD pl_D s h fun v d ρ1 H1 B1 Fs1 s1 i1 st1 h => bindD pl_D s1 h fun w d2 ρ2 H2 B2 Fs2 s2 i2 st2 h =>
    let ⟨z, e, k⟩ := PCt.of s2 h
    ⟨d, d2, z, B2, s2.ex, s2.noT, i1.mono st2.ex, i2, e, k⟩
theorem eo_op {op : Operator} {f : D → D → Option Sl} (ho : OpO X (binaryOp op) f) (ha : ED T W X a ga) (hb : ED T W X b gb) : EO T W X (.BinOp a op b pos) (mOp2O f ga gb) :=
  pe_imp (pe_op ho ha hb) fun σ H Q ⟨ρ, B, Fs, s, h⟩ => bindD pl_O s h fun v d ρ1 H1 B1 Fs1 s1 i1 st1 h => bindD pl_O s1 h fun w d2 ρ2 H2 B2 Fs2 s2 i2 st2 h =>
    let ⟨z, e, k⟩ := POt.of s2 h
    ⟨d, d2, z, B2, s2.ex, s2.noT, i1.mono st2.ex, i2, e, k⟩
theorem ed_un {op : UnaryOp} {f : D → Option D} (ho : UnD X (unaryOp op) f) (ha : ED T W X a ga) : ED T W X (.UnaryOp op a pos) (mOp1 f ga) :=
  pe_imp (pe_un ho ha) fun σ H Q ⟨ρ, B, Fs, s, h⟩ => bindD pl_D s h fun v d ρ1 H1 B1 Fs1 s1 i1 st1 h =>
    let ⟨z, e, k⟩ := PCt.of s1 h
    ⟨d, z, B1, s1.ex, s1.noT, i1, e, k⟩
theorem ed_cmp {op : CmpOp} {f : D → D → Option D} (ho : OpD X (compareOp op) f) (ha : ED T W X a ga) (hb : ED T W X b gb) (hm : behindInMarks op b = false := by first | exact nomark _ | rfl) : ED T W X (.Compare a [op] [b] pos) (mOp2 f ga gb) :=
  pe_imp (pe_cmpR ho ha hb hm) fun σ H Q ⟨ρ, B, Fs, s, h⟩ => bindD pl_D s h fun v d ρ1 H1 B1 Fs1 s1 i1 st1 h => bindD pl_D s1 h fun w d2 ρ2 H2 B2 Fs2 s2 i2 st2 h =>
    let ⟨z, e, k⟩ := PCt.of s2 h
    ⟨d, d2, z, B2, s2.ex, s2.noT, i1.mono st2.ex, i2, e, k⟩
/-- an expression whose value is a bool, as a test -/
theorem et_val (h : ED T W X e ga) (he : ∀ whole, isTrue e X.env whole = (do let v ← whole; standAt e.pos; holding [v] (truthy v)) := by intro _; rfl) : ET T W X e (mTest ga) :=
  pt_imp (pt_val h he) fun σ H Q ⟨ρ, B, Fs, s, h⟩ => bindD pl_T s h fun v d ρ1 H1 B1 Fs1 s1 i1 st1 h => by
    cases d with
    | bl k =>
      cases i1
      exact ⟨k, rfl, h H1 B1 Fs1 s1 .refl⟩
    | _ => exact (show False from h).elim
theorem et_cmp {op : CmpOp} {f : D → D → Option D} (ho : OpD X (compareOp op) f) (ha : ED T W X a ga) (hb : ED T W X b gb) (hm : behindInMarks op b = false := by first | exact nomark _ | rfl) : ET T W X (.Compare a [op] [b] pos) (mTest (mOp2 f ga gb)) := by
  refine pt_imp (pt_cmpR ho ha hb hm) fun σ H Q ⟨ρ, B, Fs, s, h⟩ => ?_
  have e : ∀ ρ, mTest (mOp2 f ga gb) ρ = M.bind ga (fun x => M.bind gb fun y => M.bind (M.of (f x y)) fun d => M.of (asB d)) ρ := fun ρ => by
    unfold mTest mOp2 M.bind
    cases ga ρ with
    | ok x ρ1 =>
      simp only
      cases gb ρ1 <;> rfl
    | _ => rfl
  rw [e] at h
  refine bindD pl_T s h fun v d ρ1 H1 B1 Fs1 s1 i1 st1 h => bindD pl_T s1 h fun w d2 ρ2 H2 B2 Fs2 s2 i2 st2 h => ?_
  cases q : f d d2 with
  | none => rw [q] at h; exact (show False from h).elim
  | some z =>
    rw [q] at h
    refine ⟨d, d2, z, B2, s2.ex, s2.noT, i1.mono st2.ex, i2, q, fun v H' B' g i => ?_⟩
    cases z with
    | bl k =>
      cases i
      exact ⟨k, rfl, h H' B' Fs2 (s2.grow g) g.step⟩
    | _ => exact (show False from h).elim
theorem et_not {g : M Bool} (h : ET T W X a g) : ET T W X (.UnaryOp .Not a pos) (mNot g) := pt_imp (pt_not h) fun σ H Q ⟨ρ, B, Fs, s, h⟩ => bindT pl_T s h fun b ρ1 H1 B1 Fs1 s1 st q => q H1 B1 Fs1 s1 .refl
/-- and, or: chains -/
abbrev EW (T : List NTab) (W : St → XK) (X : Cx) (e : Expr) (g : M Bool) : Prop := PW X e (tT T X.K W g)
theorem pw_imp {t t' : TT} (h : PW X e t) (i : ∀ σ H Q, t' σ H Q → t σ H Q) : PW X e t' := ⟨fun w pins s σ H Q I q => h.run w pins s σ H Q I (i _ _ _ q)⟩
theorem ew_and1 {g : M Bool} (h : ET T W X a g) : EW T W X (.BoolOp .And [a] pos) g := pw_and1 h
theorem ew_or1 {g : M Bool} (h : ET T W X a g) : EW T W X (.BoolOp .Or [a] pos) g := pw_or1 h
theorem ew_and {g1 g2 : M Bool} (h1 : ET T W X a g1) (h2 : EW T W X (.BoolOp .And (b :: rest) pos) g2) : EW T W X (.BoolOp .And (a :: b :: rest) pos) (mAnd g1 g2) :=
  pw_imp (pw_and h1 h2) fun σ H Q ⟨ρ, B, Fs, s, h⟩ => bindT pl_T s h fun c ρ1 H1 B1 Fs1 s1 st q => by
    cases c with
    | true => rw [if_pos rfl] at q ⊢; exact ⟨ρ1, B1, Fs1, s1, q⟩
    | false => rw [if_neg Bool.false_ne_true] at q ⊢; exact q H1 B1 Fs1 s1 .refl
theorem ew_or {g1 g2 : M Bool} (h1 : ET T W X a g1) (h2 : EW T W X (.BoolOp .Or (b :: rest) pos) g2) : EW T W X (.BoolOp .Or (a :: b :: rest) pos) (mOr g1 g2) :=
  pw_imp (pw_or h1 h2) fun σ H Q ⟨ρ, B, Fs, s, h⟩ => bindT pl_T s h fun c ρ1 H1 B1 Fs1 s1 st q => by
    cases c with
    | true => rw [if_pos rfl] at q ⊢; exact q H1 B1 Fs1 s1 .refl
    | false => rw [if_neg Bool.false_ne_true] at q ⊢; exact ⟨ρ1, B1, Fs1, s1, q⟩
theorem et_w {g : M Bool} (h : EW T W X e g) : ET T W X e g := h.pt
/-- and, or, not as values (of bools) -/
theorem ed_one {op : BoolOp} (h : ED T W X a ga) : ED T W X (.BoolOp op [a] pos) (mB (mTest ga)) := by
  refine pe_imp (pe_one (op := op) (pos := pos) h) fun σ H Q ⟨ρ, B, Fs, s, h⟩ => ?_
  have e : ∀ ρ, mB (mTest ga) ρ = M.bind ga (fun d => M.bind (M.of (asB d)) fun b => M.pure (.bl b)) ρ := fun ρ => by
    unfold mTest mB M.bind
    cases ga ρ <;> rfl
  rw [e] at h
  refine bindD pl_D s h fun v d ρ1 H1 B1 Fs1 s1 i1 st1 h => ?_
  cases d with
  | bl k => exact h v H1 B1 Fs1 s1 i1 .refl
  | _ => exact (show False from h).elim
theorem ed_andV (h1 : ED T W X a ga) {g2 : M Bool} (h2 : ED T W X (.BoolOp .And (b :: rest) pos) (mB g2)) : ED T W X (.BoolOp .And (a :: b :: rest) pos) (mB (mAnd (mTest ga) g2)) := by
  refine pe_imp (pe_and h1 h2) fun σ H Q ⟨ρ, B, Fs, s, h⟩ => ?_
  have e : ∀ ρ, mB (mAnd (mTest ga) g2) ρ = M.bind ga (fun d => M.bind (M.of (asB d)) fun x => mB (if x = true then g2 else M.pure false)) ρ := fun ρ => by
    unfold mB mAnd mTest M.bind
    cases ga ρ with
    | ok d ρ1 =>
      simp only
      cases asB d <;> rfl
    | _ => rfl
  rw [e] at h
  refine bindD pl_D s h fun v d ρ1 H1 B1 Fs1 s1 i1 st1 h => ?_
  cases d with
  | bl k =>
    cases i1
    refine ⟨k, rfl, ?_⟩
    cases k with
    | true => rw [if_pos rfl]; exact ⟨ρ1, B1, Fs1, s1, h⟩
    | false => rw [if_neg Bool.false_ne_true]; exact h _ H1 B1 Fs1 s1 (.bl _) .refl
  | _ => exact (show False from h).elim
theorem ed_orV (h1 : ED T W X a ga) {g2 : M Bool} (h2 : ED T W X (.BoolOp .Or (b :: rest) pos) (mB g2)) : ED T W X (.BoolOp .Or (a :: b :: rest) pos) (mB (mOr (mTest ga) g2)) := by
  refine pe_imp (pe_or h1 h2) fun σ H Q ⟨ρ, B, Fs, s, h⟩ => ?_
  have e : ∀ ρ, mB (mOr (mTest ga) g2) ρ = M.bind ga (fun d => M.bind (M.of (asB d)) fun x => mB (if x = true then M.pure true else g2)) ρ := fun ρ => by
    unfold mB mOr mTest M.bind
    cases ga ρ with
    | ok d ρ1 =>
      simp only
      cases asB d <;> rfl
    | _ => rfl
  rw [e] at h
  refine bindD pl_D s h fun v d ρ1 H1 B1 Fs1 s1 i1 st1 h => ?_
  cases d with
  | bl k =>
    cases i1
    refine ⟨k, rfl, ?_⟩
    cases k with
    | true => rw [if_pos rfl]; exact h _ H1 B1 Fs1 s1 (.bl _) .refl
    | false => rw [if_neg Bool.false_ne_true]; exact ⟨ρ1, B1, Fs1, s1, h⟩
  | _ => exact (show False from h).elim
theorem ed_notV (h1 : ED T W X a ga) : ED T W X (.UnaryOp .Not a pos) (mB (mNot (mTest ga))) := by
  refine pe_imp (pe_not h1) fun σ H Q ⟨ρ, B, Fs, s, h⟩ => ?_
  have e : ∀ ρ, mB (mNot (mTest ga)) ρ = M.bind ga (fun d => M.bind (M.of (asB d)) fun x => M.pure (.bl !x)) ρ := fun ρ => by
    unfold mB mNot mTest M.bind
    cases ga ρ with
    | ok d ρ1 =>
      simp only
      cases asB d <;> rfl
    | _ => rfl
  rw [e] at h
  refine bindD pl_D s h fun v d ρ1 H1 B1 Fs1 s1 i1 st1 h => ?_
  cases d with
  | bl k =>
    cases i1
    exact ⟨k, rfl, h _ H1 B1 Fs1 s1 (.bl _) .refl⟩
  | _ => exact (show False from h).elim
theorem ed_if {g : M Bool} (hc : ET T W X c g) (ha : ED T W X a ga) (hb : ED T W X b gb) : ED T W X (.IfExp c a b pos) (mIf g ga gb) :=
  pe_imp (pe_ifExp hc ha hb) fun σ H Q ⟨ρ, B, Fs, s, h⟩ => bindT pl_D s h fun c ρ1 H1 B1 Fs1 s1 st q => by
    cases c with
    | true => rw [if_pos rfl] at q ⊢; exact ⟨ρ1, B1, Fs1, s1, q⟩
    | false => rw [if_neg Bool.false_ne_true] at q ⊢; exact ⟨ρ1, B1, Fs1, s1, q⟩
theorem eo_if {g : M Bool} {ga gb : M Sl} (hc : ET T W X c g) (ha : EO T W X a ga) (hb : EO T W X b gb) : EO T W X (.IfExp c a b pos) (mIf g ga gb) :=
  pe_imp (pe_ifExp hc ha hb) fun σ H Q ⟨ρ, B, Fs, s, h⟩ => bindT pl_O s h fun c ρ1 H1 B1 Fs1 s1 st q => by
    cases c with
    | true => rw [if_pos rfl] at q ⊢; exact ⟨ρ1, B1, Fs1, s1, q⟩
    | false => rw [if_neg Bool.false_ne_true] at q ⊢; exact ⟨ρ1, B1, Fs1, s1, q⟩
/-- a value's truth -/
theorem et_tru {f : D → Option Bool} (ht : ∀ K B H x d b, Ex B H → Is K B x d → f d = some b → TruV K x H b) (h : ED T W X a ga) (he : ∀ whole, isTrue a X.env whole = (do let v ← whole; standAt a.pos; holding [v] (truthy v)) := by intro _; rfl) : ET T W X a (mTruB f ga) :=
  pt_imp (pt_truth h he) fun σ H Q ⟨ρ, B, Fs, s, h⟩ => bindD pl_T s h fun v d ρ1 H1 B1 Fs1 s1 i1 st1 h => by
    cases q : f d with
    | none => rw [q] at h; exact (show False from h).elim
    | some k =>
      rw [q] at h
      exact ⟨k, ht _ _ _ _ _ _ s1.ex i1 q, h H1 B1 Fs1 s1 .refl⟩
/-! ### lists of expressions -/
theorem ead_nil : EAD T W X [] mNil := pa_imp pa_nil fun σ H Q ⟨ρ, B, Fs, s, h⟩ => h [] H B Fs s .nil .refl
theorem ead_cons {g : M (List D)} (ha : ED T W X a ga) (hr : EAD T W X es g) (hs : starEach (a :: es) X.env = (false, eval a X.env) :: starEach es X.env := by rfl) : EAD T W X (a :: es) (mCons ga g) :=
  pa_imp (pa_cons ha hr hs) fun σ H Q ⟨ρ, B, Fs, s, h⟩ => bindD pl_AD s h fun v d ρ1 H1 B1 Fs1 s1 i1 st1 h => bindAD pl_AD s1 h fun vs ds ρ2 H2 B2 Fs2 s2 i2 st2 h =>
    h (v :: vs) H2 B2 Fs2 s2 (.cons (i1.mono st2.ex) i2) .refl
theorem ea_nil : EA T W X [] mNil := pa_imp pa_nil fun σ H Q ⟨ρ, B, Fs, s, h⟩ => h [] H B Fs [] s .nil (fun _ z => by cases z) ⟨fun _ _ _ _ q => q, fun _ q => q, Ex.refl _, fun a q => .inl q, fun a q => .inl (q.elim id fun z => by cases z)⟩
/-- temporaries stand while something else runs -/
theorem Step.temps {H B H1 B1 : Hp} {F F1 R : Addr → Prop} (s : Step H B F H1 B1 F1) : Step H B (fun a => F a ∨ R a) H1 B1 (fun a => F1 a ∨ R a) :=
  ⟨fun a o n t e => s.keep a o (fun z => n (.inl z)) t e, s.there, s.ex, fun a e => (s.newB a e).elim .inl fun z => .inr (z.elim .inl fun z => .inr (.inl z)), fun a e => e.elim (fun z => (s.newF a z).elim (fun z => .inl (.inl z)) .inr) fun z => .inl (.inr z)⟩
theorem Off.stay {H B H1 B1 : Hp} {Fs Fs1 : Nat → List Addr} {Fr : List Addr} (o : Off B Fs Fr) (h : ∀ a, a ∈ Fr → ∃ u, H a = some u ∧ Ownable u) (s : Step H B (Own Fs) H1 B1 (Own Fs1)) : Off B1 Fs1 Fr ∧ ∀ a u, a ∈ Fr → H a = some u → H1 a = some u := by
  refine ⟨fun a ha => ⟨fun i hi => ?_, ?_⟩, fun a u ha e => s.keep a u (fun ⟨i, z⟩ => (o a ha).1 i z) (fun ps z => ?_) e⟩
  · rcases s.newF a ⟨i, hi⟩ with ⟨j, z⟩ | z
    · exact (o a ha).1 j z
    · obtain ⟨u, e, own⟩ := h a ha
      exact z.no e own
  · cases q : B1 a with
    | none => rfl
    | some u =>
      rcases s.newB a (by rw [q]; simp) with z | z | ⟨j, z⟩
      · exact absurd (o a ha).2 z
      · obtain ⟨u, e, own⟩ := h a ha
        exact (z u e own).elim
      · exact ((o a ha).1 j z).elim
  · obtain ⟨w, e', own⟩ := h a ha
    rw [e] at e'; cases e'
    rw [z] at own; exact own
theorem ea_cons {ga : M Sl} {g : M (List Sl)} (ha : EO T W X a ga) (hr : EA T W X es g) (hs : starEach (a :: es) X.env = (false, eval a X.env) :: starEach es X.env := by rfl) : EA T W X (a :: es) (mCons ga g) := by
  refine pa_imp (pa_cons ha hr hs) fun σ H Q ⟨ρ, B, Fs, s, h⟩ => bindO pl_A s h fun v t ρ1 H1 B1 Fs1 Fr s1 i1 o1 st1 h => ?_
  refine ⟨ρ1, B1, Fs1, s1, ?_⟩
  unfold M.bind at h
  cases e : g ρ1 with
  | fail => rw [e] at h; exact h
  | exc c fs ρ2 =>
    rw [e] at h
    intro cls dx H' B' Fs' h1 h2 h3
    refine h cls dx H' B' Fs' h1 h2 ?_
    have z := h3.temps (R := fun a => a ∈ Fr)
    exact ⟨z.keep, z.there, z.ex, z.newB, fun a e => z.newF a (.inl e)⟩
  | ok ss ρ2 =>
    rw [e] at h
    intro vs H2 B2 Fs2 Fr2 s2 i2 o2 st2
    have st0 : Step H1 B1 (Own Fs1) H2 B2 (Own Fs2) := ⟨st2.keep, st2.there, st2.ex, st2.newB, fun a e => st2.newF a (.inl e)⟩
    obtain ⟨o1', k1⟩ := o1.stay (fun a ha => i1.there a ha) st0
    have dj : ∀ a, a ∈ Fr → a ∉ Fr2 := fun a h1 h2 => by
      rcases st2.newF a (.inr h2) with ⟨i, z⟩ | z
      · exact (o1 a h1).1 i z
      · obtain ⟨u, q, own⟩ := i1.there a h1
        exact z.no q own
    refine h (v :: vs) H2 B2 Fs2 (Fr ++ Fr2) s2 (.cons (i1.mono st2.ex k1) i2 dj) (fun a ha => ?_) ?_
    · rcases List.mem_append.mp ha with z | z
      · exact o1' a z
      · exact o2 a z
    · have z := st2.temps (R := fun a => a ∈ Fr)
      exact ⟨z.keep, z.there, z.ex, z.newB, fun a e => z.newF a (e.elim (fun q => .inl (.inl q)) fun q => (List.mem_append.mp q).elim .inr fun q => .inl (.inr q))⟩
/-- owned trees let go: data -/
theorem ead_o {g : M (List Sl)} (h : EA T W X es g) : EAD T W X es (mFzL g) := pa_imp h fun σ H Q ⟨ρ, B, Fs, s, h⟩ =>
  bindA pl_AD s h fun vs ss ρ1 H1 B1 Fs1 Fr s1 i1 o st q =>
    have z := s1.letgo (fun a ha => i1.there a ha) o
    q vs H1 (ad B1 H1 Fr) Fs1 z.1 (by rw [← frzL_eq]; exact i1.frz (ad_ex s1.ex) fun a o ha q => ad_in ha q) z.2
theorem ed_tup {g : M (List D)} {k : Nat} (h : EAD T W X es g) : ED T W X (.Tuple es k pos) (mTup g) :=
  pe_imp (pe_tup (pos := pos) h) fun σ H Q ⟨ρ, B, Fs, s, h⟩ => bindAD pl_D s h fun vs ds ρ1 H1 B1 Fs1 s1 i1 st h => by
    obtain ⟨z, e, k⟩ := PCt.of s1 h
    unfold mkTup at e
    split at e
    · rename_i hl
      cases e
      have el : vs.length = ds.length := i1.length
      exact ⟨by rw [el]; exact lineOk_le hl, fun p hp => k.tup s1.ex s1.noT i1 hp⟩
    · cases e
theorem eo_lst {g : M (List Sl)} (h : EA T W X es g) : EO T W X (.List es pos) (mLst g) :=
  pe_imp (pe_lst (pos := pos) h) fun σ H Q ⟨ρ, B, Fs, s, h⟩ => bindA pl_O s h fun vs ss ρ1 H1 B1 Fs1 Fr s1 i1 o st h => by
    unfold mkLst M.of at h
    split at h
    · rename_i q
      split at q
      · rename_i hl
        cases q
        refine ⟨by rw [i1.length]; exact lineOk_le hl, fun p hp => ?_⟩
        have npF : p ∉ Fr := fun z => by
          obtain ⟨u, q, _⟩ := i1.there p z
          rw [hp] at q; cases q
        have g := Grow.own (o := .lst vs) s1.ex s1.noT hp
        have pB : B1 p = none := by
          cases q : B1 p with
          | none => rfl
          | some u => rw [s1.ex _ _ q] at hp; cases hp
        refine h _ _ B1 Fs1 (p :: Fr) (s1.grow g) (.ol upd_same npF (i1.mono (Ex.refl _) fun a u ha e => g.ex a u e)) (fun a ha => ?_) ?_
        · rcases List.mem_cons.mp ha with z | z
          · subst z
            refine ⟨fun i hi => ?_, pB⟩
            obtain ⟨u, q, _⟩ := s1.alive hi
            rw [hp] at q; cases q
          · exact o a z
        · have z := g.step (F := fun a => Own Fs1 a ∨ a ∈ Fr)
          refine ⟨z.keep, z.there, z.ex, z.newB, fun a e => ?_⟩
          rcases e with e | e
          · exact .inl (.inl e)
          · rcases List.mem_cons.mp e with q | q
            · subst q; exact .inr (nt hp)
            · exact .inl (.inr q)
      · cases q
    · exact h.elim
end
end DL

end
section
set_option Elab.async false
set_option linter.all false
set_option autoImplicit false
set_option maxRecDepth 100000
set_option maxHeartbeats 4000000
/-! The data layer, part 3: statements, loops, what a def promises. -/
namespace DL
open PySem PySem.Spec L2 NdefX
inductive Fl where
  | nx (ρ : Env) | rt (s : Sl) (ρ : Env) | bk (ρ : Env) | ct (ρ : Env) | exc (c : Str) (fs : List (Str × D)) (ρ : Env) | fail
abbrev SM := Env → Fl
/-- the slots of IO hold what they held -/
structure IOk (IO : List Nat) (σ σ' : St) : Prop where
  at_ : ∀ k, k ∈ IO → σ'[k]? = σ[k]?
  len : σ'.length = σ.length
theorem IOk.refl {IO : List Nat} {σ : St} : IOk IO σ σ := ⟨fun _ _ => rfl, rfl⟩
theorem IOk.trans {IO : List Nat} {σ σ1 σ2 : St} (a : IOk IO σ σ1) (b : IOk IO σ1 σ2) : IOk IO σ σ2 := ⟨fun k h => (b.at_ k h).trans (a.at_ k h), b.len.trans a.len⟩
section
variable (T : List NTab) (K : PySem.W.Frag) (IO : List Nat) (W : St → XK)
def postS (r : Fl) (D_ : Ends) (σ : St) (H B : Hp) (F : Addr → Prop) : Prop := match r with
  | .nx ρ => ∀ σ' H' B' Fs', SR T K ρ σ' H' B' Fs' → Step H B F H' B' (Own Fs') → IOk IO σ σ' → D_.nx σ' H'
  | .bk ρ => ∀ σ' H' B' Fs', SR T K ρ σ' H' B' Fs' → Step H B F H' B' (Own Fs') → IOk IO σ σ' → D_.bk σ' H'
  | .ct ρ => ∀ σ' H' B' Fs', SR T K ρ σ' H' B' Fs' → Step H B F H' B' (Own Fs') → IOk IO σ σ' → D_.ct σ' H'
  | .rt s ρ => ∀ v σ' H' B' Fs' Fr, SR T K ρ σ' H' B' Fs' → Ow K B' H' v s Fr → Off B' Fs' Fr → Step H B F H' B' (fun a => Own Fs' a ∨ a ∈ Fr) → IOk IO σ σ' → D_.rt v H'
  | .exc c fs ρ => ∀ cls dx σ' H' B' Fs', SR T K ρ σ' H' B' Fs' → excAt K B' H' c fs cls dx → Step H B F H' B' (Own Fs') → IOk IO σ σ' → W σ' cls dx H'
  | .fail => False
def tS (s : SM) : TS := fun D_ σ H => ∃ ρ B Fs, SR T K ρ σ H B Fs ∧ postS T K IO W (s ρ) D_ σ H B (Own Fs)
end
abbrev ES (T : List NTab) (IO : List Nat) (W : St → XK) (X : Cx) (st : Stmt) (s : SM) : Prop := PS X st (tS T X.K IO W s)
abbrev ESs (T : List NTab) (IO : List Nat) (W : St → XK) (X : Cx) (st : List Stmt) (s : SM) : Prop := PSs X st (tS T X.K IO W s)
def bindS {α : Type} (g : M α) (k : α → SM) : SM := fun ρ => match g ρ with
  | .ok a ρ' => k a ρ'
  | .exc c fs ρ' => .exc c fs ρ'
  | .fail => .fail
section
variable {T : List NTab} {K : PySem.W.Frag} {IO : List Nat} {W : St → XK} {ρ : Env} {σ σ1 : St} {H B H1 B1 : Hp} {Fs : Nat → List Addr} {F F1 : Addr → Prop} {D_ : Ends}
theorem postS.from {r : Fl} (s : Step H B F H1 B1 F1) (io : IOk IO σ σ1) (h : postS T K IO W r D_ σ H B F) : postS T K IO W r D_ σ1 H1 B1 F1 := by
  cases r with
  | nx ρ => exact fun σ' H' B' Fs' a b c => h σ' H' B' Fs' a (s.trans b) (io.trans c)
  | bk ρ => exact fun σ' H' B' Fs' a b c => h σ' H' B' Fs' a (s.trans b) (io.trans c)
  | ct ρ => exact fun σ' H' B' Fs' a b c => h σ' H' B' Fs' a (s.trans b) (io.trans c)
  | rt t ρ => exact fun v σ' H' B' Fs' Fr a b c d e => h v σ' H' B' Fs' Fr a b c (s.trans d) (io.trans e)
  | exc c fs ρ => exact fun cls dx σ' H' B' Fs' a b c d => h cls dx σ' H' B' Fs' a b (s.trans c) (io.trans d)
  | fail => exact h
theorem postS.x {c : Str} {fs : List (Str × D)} (h : postS T K IO W (.exc c fs ρ) D_ σ H B F) : postX T K (W σ) c fs ρ σ H B F := fun cls dx H' B' Fs' a b c => h cls dx σ H' B' Fs' a b c .refl
theorem sbD {g : M D} {k : D → SM} {Q : VK} (s : SR T K ρ σ H B Fs) (h : postS T K IO W (bindS g k ρ) D_ σ H B (Own Fs))
    (go : ∀ v d ρ1 H1 B1 Fs1, SR T K ρ1 σ H1 B1 Fs1 → Is K B1 v d → Step H B (Own Fs) H1 B1 (Own Fs1) → postS T K IO W (k d ρ1) D_ σ H1 B1 (Own Fs1) → Q v H1) : tD T K W g σ H Q := by
  refine ⟨ρ, B, Fs, s, ?_⟩
  unfold bindS at h
  cases e : g ρ with
  | ok d ρ1 =>
    rw [e] at h
    exact fun v H' B' Fs' h1 h2 h3 => go v d ρ1 H' B' Fs' h1 h2 h3 (h.from h3 .refl)
  | exc c fs ρ1 => rw [e] at h; exact h.x
  | fail => rw [e] at h; exact h.elim
theorem sbT {g : M Bool} {k : Bool → SM} {Q : Bool → Hp → Prop} (s : SR T K ρ σ H B Fs) (h : postS T K IO W (bindS g k ρ) D_ σ H B (Own Fs))
    (go : ∀ d ρ1 H1 B1 Fs1, SR T K ρ1 σ H1 B1 Fs1 → Step H B (Own Fs) H1 B1 (Own Fs1) → postS T K IO W (k d ρ1) D_ σ H1 B1 (Own Fs1) → Q d H1) : tT T K W g σ H Q := by
  refine ⟨ρ, B, Fs, s, ?_⟩
  unfold bindS at h
  cases e : g ρ with
  | ok d ρ1 =>
    rw [e] at h
    exact fun H' B' Fs' h1 h3 => go d ρ1 H' B' Fs' h1 h3 (h.from h3 .refl)
  | exc c fs ρ1 => rw [e] at h; exact h.x
  | fail => rw [e] at h; exact h.elim
theorem sbO {g : M Sl} {k : Sl → SM} {Q : VK} (s : SR T K ρ σ H B Fs) (h : postS T K IO W (bindS g k ρ) D_ σ H B (Own Fs))
    (go : ∀ v t ρ1 H1 B1 Fs1 Fr, SR T K ρ1 σ H1 B1 Fs1 → Ow K B1 H1 v t Fr → Off B1 Fs1 Fr → Step H B (Own Fs) H1 B1 (fun a => Own Fs1 a ∨ a ∈ Fr) → postS T K IO W (k t ρ1) D_ σ H1 B1 (fun a => Own Fs1 a ∨ a ∈ Fr) → Q v H1) : tO T K W g σ H Q := by
  refine ⟨ρ, B, Fs, s, ?_⟩
  unfold bindS at h
  cases e : g ρ with
  | ok d ρ1 =>
    rw [e] at h
    exact fun v H' B' Fs' Fr h1 h2 h3 h4 => go v d ρ1 H' B' Fs' Fr h1 h2 h3 h4 (h.from h4 .refl)
  | exc c fs ρ1 => rw [e] at h; exact h.x
  | fail => rw [e] at h; exact h.elim
theorem sbA {g : M (List Sl)} {k : List Sl → SM} {Q : List V → Hp → Prop} (s : SR T K ρ σ H B Fs) (h : postS T K IO W (bindS g k ρ) D_ σ H B (Own Fs))
    (go : ∀ v t ρ1 H1 B1 Fs1 Fr, SR T K ρ1 σ H1 B1 Fs1 → OwAll K B1 H1 v t Fr → Off B1 Fs1 Fr → Step H B (Own Fs) H1 B1 (fun a => Own Fs1 a ∨ a ∈ Fr) → postS T K IO W (k t ρ1) D_ σ H1 B1 (fun a => Own Fs1 a ∨ a ∈ Fr) → Q v H1) : tA T K W g σ H Q := by
  refine ⟨ρ, B, Fs, s, ?_⟩
  unfold bindS at h
  cases e : g ρ with
  | ok d ρ1 =>
    rw [e] at h
    exact fun v H' B' Fs' Fr h1 h2 h3 h4 => go v d ρ1 H' B' Fs' Fr h1 h2 h3 h4 (h.from h4 .refl)
  | exc c fs ρ1 => rw [e] at h; exact h.x
  | fail => rw [e] at h; exact h.elim
/-- a temporary becomes the content of a slot; what the slot held is dropped -/
theorem SR.set {i : Nat} {v : V} {t : Sl} {Fr : List Addr} (s : SR T K ρ σ H B Fs) (hl : ρ.length ≤ σ.length) (ilt : i < ρ.length) (h : Ow K B H v t Fr) (o : Off B Fs Fr) :
    SR T K (ρ.set i (some t)) (σ.set i (some v)) H B (setF Fs i Fr) ∧ Step H B (fun a => Own Fs a ∨ a ∈ Fr) H B (Own (setF Fs i Fr)) := by
  refine ⟨s.put ilt (fun j hj => List.getElem?_set_ne (Ne.symm hj)) (fun u q => ?_) (fun q => by cases q) (Ex.refl B) s.ex s.tabs s.noT (fun _ _ _ _ _ q => q) (fun a ha => ⟨fun j _ => (o a ha).1 j, (o a ha).2⟩) (fun j a _ ha => s.offB j a ha), fun _ _ _ _ q => q, fun _ q => q, Ex.refl B, fun a q => .inl q, fun a q => .inl ?_⟩
  · cases q
    exact ⟨v, List.getElem?_set_self (Nat.lt_of_lt_of_le ilt hl), h⟩
  · rcases own_setF q with q | q
    · exact .inr q
    · exact .inl q
end
/-! ### meanings -/
def sNext : SM := fun ρ => .nx ρ
def sSeq (a b : SM) : SM := fun ρ => match a ρ with
  | .nx ρ' => b ρ'
  | r => r
def setV (i : Nat) (t : Sl) (ρ : Env) : Option Env := if i < ρ.length then some (ρ.set i (some t)) else none
def nxO : Option Env → Fl
  | some ρ => .nx ρ
  | none => .fail
def sAsg (i : Nat) (g : M Sl) : SM := bindS g fun t ρ => nxO (setV i t ρ)
def sPar (i j : Nat) (g : M (List Sl)) : SM := bindS g fun ts ρ => match ts with
  | [t, u] => nxO ((setV i t ρ).bind (setV j u))
  | _ => .fail
def sDrop (g : M Sl) : SM := bindS g fun _ ρ => .nx ρ
def sRet (g : M Sl) : SM := bindS g fun t ρ => .rt t ρ
def sRetN : SM := fun ρ => .rt (.d .non) ρ
def sBreak : SM := fun ρ => .bk ρ
def sCont : SM := fun ρ => .ct ρ
def sFail : SM := fun _ => .fail
def sIf (c : M Bool) (a b : SM) : SM := bindS c fun x => if x = true then a else b
/-- targets -/
abbrev TgM := D → Env → Option Env
def tgName (i : Nat) : TgM := fun d ρ => setV i (.d d) ρ
abbrev TgsM := List D → Env → Option Env
def tgsNil : TgsM := fun ds ρ => match ds with
  | [] => some ρ
  | _ => none
def tgsCons (t : TgM) (r : TgsM) : TgsM := fun ds ρ => match ds with
  | d :: l => (t d ρ).bind (r l)
  | [] => none
def tgTup (n : Nat) (t : TgsM) : TgM := fun d ρ => match d with
  | .tup ds => if ds.length = n then t ds ρ else none
  | _ => none
def sTgt (g : M D) (t : TgM) : SM := bindS g fun d ρ => nxO (t d ρ)
def loopL (t : TgM) (b : SM) : List D → SM
  | [] => fun ρ => .nx ρ
  | d :: r => fun ρ => match t d ρ with
    | none => .fail
    | some ρ1 => match b ρ1 with
      | .nx ρ2 => loopL t b r ρ2
      | .ct ρ2 => loopL t b r ρ2
      | .bk ρ2 => .nx ρ2
      | x => x
/-- what is walked: the items -/
def itemsL : D → Option (List D)
  | .lst l => some l
  | _ => none
def itemsT : D → Option (List D)
  | .tup l => some l
  | _ => none
def sFor (f : D → Option (List D)) (g : M D) (t : TgM) (b : SM) : SM := bindS g fun d ρ => match f d with
  | some l => loopL t b l ρ
  | none => .fail
def whileN (c : M Bool) (b : SM) : Nat → SM
  | 0 => fun _ => .fail
  | n + 1 => bindS c fun x => if x = true then (fun ρ => match b ρ with
      | .nx ρ2 => whileN c b n ρ2
      | .ct ρ2 => whileN c b n ρ2
      | .bk ρ2 => .nx ρ2
      | r => r) else sNext
section
variable {T : List NTab} {IO : List Nat} {W : St → XK} {X : Cx} {st : Stmt} {sts rest body : List Stmt} {a b c e iter : Expr} {es : List Expr} {pos p : Pos} {ga gb : M D} {go_ : M Sl} {x y : Str} {s1 s2 : SM}
theorem ess_nil : ESs T IO W X [] sNext := pss_imp pss_nil fun D_ σ H ⟨ρ, B, Fs, s, h⟩ => h σ H B Fs s .refl .refl
theorem ess_one (h : ES T IO W X st s1) : ESs T IO W X [st] s1 := pss_one h
theorem ess_cons (h1 : ES T IO W X st s1) (h2 : ESs T IO W X sts s2) : ESs T IO W X (st :: sts) (sSeq s1 s2) := by
  refine pss_imp (pss_cons h1 h2) fun D_ σ H ⟨ρ, B, Fs, s, h⟩ => ⟨ρ, B, Fs, s, ?_⟩
  unfold sSeq at h
  cases e : s1 ρ with
  | nx ρ1 =>
    rw [e] at h
    intro σ' H' B' Fs' q1 q2 q3
    exact ⟨ρ1, B', Fs', q1, h.from q2 q3⟩
  | _ => rw [e] at h; exact h
theorem ess_imp {g : SM} (h : ESs T IO W X sts g) {g' : SM} (q : g = g') : ESs T IO W X sts g' := q ▸ h
theorem es_never : ES T IO W X st sFail := ⟨fun _ _ _ _ _ _ ⟨_, _, _, _, h⟩ => h.elim⟩
theorem es_pass : ES T IO W X (.Pass pos) sNext := ps_imp ps_pass fun D_ σ H ⟨ρ, B, Fs, s, h⟩ => h σ H B Fs s .refl .refl
theorem es_break : ES T IO W X (.Break pos) sBreak := ps_imp ps_break fun D_ σ H ⟨ρ, B, Fs, s, h⟩ => h σ H B Fs s .refl .refl
theorem es_cont : ES T IO W X (.Continue pos) sCont := ps_imp ps_continue fun D_ σ H ⟨ρ, B, Fs, s, h⟩ => h σ H B Fs s .refl .refl
theorem es_doc {j : Nat} {k : Str} {q : Pos} : ES T IO W X (.Expr (.Constant (.str k) j q) pos) sNext := ps_imp ps_doc fun D_ σ H ⟨ρ, B, Fs, s, h⟩ => h σ H B Fs s .refl .refl
theorem es_ret (h : EO T W X e go_) : ES T IO W X (.Return (some e) pos) (sRet go_) :=
  ps_imp (ps_ret h) fun D_ σ H ⟨ρ, B, Fs, s, h⟩ => sbO s h fun v t ρ1 H1 B1 Fs1 Fr q1 q2 q3 q4 q => q v σ H1 B1 Fs1 Fr q1 q2 q3 .refl .refl
theorem es_retN : ES T IO W X (.Return none pos) sRetN := ps_imp ps_retN fun D_ σ H ⟨ρ, B, Fs, s, h⟩ =>
  h .non σ H B Fs [] s (.d .non) (fun _ z => by cases z) ⟨fun _ _ _ _ q => q, fun _ q => q, Ex.refl _, fun a q => .inl q, fun a q => .inl (q.elim id fun z => by cases z)⟩ .refl
theorem es_expr (h : EO T W X e go_) (hs : swapsWith e none pos.line X.env = pure false := by rfl) : ES T IO W X (.Expr e pos) (sDrop go_) :=
  ps_imp (ps_expr h hs) fun D_ σ H ⟨ρ, B, Fs, s, h⟩ => sbO s h fun v t ρ1 H1 B1 Fs1 Fr q1 q2 q3 q4 q => q σ H1 B1 Fs1 q1 ⟨fun _ _ _ _ z => z, fun _ z => z, Ex.refl _, fun a z => .inl z, fun a z => .inl (.inl z)⟩ .refl
theorem es_if {g : M Bool} (hc : ET T W X c g) (ha : ESs T IO W X body s1) (hb : ESs T IO W X rest s2) : ES T IO W X (.If c body rest pos) (sIf g s1 s2) :=
  ps_imp (ps_if hc ha hb) fun D_ σ H ⟨ρ, B, Fs, s, h⟩ => sbT s h fun b ρ1 H1 B1 Fs1 q1 q2 q => by
    cases b with
    | true => rw [if_pos rfl] at q ⊢; exact ⟨ρ1, B1, Fs1, q1, q⟩
    | false => rw [if_neg Bool.false_ne_true] at q ⊢; exact ⟨ρ1, B1, Fs1, q1, q⟩
/-- the two lists of slots have one length -/
structure LenR (ρ : Env) (σ : St) : Prop where
  le : ρ.length ≤ σ.length
theorem SR.setV {ρ ρ' : Env} {σ : St} {H B : Hp} {Fs : Nat → List Addr} {K : PySem.W.Frag} {i : Nat} {v : V} {t : Sl} {Fr : List Addr} (s : SR T K ρ σ H B Fs) (e : DL.setV i t ρ = some ρ') (hl : i < σ.length) (h : Ow K B H v t Fr) (o : Off B Fs Fr) :
    SR T K ρ' (σ.set i (some v)) H B (setF Fs i Fr) ∧ Step H B (fun a => Own Fs a ∨ a ∈ Fr) H B (Own (setF Fs i Fr)) := by
  unfold DL.setV at e
  split at e
  · rename_i ilt
    cases e
    refine ⟨s.put ilt (fun j hj => List.getElem?_set_ne (Ne.symm hj)) (fun u q => ?_) (fun q => by cases q) (Ex.refl B) s.ex s.tabs s.noT (fun _ _ _ _ _ q => q) (fun a ha => ⟨fun j _ => (o a ha).1 j, (o a ha).2⟩) (fun j a _ ha => s.offB j a ha), fun _ _ _ _ q => q, fun _ q => q, Ex.refl B, fun a q => .inl q, fun a q => .inl ?_⟩
    · cases q
      exact ⟨v, List.getElem?_set_self hl, h⟩
    · rcases own_setF q with q | q
      · exact .inr q
      · exact .inl q
  · cases e
theorem ioSet {i : Nat} {v : Option V} {σ : St} (h : i ∉ IO) : IOk IO σ (σ.set i v) := ⟨fun k hk => List.getElem?_set_ne (fun z => h (by rw [z]; exact hk)), List.length_set⟩
/-- readings with the number of slots known -/
theorem ps_len {t t' : TS} (h : PS X st t) (i : ∀ D σ H, σ.length = X.N.length → t' D σ H → t D σ H) : PS X st t' := ⟨fun pins s σ H D I w => h.run pins s σ H D I (i _ _ _ I.len w)⟩
theorem pg_len {t t' : TG} (h : PG X e t) (i : ∀ v σ H Q, σ.length = X.N.length → t' v σ H Q → t v σ H Q) : PG X e t' := ⟨fun pins s σ H v u Q I r w => h.run pins s σ H v u Q I r (i _ _ _ _ I.len w)⟩
theorem es_set {i : Nat} {q : Pos} (hN : X.N.Nodup) (he : EO T W X e go_) (hi : X.N[i]? = some x := by rfl) (hx : Loc X.env.scope x := by first | exact .inl rfl | exact .inr rfl) (hio : i ∉ IO := by decide) (hs : swapsWith e (some (.Name x q)) pos.line X.env = pure false := by rfl) (hf : X.fn x = true ∨ X.env.scope.names.lookup x = some .local := by first | exact .inl rfl | exact .inr rfl | assumption) :
    ES T IO W X (.Assign [.Name x q] e pos) (sAsg i go_) :=
  ps_len (ps_set hN hi hx he hs hf) fun D_ σ H len ⟨ρ, B, Fs, s, h⟩ => sbO s h fun v t ρ1 H1 B1 Fs1 Fr q1 q2 q3 q4 h => by
    show D_.nx (σ.set i (some v)) H1
    cases e : DL.setV i t ρ1 with
    | none => rw [e] at h; exact h.elim
    | some ρ2 =>
      rw [e] at h
      have il : i < σ.length := by rw [len]; exact (List.getElem?_eq_some_iff.mp hi).1
      obtain ⟨z1, z2⟩ := q1.setV e il q2 q3
      exact h _ _ _ _ z1 z2 (ioSet hio)
theorem es_par {i j : Nat} {px py pt : Pos} {kt k2 : Nat} {pt2 : Pos} {g : M (List Sl)} (hc : X.calm = true) (hN : X.N.Nodup) (hi : X.N[i]? = some x) (hj : X.N[j]? = some y) (hij : i ≠ j)
    (hx : X.env.scope.names.lookup x = some .local) (hy : X.env.scope.names.lookup y = some .local) (ha : EA T W X [a, b] g) (hio : i ∉ IO) (hjo : j ∉ IO)
    (hw : swappedStores [.Tuple [.Name x px, .Name y py] kt pt] (.Tuple [a, b] k2 pt2) X.env = pure (some [x, y]))
    (hs : swapsWithSole [.Tuple [.Name x px, .Name y py] kt pt] (.Tuple [a, b] k2 pt2) pos.line X.env = pure false := by rfl) :
    ES T IO W X (.Assign [.Tuple [.Name x px, .Name y py] kt pt] (.Tuple [a, b] k2 pt2) pos) (sPar i j g) :=
  ps_len (ps_par hc hN hi hj hij hx hy ha hw hs) fun D_ σ H len ⟨ρ, B, Fs, s, h⟩ => sbA s h fun vs ts ρ1 H1 B1 Fs1 Fr q1 q2 q3 q4 h => by
    match ts, q2, h with
    | [], q2, h => exact h.elim
    | [_], q2, h => exact h.elim
    | [t, u], q2, h =>
      have il : i < σ.length := by rw [len]; exact (List.getElem?_eq_some_iff.mp hi).1
      have jl : j < σ.length := by rw [len]; exact (List.getElem?_eq_some_iff.mp hj).1
      cases q2 with
      | @cons v vs' s' ss' F G o1 o2 dj =>
        cases o2 with
        | @cons w ws s'' ss'' F2 G2 o2 o3 dj2 =>
          cases o3
          refine ⟨v, w, rfl, ?_⟩
          simp only [List.append_nil] at q3 q4 dj h
          have h' : postS T X.K IO W (nxO ((DL.setV i t ρ1).bind (DL.setV j u))) D_ σ H1 B1 (fun a => Own Fs1 a ∨ a ∈ F ++ F2) := h
          cases e : DL.setV i t ρ1 with
          | none => rw [e] at h'; exact h'.elim
          | some ρ2 =>
            rw [e] at h'
            have h2 : postS T X.K IO W (nxO (DL.setV j u ρ2)) D_ σ H1 B1 (fun a => Own Fs1 a ∨ a ∈ F ++ F2) := h'
            cases e2 : DL.setV j u ρ2 with
            | none => rw [e2] at h2; exact h2.elim
            | some ρ3 =>
              rw [e2] at h2
              obtain ⟨z1, z2⟩ := q1.setV e il o1 (fun a ha => q3 a (List.mem_append_left _ ha))
              have of2 : Off B1 (setF Fs1 i F) F2 := fun a ha => ⟨fun k hk => by
                by_cases z : k = i
                · subst z; rw [setF_same] at hk; exact dj a hk ha
                · rw [setF_ne z] at hk; exact (q3 a (List.mem_append_right _ ha)).1 k hk, (q3 a (List.mem_append_right _ ha)).2⟩
              obtain ⟨z3, z4⟩ := z1.setV e2 (by rw [List.length_set]; exact jl) o2 of2
              refine h2 _ _ _ _ z3 ?_ ((ioSet hio).trans (ioSet hjo))
              have z5 := z2.temps (R := fun a => a ∈ F2)
              have z6 := z5.trans z4
              exact z6.congr (fun a => ⟨fun r => r.elim (fun r => r.elim .inl fun r => .inr (List.mem_append_left _ r)) fun r => .inr (List.mem_append_right _ r), fun r => r.elim (fun r => .inl (.inl r)) fun r => (List.mem_append.mp r).elim (fun r => .inl (.inr r)) .inr⟩) fun a q => q
    | _ :: _ :: _ :: _, q2, h => exact h.elim
end
end DL

end
section
set_option Elab.async false
set_option linter.all false
set_option autoImplicit false
set_option maxRecDepth 100000
set_option maxHeartbeats 4000000
/-! The data layer, part 4: targets, walks, for, while, comprehensions. -/
namespace DL
open PySem PySem.Spec L2 NdefX
/-! ### targets -/
def gD (T : List NTab) (K : PySem.W.Frag) (IO : List Nat) (t : TgM) : TG := fun v σ H Q => ∃ ρ B Fs d ρ', SR T K ρ σ H B Fs ∧ Is K B v d ∧ t d ρ = some ρ' ∧ ∀ σ' Fs', SR T K ρ' σ' H B Fs' → Step H B (Own Fs) H B (Own Fs') → IOk IO σ σ' → Q σ' H
def gDs (T : List NTab) (K : PySem.W.Frag) (IO : List Nat) (t : TgsM) : TGs := fun vs σ H Q => ∃ ρ B Fs ds ρ', SR T K ρ σ H B Fs ∧ IsAll K B vs ds ∧ t ds ρ = some ρ' ∧ ∀ σ' Fs', SR T K ρ' σ' H B Fs' → Step H B (Own Fs) H B (Own Fs') → IOk IO σ σ' → Q σ' H
abbrev EG (T : List NTab) (IO : List Nat) (X : Cx) (tg : Expr) (t : TgM) : Prop := PG X tg (gD T X.K IO t)
abbrev EGs (T : List NTab) (IO : List Nat) (X : Cx) (tgs : List Expr) (t : TgsM) : Prop := PGs X tgs (gDs T X.K IO t)
section
variable {T : List NTab} {IO : List Nat} {W : St → XK} {X : Cx} {e iter tg : Expr} {es : List Expr} {pos p : Pos} {x : Str}
theorem pg_imp {t t' : TG} (h : PG X e t) (i : ∀ v σ H Q, t' v σ H Q → t v σ H Q) : PG X e t' := ⟨fun pins s σ H v u Q I r w => h.run pins s σ H v u Q I r (i _ _ _ _ w)⟩
theorem pgs_imp {t t' : TGs} (h : PGs X es t) (i : ∀ v σ H Q, t' v σ H Q → t v σ H Q) : PGs X es t' := ⟨fun pins s σ H v u Q I r w => h.run pins s σ H v u Q I r (i _ _ _ _ w)⟩
theorem eg_name {i : Nat} (hN : X.N.Nodup) (hi : X.N[i]? = some x := by rfl) (hx : Loc X.env.scope x := by first | exact .inl rfl | exact .inr rfl) (hio : i ∉ IO := by decide) (hf : X.fn x = true ∨ X.env.scope.names.lookup x = some .local := by first | exact .inl rfl | exact .inr rfl | assumption) : EG T IO X (.Name x pos) (tgName i) :=
  pg_len (pg_name hN hi hx hf) fun v σ H Q len ⟨ρ, B, Fs, d, ρ', s, i1, e, k⟩ => by
    have il : i < σ.length := by rw [len]; exact (List.getElem?_eq_some_iff.mp hi).1
    obtain ⟨z1, z2⟩ := s.setV e il (.d i1) (fun _ z => by cases z)
    exact k _ _ z1 (z2.congr (fun a => ⟨(fun r => r.elim id fun z => by cases z), .inl⟩) fun a q => q) (ioSet hio)
theorem egs_nil : EGs T IO X [] tgsNil := pgs_imp pgs_nil fun vs σ H Q ⟨ρ, B, Fs, ds, ρ', s, i1, e, k⟩ => by
  cases ds with
  | nil =>
    cases i1
    cases e
    exact ⟨rfl, k σ Fs s .refl .refl⟩
  | cons _ _ => cases e
theorem egs_cons {t : TgM} {r : TgsM} (h1 : EG T IO X e t) (h2 : EGs T IO X es r) (hs : (assignEach (e :: es) X.env).map (·.2) = assign e X.env :: (assignEach es X.env).map (·.2) := by rfl) : EGs T IO X (e :: es) (tgsCons t r) :=
  pgs_imp (pgs_cons h1 h2 hs) fun vs σ H Q ⟨ρ, B, Fs, ds, ρ', s, i1, e, k⟩ => by
    cases i1 with
    | nil => cases e
    | @cons v vs d ds i1 i2 =>
      have e' : (t d ρ).bind (r ds) = some ρ' := e
      cases q : t d ρ with
      | none => rw [q] at e'; cases e'
      | some ρ1 =>
        rw [q] at e'
        exact ⟨_, _, rfl, ρ, B, Fs, d, ρ1, s, i1, q, fun σ1 Fs1 s1 st1 io1 => ⟨ρ1, B, Fs1, ds, ρ', s1, i2, e', fun σ2 Fs2 s2 st2 io2 => k σ2 Fs2 s2 (st1.trans st2) (io1.trans io2)⟩⟩
theorem eg_tup {k n : Nat} {t : TgsM} (hc : X.calm = true) (h : EGs T IO X es t) (hn : (assignEach es X.env).length = n := by rfl) (hst : (assignEach es X.env).findIdx? (·.1) = none := by rfl) : EG T IO X (.Tuple es k pos) (tgTup n t) :=
  pg_imp (pg_tup hc h hn hst) fun v σ H Q ⟨ρ, B, Fs, d, ρ', s, i1, e, k⟩ => by
    unfold tgTup at e
    cases i1 with
    | @tup a xs ds h1 h2 =>
      simp only at e
      split at e
      · rename_i hl
        exact ⟨a, xs, rfl, s.ex.t h1, by rw [h2.length]; exact hl, ρ, B, Fs, ds, ρ', s, h2, e, k⟩
      · cases e
    | _ => cases e
theorem es_tgt {ga : M D} {t : TgM} (he : ED T W X e ga) (hg : EG T IO X tg t) (hs : swapsWithSole [tg] e pos.line X.env = pure false := by rfl) (hw : swappedStores [tg] e X.env = pure none := by rfl)
    (h1 : (assignEach [tg] X.env).map (·.2) = [assign tg X.env] := by rfl) : ES T IO W X (.Assign [tg] e pos) (sTgt ga t) :=
  ps_imp (ps_asg he hg hs hw h1) fun D_ σ H ⟨ρ, B, Fs, s, h⟩ => sbD s h fun v d ρ1 H1 B1 Fs1 q1 q2 q3 h => by
    cases q : t d ρ1 with
    | none => rw [q] at h; exact h.elim
    | some ρ2 =>
      rw [q] at h
      exact ⟨ρ1, B1, Fs1, d, ρ2, q1, q2, q, fun σ' Fs' a b c => h σ' H1 B1 Fs' a b c⟩
end
/-! ### what is walked -/
/-- J yields the items l, the i-th one with new objects -/
structure Walks (K : PySem.W.Frag) (J : It) (B : Hp) (l : List D) : Prop where
  go : ∀ i H', Ex B H' → i < l.length → J.go i H'
  stop : ∀ H', Ex B H' → J.stop l.length H'
  yld : ∀ i H' B' x H'' d, Ex B B' → Ex B' H' → NoT B' → J.yld i H' x H'' → l[i]? = some d → ∃ B'', Grow H' B' H'' B'' ∧ Is K B'' x d
def iD (T : List NTab) (K : PySem.W.Frag) (W : St → XK) (g : M (List D)) : TI := fun σ H R => ∃ ρ B Fs, SR T K ρ σ H B Fs ∧ match g ρ with
  | .ok l ρ' => ∀ J H' B' Fs', SR T K ρ' σ H' B' Fs' → Step H B (Own Fs) H' B' (Own Fs') → Walks K J B' l → R J H'
  | .exc c fs ρ' => postX T K (W σ) c fs ρ' σ H B (Own Fs)
  | .fail => False
abbrev EI (T : List NTab) (W : St → XK) (X : Cx) (tg iter : Expr) (g : M (List D)) : Prop := PI X tg iter (iD T X.K W g)
def mItems (f : D → Option (List D)) (g : M D) : M (List D) := M.bind g fun d => M.of (f d)
def intsFrom (lo : Int) (n : Nat) : List D := (List.range n).map fun (i : Nat) => D.int (lo + (i : Int))
def big62 (i : Int) : Bool := decide (-(2 ^ 62) ≤ i) && decide (i < 2 ^ 62)
def rng1 : List D → Option (List D)
  | [.int j] => if big62 j then some (intsFrom 0 j.toNat) else none
  | _ => none
def rng2 : List D → Option (List D)
  | [.int i, .int j] => if big62 i && big62 j then some (intsFrom i (j - i).toNat) else none
  | _ => none
def enumL : List D → Option (List D)
  | [.lst l] => some ((List.range l.length).zipWith (fun i d => .tup [.int (i : Nat), d]) l)
  | _ => none
def zipD : List D → List D → List D := List.zipWith fun a b => .tup [a, b]
def zipLL : List D → Option (List D)
  | [.lst a, .lst b] => some (zipD a b)
  | [.tup a, .tup b] => some (zipD a b)
  | _ => none
section
variable {K : PySem.W.Frag} {B : Hp} {a b : Addr} {xs ys : List V} {l m : List D}
theorem sql_inj {H : Hp} {P : Program} {w : World} {h : Heap} (hok : HOk P w H h) (kin : K.In h) (h1 : SqL K H a xs) (h2 : SqL K H a ys) : xs = ys := by
  rcases h1 with h1 | ⟨o, its, n, hk, hc, hd, hs, hz, r⟩
  · obtain ⟨_, its, n, r, e⟩ := h1.ok hok
    rcases h2 with h2 | ⟨o, its2, n2, hk, hc, hd, hs, hz, r2⟩
    · obtain ⟨_, its2, n2, r2, e2⟩ := h2.ok hok
      rw [e] at e2; cases e2
      exact r.inj r2
    · rw [kin _ _ hk] at e
      cases e
      cases hs
      exact r.inj r2
  · rcases h2 with h2 | ⟨o2, its2, n2, hk2, hc2, hd2, hs2, hz2, r2⟩
    · obtain ⟨_, its2, n2, r2, e2⟩ := h2.ok hok
      rw [kin _ _ hk] at e2
      cases e2
      cases hs
      exact r.inj r2
    · rw [hk] at hk2; cases hk2
      rw [hs] at hs2
      cases hs2
      exact r.inj r2
theorem walks_range {lo : Int} {n : Nat} : Walks K (Itr lo n) B (intsFrom lo n) where
  go := fun i H' _ h => by
    unfold intsFrom at h
    show i < n
    simpa using h
  stop := fun H' _ => by
    unfold intsFrom
    simp [Itr]
  yld := fun i H' B' x H'' d h1 h2 h3 y e => by
    obtain ⟨rfl, rfl⟩ := y
    refine ⟨B', .refl h2 h3, ?_⟩
    unfold intsFrom at e
    rw [List.getElem?_map] at e
    cases q : (List.range n)[i]? with
    | none => rw [q] at e; cases e
    | some j =>
      rw [q] at e
      have ej : j = i := by
        obtain ⟨hj, e2⟩ := List.getElem?_eq_some_iff.mp q
        rw [List.getElem_range] at e2
        exact e2.symm
      cases e
      rw [ej]
      exact .int _
end
/-- the list at a, one reading alone (lists that are read stand still) -/
theorem walks_list {K : PySem.W.Frag} {B : Hp} {a : Addr} {xs : List V} {l : List D} (h : SqL K B a xs) (i : IsAll K B xs l) (one : ∀ H', Ex B H' → ∀ ys, SqL K H' a ys → ys = xs) : Walks K (Itl K a) B l where
  go := fun j H' e h1 => by
    have q : j < xs.length := by rw [i.length]; exact h1
    exact ⟨xs, xs[j], e.l h, by simp [q]⟩
  stop := fun H' e => ⟨xs, e.l h, by rw [i.length]; exact Nat.le_refl _⟩
  yld := fun j H' B' x H'' d h1 h2 h3 y e => by
    obtain ⟨rfl, y⟩ := y
    obtain ⟨v, hv, iv⟩ := i.get e
    have q := y xs ((h1.trans h2).l h)
    rw [hv] at q; cases q
    exact ⟨B', .refl h2 h3, iv.mono h1⟩
theorem walks_tup {K : PySem.W.Frag} {B : Hp} {a : Addr} {xs : List V} {l : List D} (h : SqT K B a xs) (i : IsAll K B xs l) : Walks K (Itt K a) B l where
  go := fun j H' e h1 => by
    have q : j < xs.length := by rw [i.length]; exact h1
    exact ⟨xs, xs[j], e.t h, by simp [q]⟩
  stop := fun H' e => ⟨xs, e.t h, by rw [i.length]; exact Nat.le_refl _⟩
  yld := fun j H' B' x H'' d h1 h2 h3 y e => by
    obtain ⟨rfl, y⟩ := y
    obtain ⟨v, hv, iv⟩ := i.get e
    have q := y xs ((h1.trans h2).t h)
    rw [hv] at q; cases q
    exact ⟨B', .refl h2 h3, iv.mono h1⟩
theorem walks_enum {K : PySem.W.Frag} {B : Hp} {a : Addr} {xs : List V} {l : List D} (h : SqL K B a xs) (i : IsAll K B xs l) : Walks K (Ite K a) B ((List.range l.length).zipWith (fun i d => .tup [.int (i : Nat), d]) l) where
  go := fun j H' e h1 => by
    have q : j < xs.length := by rw [i.length]; simpa using h1
    exact ⟨xs, xs[j], e.l h, by simp [q]⟩
  stop := fun H' e => ⟨xs, e.l h, by rw [i.length]; simp⟩
  yld := fun j H' B' x H'' d h1 h2 h3 y e => by
    obtain ⟨T, x0, rfl, hT, rfl, y⟩ := y
    have hl : ∃ d0, l[j]? = some d0 ∧ d = .tup [.int (j : Nat), d0] := by
      rw [List.getElem?_zipWith] at e
      cases q : l[j]? with
      | none => rw [q] at e; cases q2 : (List.range l.length)[j]? <;> rw [q2] at e <;> cases e
      | some d0 =>
        have lt := (List.getElem?_eq_some_iff.mp q).1
        rw [q, List.getElem?_range lt] at e
        cases e
        exact ⟨d0, rfl, rfl⟩
    obtain ⟨d0, hd, rfl⟩ := hl
    obtain ⟨v, hv, iv⟩ := i.get hd
    have q := y xs ((h1.trans h2).l h)
    rw [hv] at q; cases q
    exact ⟨_, .new h2 h3 hT (fun _ q => nomatch q), .tup (.of upd_same) (.cons (.int _) (.cons ((iv.mono h1).mono (exUpd h2 hT)) .nil))⟩
section
variable {T : List NTab} {IO : List Nat} {W : St → XK} {X : Cx} {e iter tg : Expr} {es body : List Expr} {pos p tpos : Pos} {x : Str}
theorem pi_imp {t t' : TI} (h : PI X tg iter t) (i : ∀ σ H Q, t' σ H Q → t σ H Q) : PI X tg iter t' := ⟨fun pins s σ H R I w => h.run pins s σ H R I (i _ _ _ w)⟩
theorem ibD {K : PySem.W.Frag} {ρ : Env} {σ : St} {H B : Hp} {Fs : Nat → List Addr} {g : M D} {k : D → M (List D)} {R : It → Hp → Prop} {Q : VK} (s : SR T K ρ σ H B Fs) (h : match M.bind g k ρ with
    | .ok l ρ' => ∀ J H' B' Fs', SR T K ρ' σ H' B' Fs' → Step H B (Own Fs) H' B' (Own Fs') → Walks K J B' l → R J H'
    | .exc c fs ρ' => postX T K (W σ) c fs ρ' σ H B (Own Fs)
    | .fail => False)
    (go : ∀ v d ρ1 H1 B1 Fs1, SR T K ρ1 σ H1 B1 Fs1 → Is K B1 v d → (∀ l, k d ρ1 = .ok l ρ1 → ∀ J, Walks K J B1 l → R J H1) → (∃ l, k d ρ1 = .ok l ρ1) → Q v H1) (hk : ∀ d ρ1, (∃ l, k d ρ1 = .ok l ρ1) ∨ k d ρ1 = .fail) : tD T K W g σ H Q := by
  refine ⟨ρ, B, Fs, s, ?_⟩
  unfold M.bind at h
  cases e : g ρ with
  | ok d ρ1 =>
    rw [e] at h
    simp only at h
    intro v H' B' Fs' h1 h2 h3
    rcases hk d ρ1 with ⟨l, q⟩ | q
    · rw [q] at h
      exact go v d ρ1 H' B' Fs' h1 h2 (fun l' q' J w => by rw [q] at q'; cases q'; exact h J H' B' Fs' h1 h3 w) ⟨l, q⟩
    · rw [q] at h; exact h.elim
  | exc c fs ρ1 => rw [e] at h; exact h
  | fail => rw [e] at h; exact h.elim
theorem of_or {f : D → Option (List D)} (d : D) (ρ1 : Env) : (∃ l, (M.of (f d) : M (List D)) ρ1 = .ok l ρ1) ∨ (M.of (f d) : M (List D)) ρ1 = .fail := by
  unfold M.of
  cases f d with
  | none => exact .inr rfl
  | some l => exact .inl ⟨l, rfl⟩
theorem ei_tup {ga : M D} (h : ED T W X iter ga) : EI T W X tg iter (mItems itemsT ga) :=
  pi_imp (pi_tup h) fun σ H R ⟨ρ, B, Fs, s, q⟩ => ibD s q (fun v d ρ1 H1 B1 Fs1 s1 i1 k ⟨l, el⟩ => by
    cases i1 with
    | tup h1 h2 => exact ⟨_, rfl, ⟨_, s1.ex.t h1⟩, k _ rfl _ (walks_tup h1 h2)⟩
    | _ => cases el) (of_or (f := itemsT))
theorem ei_list {ga : M D} (h : ED T W X iter ga) : EI T W X tg iter (mItems itemsL ga) :=
  pi_imp (pi_list h) fun σ H R ⟨ρ, B, Fs, s, q⟩ => ibD s q (fun v d ρ1 H1 B1 Fs1 s1 i1 k ⟨l, el⟩ => by
    cases i1 with
    | @lst a xs ds h0 h2 =>
      have h1 : SqL X.K B1 a xs := .of h0
      refine ⟨_, rfl, ⟨_, s1.ex.l h1⟩, k _ rfl _ ?_⟩
      exact ⟨fun j H' e h => by
          have q : j < xs.length := by rw [h2.length]; exact h
          exact ⟨xs, xs[j], e.l h1, by simp [q]⟩, fun H' e => ⟨_, e.l h1, by rw [h2.length]; exact Nat.le_refl _⟩, fun j H' B' x H'' d e1 e2 e3 y e => by
          obtain ⟨rfl, y⟩ := y
          obtain ⟨v, hv, iv⟩ := h2.get e
          have q := y _ ((e1.trans e2).l h1)
          rw [hv] at q; cases q
          exact ⟨B', .refl e2 e3, iv.mono e1⟩⟩
    | _ => cases el) (of_or (f := itemsL))
def mItemsN (f : List D → Option (List D)) (g : M (List D)) : M (List D) := M.bind g fun d => M.of (f d)
theorem ibAD {K : PySem.W.Frag} {ρ : Env} {σ : St} {H B : Hp} {Fs : Nat → List Addr} {g : M (List D)} {f : List D → Option (List D)} {R : It → Hp → Prop} {Q : List V → Hp → Prop} (s : SR T K ρ σ H B Fs) (h : match mItemsN f g ρ with
    | .ok l ρ' => ∀ J H' B' Fs', SR T K ρ' σ H' B' Fs' → Step H B (Own Fs) H' B' (Own Fs') → Walks K J B' l → R J H'
    | .exc c fs ρ' => postX T K (W σ) c fs ρ' σ H B (Own Fs)
    | .fail => False)
    (go : ∀ vs ds ρ1 H1 B1 Fs1 l, SR T K ρ1 σ H1 B1 Fs1 → IsAll K B1 vs ds → f ds = some l → (∀ J, Walks K J B1 l → R J H1) → Q vs H1) : tAD T K W g σ H Q := by
  refine ⟨ρ, B, Fs, s, ?_⟩
  unfold mItemsN M.bind at h
  cases e : g ρ with
  | ok d ρ1 =>
    rw [e] at h
    simp only [M.of] at h
    intro v H' B' Fs' h1 h2 h3
    cases q : f d with
    | none => rw [q] at h; exact h.elim
    | some l =>
      rw [q] at h
      exact go v d ρ1 H' B' Fs' l h1 h2 q fun J w => h J H' B' Fs' h1 h3 w
  | exc c fs ρ1 => rw [e] at h; exact h
  | fail => rw [e] at h; exact h.elim
theorem big62_ok {i : Int} (h : big62 i = true) : -(2 ^ 62) ≤ i ∧ i < 2 ^ 62 := by
  obtain ⟨h1, h2⟩ := Bool.and_eq_true_iff.mp h
  exact ⟨of_decide_eq_true h1, of_decide_eq_true h2⟩
theorem ei_range1 {a : Expr} {g : M (List D)} (hm : X.mg "range" = none) (ha : EAD T W X [a] g) (hg : Gl X "range" := by rfl) (hs : starEach [a] X.env = [(false, eval a X.env)] := by rfl) : EI T W X tg (.Call (.Name "range" p) [a] [] pos) (mItemsN rng1 g) :=
  pi_imp (pi_range1 hg hm ha hs) fun σ H R ⟨ρ, B, Fs, s, q⟩ => ibAD s q fun vs ds ρ1 H1 B1 Fs1 l s1 i1 el k => by
    unfold rng1 at el
    split at el
    · rename_i j
      split at el
      · rename_i hb
        cases el
        cases i1 with
        | cons i1 i2 =>
          cases i2
          cases i1
          obtain ⟨h1, h2⟩ := big62_ok hb
          exact ⟨j, rfl, h1, h2, k _ walks_range⟩
      · cases el
    · cases el
theorem ei_range2 {a b : Expr} {g : M (List D)} (hm : X.mg "range" = none) (ha : EAD T W X [a, b] g) (hg : Gl X "range" := by rfl) (hs : starEach [a, b] X.env = [(false, eval a X.env), (false, eval b X.env)] := by rfl) (hs2 : starEach [b] X.env = [(false, eval b X.env)] := by rfl) : EI T W X tg (.Call (.Name "range" p) [a, b] [] pos) (mItemsN rng2 g) :=
  pi_imp (pi_range2 hg hm ha hs hs2) fun σ H R ⟨ρ, B, Fs, s, q⟩ => ibAD s q fun vs ds ρ1 H1 B1 Fs1 l s1 i1 el k => by
    unfold rng2 at el
    split at el
    · rename_i i j
      split at el
      · rename_i hb
        cases el
        obtain ⟨hb1, hb2⟩ := Bool.and_eq_true_iff.mp hb
        cases i1 with
        | cons i1 i2 =>
          cases i2 with
          | cons i2 i3 =>
            cases i3
            cases i1
            cases i2
            obtain ⟨h1, h2⟩ := big62_ok hb1
            obtain ⟨h3, h4⟩ := big62_ok hb2
            exact ⟨i, j, rfl, ⟨h1, h2, h3, h4⟩, k _ walks_range⟩
      · cases el
    · cases el
theorem ei_enum {a : Expr} {elts : List Expr} {kk : Nat} {g : M (List D)} (hm : X.mg "enumerate" = none) (ha : EAD T W X [a] g) (hg : Gl X "enumerate" := by rfl) (hs : starEach [a] X.env = [(false, eval a X.env)] := by rfl) : EI T W X (.Tuple elts kk tpos) (.Call (.Name "enumerate" p) [a] [] pos) (mItemsN enumL g) :=
  pi_imp (pi_enum hg hm ha hs) fun σ H R ⟨ρ, B, Fs, s, q⟩ => ibAD s q fun vs ds ρ1 H1 B1 Fs1 l s1 i1 el k => by
    unfold enumL at el
    split at el
    · rename_i m
      cases el
      cases i1 with
      | cons i1 i2 =>
        cases i2
        cases i1 with
        | lst h1 h2 => exact ⟨_, _, rfl, s1.ex.l (.of h1), k _ (walks_enum (.of h1) h2)⟩
    · cases el
/-! ### for -/
def sForI (g : M (List D)) (t : TgM) (b : SM) : SM := bindS g fun l => loopL t b l
theorem es_for {tgt : Expr} {bd : List Stmt} {g : M (List D)} {t : TgM} {b : SM} (hp : PassesOwn (model X.prog X.w) X.A X.env X.xe) (hc : X.calm = true) (hi : EI T W X tgt iter g) (hg : EG T IO X tgt t) (hb : ESs T IO W X bd b)
    (hs : ∀ x, foldedSetIterable iter X.env x = pure x := by intro _; rfl) : ES T IO W X (.For tgt iter bd [] pos) (sForI g t b) := by
  refine ps_imp (ps_for hp hc hi hg hb hs) fun D_ σ H ⟨ρ, B, Fs, s, h⟩ => ?_
  refine ⟨ρ, B, Fs, s, ?_⟩
  unfold sForI bindS at h
  cases e : g ρ with
  | fail => rw [e] at h; exact h
  | exc c fs ρ1 => rw [e] at h; exact postS.x h
  | ok l ρ1 =>
    rw [e] at h
    intro J H1 B1 Fs1 s1 st1 w
    have h := postS.from st1 .refl h
    refine ⟨fun i m σ' H' => m = l.length - i ∧ i ≤ l.length ∧ ∃ ρ' B' Fs', SR T X.K ρ' σ' H' B' Fs' ∧ Step H1 B1 (Own Fs1) H' B' (Own Fs') ∧ IOk IO σ σ' ∧ postS T X.K IO W (loopL t b (l.drop i) ρ') D_ σ' H' B' (Own Fs'),
      ⟨l.length, by simp, Nat.zero_le _, ρ1, B1, Fs1, s1, .refl, .refl, h⟩, ?_⟩
    rintro i m σ' H' ⟨rfl, hi, ρ', B', Fs', s', st', io', h'⟩
    by_cases hlt : i < l.length
    · refine .inr ⟨w.go i H' (st'.ex.trans s'.ex) hlt, fun σ3 H3 => i + 1 ≤ l.length ∧ ∃ ρ' B' Fs', SR T X.K ρ' σ3 H3 B' Fs' ∧ Step H1 B1 (Own Fs1) H3 B' (Own Fs') ∧ IOk IO σ σ3 ∧ postS T X.K IO W (loopL t b (l.drop (i + 1)) ρ') D_ σ3 H3 B' (Own Fs'),
        fun σ3 H3 ⟨a1, a2⟩ => ⟨l.length - (i + 1), by omega, rfl, a1, a2⟩, fun x H2 y => ?_⟩
      rw [List.drop_eq_getElem_cons hlt] at h'
      have hd : l[i]? = some l[i] := by simp [hlt]
      obtain ⟨B2, gr, i2⟩ := w.yld i H' B' x H2 l[i] st'.ex s'.ex s'.noT y hd
      have s2 := s'.grow gr
      unfold loopL at h'
      cases q : t l[i] ρ' with
      | none => rw [q] at h'; exact h'.elim
      | some ρ2 =>
        rw [q] at h'
        dsimp only at h'
        refine ⟨ρ', B2, Fs', l[i], ρ2, s2, i2, q, fun σ3 Fs3 s3 st3 io3 => ⟨ρ2, B2, Fs3, s3, ?_⟩⟩
        have h2 := postS.from ((gr.step (F := Own Fs')).trans st3) io3 h'
        have stA : Step H1 B1 (Own Fs1) H2 B2 (Own Fs3) := st'.trans (gr.step.trans st3)
        cases q2 : b ρ2 with
        | nx ρ3 =>
          rw [q2] at h2
          exact fun σ4 H4 B4 Fs4 s4 st4 io4 => ⟨hlt, ρ3, B4, Fs4, s4, stA.trans st4, io'.trans (io3.trans io4), postS.from st4 io4 h2⟩
        | ct ρ3 =>
          rw [q2] at h2
          exact fun σ4 H4 B4 Fs4 s4 st4 io4 => ⟨hlt, ρ3, B4, Fs4, s4, stA.trans st4, io'.trans (io3.trans io4), postS.from st4 io4 h2⟩
        | bk ρ3 => rw [q2] at h2; exact h2
        | rt v ρ3 => rw [q2] at h2; exact h2
        | exc c fs ρ3 => rw [q2] at h2; exact h2
        | fail => rw [q2] at h2; exact h2
    · have ei : i = l.length := by omega
      subst ei
      rw [List.drop_length] at h'
      exact .inl ⟨w.stop H' (st'.ex.trans s'.ex), h' σ' H' B' Fs' s' .refl .refl⟩
theorem es_while {c : Expr} {bd : List Stmt} {g : M Bool} {b : SM} (n : Nat) (hp : PassesOwn (model X.prog X.w) X.A X.env X.xe) (hc : ET T W X c g) (hb : ESs T IO W X bd b) : ES T IO W X (.While c bd [] pos) (whileN g b n) := by
  refine ps_imp (ps_while hp hc hb) fun D_ σ H ⟨ρ, B, Fs, s, h⟩ => ?_
  refine ⟨fun m σ' H' => ∃ ρ' B' Fs', SR T X.K ρ' σ' H' B' Fs' ∧ Step H B (Own Fs) H' B' (Own Fs') ∧ IOk IO σ σ' ∧ postS T X.K IO W (whileN g b m ρ') D_ σ' H' B' (Own Fs'), ⟨n, ρ, B, Fs, s, .refl, .refl, h⟩, ?_⟩
  rintro m σ' H' ⟨ρ', B', Fs', s', st', io', h'⟩
  cases m with
  | zero => exact h'.elim
  | succ m =>
    unfold whileN at h'
    refine sbT s' h' fun d ρ1 H1 B1 Fs1 s1 st1 h1 => ?_
    cases d with
    | false =>
      rw [if_neg Bool.false_ne_true] at h1 ⊢
      exact h1 σ' H1 B1 Fs1 s1 .refl .refl
    | true =>
      rw [if_pos rfl] at h1 ⊢
      refine ⟨fun σ3 H3 => ∃ ρ' B' Fs', SR T X.K ρ' σ3 H3 B' Fs' ∧ Step H B (Own Fs) H3 B' (Own Fs') ∧ IOk IO σ σ3 ∧ postS T X.K IO W (whileN g b m ρ') D_ σ3 H3 B' (Own Fs'), fun σ3 H3 z => ⟨m, Nat.lt_succ_self m, z⟩, ρ1, B1, Fs1, s1, ?_⟩
      have stA := st'.trans st1
      cases q2 : b ρ1 with
      | nx ρ3 =>
        rw [q2] at h1
        exact fun σ4 H4 B4 Fs4 s4 st4 io4 => ⟨ρ3, B4, Fs4, s4, stA.trans st4, io'.trans io4, postS.from st4 io4 h1⟩
      | ct ρ3 =>
        rw [q2] at h1
        exact fun σ4 H4 B4 Fs4 s4 st4 io4 => ⟨ρ3, B4, Fs4, s4, stA.trans st4, io'.trans io4, postS.from st4 io4 h1⟩
      | bk ρ3 => rw [q2] at h1; exact h1
      | rt v ρ3 => rw [q2] at h1; exact h1
      | exc c fs ρ3 => rw [q2] at h1; exact h1
      | fail => rw [q2] at h1; exact h1
end
end DL

end
section
set_option Elab.async false
set_option linter.all false
set_option autoImplicit false
set_option maxRecDepth 100000
set_option maxHeartbeats 4000000
/-! The data layer, part 5: defs and their calls; looking without freezing. -/
namespace DL
open PySem PySem.Spec L2 NdefX
open PyProof.Rows (envOfC)
/-! ### a def's meaning: from the parameters' slots to its answer and the slots of io behind it -/
def keepIO (io : List Nat) : Nat → Env → Env
  | _, [] => []
  | k, o :: r => (if k ∈ io then o else none) :: keepIO io (k + 1) r
def runF (n m : Nat) (io : List Nat) (b : SM) : M Sl := fun ρ => if ρ.length = n then (match b (ρ ++ List.replicate m none) with
  | .rt s ρ' => .ok s (keepIO io 0 (ρ'.take n))
  | .nx ρ' => .ok (.d .non) (keepIO io 0 (ρ'.take n))
  | _ => .fail) else .fail
def spD (T : List NTab) (K : PySem.W.Frag) (n : Nat) (f : M Sl) : Sp := fun vs H Q E => vs.length = n ∧ tO T K (fun _ => E) f (vs.map some) H Q
theorem keepIO_get {io : List Nat} : ∀ {ρ : Env} {k i : Nat}, (keepIO io k ρ)[i]? = (ρ[i]?).map fun o => if k + i ∈ io then o else none
  | [], k, i => by simp [keepIO]
  | o :: r, k, 0 => by simp [keepIO]
  | o :: r, k, i + 1 => by
    have e : k + 1 + i = k + (i + 1) := by omega
    simp only [keepIO, List.getElem?_cons_succ, keepIO_get (ρ := r) (k := k + 1) (i := i), e]
section
variable {T : List NTab} {K : PySem.W.Frag} {ρ ρ' : Env} {σ σ' : St} {H B H' B' : Hp} {Fs Fs' : Nat → List Addr} {vs : List V} {N : List Str} {io : List Nat} {n : Nat}
theorem SR.start (s : SR T K ρ (vs.map some) H B Fs) (h1 : ρ.length = vs.length) (h2 : vs.length ≤ N.length) : SR T K (ρ ++ List.replicate (N.length - vs.length) none) (L2.start N vs) H B Fs := by
  have key : ∀ i t, (ρ ++ List.replicate (N.length - vs.length) none)[i]? = some (some t) → ρ[i]? = some (some t) := fun i t e => by
    by_cases hi : i < ρ.length
    · rw [List.getElem?_append_left hi] at e; exact e
    · rw [List.getElem?_append_right (by omega), List.getElem?_replicate] at e
      split at e <;> cases e
  refine ⟨s.ex, s.tabs, s.noT, fun i t e => ?_, fun i h => s.off i fun t e => h t ?_, s.apart, s.offB⟩
  · obtain ⟨v, q1, q2⟩ := s.slot i t (key i t e)
    refine ⟨v, ?_, q2⟩
    unfold L2.start
    rw [List.getElem?_append_left (by
      have := (List.getElem?_eq_some_iff.mp q1).1
      exact this)]
    exact q1
  · have hi := (List.getElem?_eq_some_iff.mp e).1
    rw [List.getElem?_append_left hi]; exact e
theorem SR.finish (s : SR T K ρ' σ' H' B' Fs') (hio : IOk io (L2.start N vs) σ') (hn : n = vs.length) : ∃ Fs2, SR T K (keepIO io 0 (ρ'.take n)) (vs.map some) H' B' Fs2 ∧ ∀ i a, a ∈ Fs2 i → a ∈ Fs' i := by
  subst hn
  refine ⟨fun i => if i ∈ io ∧ i < vs.length then Fs' i else [], ⟨s.ex, s.tabs, s.noT, fun i t e => ?_, fun i h => ?_, fun i j a hij ha => ?_, fun i a ha => ?_⟩, fun i a ha => ?_⟩
  · rw [keepIO_get] at e
    have e2 : (ρ'.take vs.length)[i]? = some (some t) ∧ i ∈ io := by
      cases q : (ρ'.take vs.length)[i]? with
      | none => rw [q] at e; cases e
      | some o =>
        rw [q] at e
        simp only [Option.map_some, Nat.zero_add, Option.some.injEq] at e
        split at e
        · rename_i h; exact ⟨by rw [e], h⟩
        · cases e
    obtain ⟨e2, hi⟩ := e2
    have il : i < vs.length := by
      have := (List.getElem?_eq_some_iff.mp e2).1
      rw [List.length_take] at this
      omega
    rw [List.getElem?_take_of_lt il] at e2
    obtain ⟨v, q1, q2⟩ := s.slot i t e2
    refine ⟨v, ?_, by rw [if_pos ⟨hi, il⟩]; exact q2⟩
    rw [hio.at_ i hi] at q1
    unfold L2.start at q1
    rw [List.getElem?_append_left (by simpa using il)] at q1
    exact q1
  · by_cases hc : i ∈ io ∧ i < vs.length
    · rw [if_pos hc]
      refine s.off i fun t e => h t ?_
      rw [keepIO_get, List.getElem?_take_of_lt hc.2, e]
      simp [hc.1]
    · rw [if_neg hc]
  · split at ha
    · split
      · exact s.apart i j a hij ha
      · simp
    · cases ha
  · split at ha
    · exact s.offB i a ha
    · cases ha
  · dsimp only at ha
    split at ha
    · exact ha
    · cases ha
end
/-- no exception -/
abbrev W0 : St → XK := fun _ _ _ _ => False
section
variable {T : List NTab} {P : Program} {w : World} {K : PySem.W.Frag} {mg : Str → Option Value} {base : Heap} {x qual : Str} {params : Arguments} {body : List Stmt} {scope : Scope} {dvs : List V} {kws : List (Str × V)} {f : Addr} {fd : FuncData}
theorem fn_len {T : List NTab} {K : PySem.W.Frag} {n : Nat} {f : M Sl} : ∀ vs H Q E, spD T K n f vs H Q E → vs.length = n := fun _ _ _ _ h => h.1
/-- THE RULE for a def of the text that lets no exception out -/
theorem fn_ok {N ps : List Str} {k : Nat} {io : List Nat} {b : SM} (F : FunD K x qual params body scope dvs kws f fd) (S : FnScope N ps scope)
    (hb : ∀ (cdv : Value) (A : Around) (outer : List PySem.Env) (s : Shared) (H : Hp) (E : XK), Room k (A.deeper (envOfC qual scope s.heap.objs.size f cdv)) → ESs T io W0 (cxOf CX0 P w K mg base N qual scope f cdv A outer s H E).nox body b) :
    FnOk P w K mg base CX0 (k + 1) f fd ps (spD T K ps.length (runF ps.length (N.length - ps.length) io b)) := by
  refine F.ok S (fun vs H Q E h => h.1) fun cdv A outer s H vs Q E hr ⟨hl, ρ, B, Fs, sr, hp⟩ => ⟨_, PSs.nox (hb cdv A outer s H E hr), ?_⟩
  have hN : ps.length ≤ N.length := by have := congrArg List.length S.pre; rw [List.length_take] at this; omega
  have e1 : ρ.length = ps.length := by
    by_cases q : ρ.length = ps.length
    · exact q
    · unfold runF at hp
      rw [if_neg q] at hp
      exact hp.elim
  unfold runF at hp
  rw [if_pos e1] at hp
  have s0 := sr.start (N := N) (by rw [hl]; exact e1) (by rw [hl]; exact hN)
  rw [hl] at s0
  refine ⟨_, B, Fs, s0, ?_⟩
  cases q : b (ρ ++ List.replicate (N.length - ps.length) none) with
  | fail => rw [q] at hp; exact hp.elim
  | bk ρ' => rw [q] at hp; exact hp.elim
  | ct ρ' => rw [q] at hp; exact hp.elim
  | exc c fs ρ' => rw [q] at hp; exact hp.elim
  | rt t ρ' =>
    rw [q] at hp
    intro v σ' H' B' Fs' Fr s1 ow off st io'
    obtain ⟨Fs2, s2, sub⟩ := s1.finish io' hl.symm
    exact hp v H' B' Fs2 Fr s2 ow (fun a ha => ⟨fun i hi => (off a ha).1 i (sub i a hi), (off a ha).2⟩) (st.congr (fun a => Iff.rfl) fun a e => e.elim (fun ⟨i, hi⟩ => .inl ⟨i, sub i a hi⟩) .inr)
  | nx ρ' =>
    rw [q] at hp
    intro σ' H' B' Fs' s1 st io'
    obtain ⟨Fs2, s2, sub⟩ := s1.finish io' hl.symm
    exact hp .non H' B' Fs2 [] s2 (.d .non) (fun _ z => by cases z) (st.congr (fun a => Iff.rfl) fun a e => e.elim (fun ⟨i, hi⟩ => ⟨i, sub i a hi⟩) fun z => by cases z)
end

/-! ### calls -/
def shift (l : List (Nat × Nat)) : List (Nat × Nat) := l.map fun p => (p.1 + 1, p.2)
/-- the arguments at the first places of ios are what the slots at the second places hold -/
def IOv (ios : List (Nat × Nat)) (vs : List V) (σ : St) : Prop := ∀ p, p ∈ ios → ∃ v, vs[p.1]? = some v ∧ σ[p.2]? = some (some v)
def postAio (T : List NTab) (K : PySem.W.Frag) (ios : List (Nat × Nat)) (W : XK) (r : Res (List Sl)) (σ : St) (H B : Hp) (F : Addr → Prop) (Q : List V → Hp → Prop) : Prop := match r with
  | .ok ss ρ => ∀ vs H' B' Fs' Fr, SR T K ρ σ H' B' Fs' → OwAll K B' H' vs ss Fr → Off B' Fs' Fr → Step H B F H' B' (fun a => Own Fs' a ∨ a ∈ Fr) → IOv ios vs σ → Q vs H'
  | .exc c fs ρ => postX T K W c fs ρ σ H B F
  | .fail => False
def tAio (T : List NTab) (K : PySem.W.Frag) (ios : List (Nat × Nat)) (W : St → XK) (g : M (List Sl)) : TA := fun σ H Q => ∃ ρ B Fs, SR T K ρ σ H B Fs ∧ postAio T K ios (W σ) (g ρ) σ H B (Own Fs) Q
abbrev EAio (T : List NTab) (W : St → XK) (X : Cx) (ios : List (Nat × Nat)) (es : List Expr) (g : M (List Sl)) : Prop := PA X es (tAio T X.K ios W g)
section
variable {T : List NTab} {K : PySem.W.Frag} {W : St → XK} {ρ ρ1 : Env} {σ : St} {H B H1 B1 : Hp} {Fs Fs1 : Nat → List Addr}
theorem postAio.from {ios : List (Nat × Nat)} {W : XK} {r : Res (List Sl)} {F F1 : Addr → Prop} {Q : List V → Hp → Prop} (s : Step H B F H1 B1 F1) (h : postAio T K ios W r σ H B F Q) : postAio T K ios W r σ H1 B1 F1 Q := by
  cases r with
  | ok d ρ => exact fun v H' B' Fs' Fr h1 h2 h3 h4 h5 => h v H' B' Fs' Fr h1 h2 h3 (s.trans h4) h5
  | exc c fs ρ => exact postX.from s h
  | fail => exact h
theorem pl_Aio {ios : List (Nat × Nat)} {W : XK} {Q : List V → Hp → Prop} : PostLike T K W σ fun r H B F => postAio T K ios W r σ H B F Q := ⟨postAio.from, fun h => h, fun h => h⟩
/-- one argument is there; the others come -/
theorem cons_post {v : V} {t : Sl} {Fr : List Addr} {g : M (List Sl)} {ios ios2 : List (Nat × Nat)} {Q : List V → Hp → Prop} (s1 : SR T K ρ1 σ H1 B1 Fs1) (i1 : Ow K B1 H1 v t Fr) (o1 : Off B1 Fs1 Fr)
    (h : postAio T K ios2 (W σ) (M.bind g (fun ss => M.pure (t :: ss)) ρ1) σ H1 B1 (fun a => Own Fs1 a ∨ a ∈ Fr) Q) (hio : ∀ vs, IOv ios vs σ → IOv ios2 (v :: vs) σ) :
    tAio T K ios W g σ H1 fun vs H2 => Q (v :: vs) H2 := by
  refine ⟨ρ1, B1, Fs1, s1, ?_⟩
  unfold M.bind at h
  cases e : g ρ1 with
  | fail => rw [e] at h; exact h
  | exc c fs ρ2 =>
    rw [e] at h
    intro cls dx H' B' Fs' h1 h2 h3
    refine h cls dx H' B' Fs' h1 h2 ?_
    have z := h3.temps (R := fun a => a ∈ Fr)
    exact ⟨z.keep, z.there, z.ex, z.newB, fun a e => z.newF a (.inl e)⟩
  | ok ss ρ2 =>
    rw [e] at h
    intro vs H2 B2 Fs2 Fr2 s2 i2 o2 st2 iov
    have st0 : Step H1 B1 (Own Fs1) H2 B2 (Own Fs2) := ⟨st2.keep, st2.there, st2.ex, st2.newB, fun a e => st2.newF a (.inl e)⟩
    obtain ⟨o1', k1⟩ := o1.stay (fun a ha => i1.there a ha) st0
    have dj : ∀ a, a ∈ Fr → a ∉ Fr2 := fun a h1 h2 => by
      rcases st2.newF a (.inr h2) with ⟨i, z⟩ | z
      · exact (o1 a h1).1 i z
      · obtain ⟨u, q, own⟩ := i1.there a h1
        exact z.no q own
    refine h (v :: vs) H2 B2 Fs2 (Fr ++ Fr2) s2 (.cons (i1.mono st2.ex k1) i2 dj) (fun a ha => ?_) ?_ (hio vs iov)
    · rcases List.mem_append.mp ha with z | z
      · exact o1' a z
      · exact o2 a z
    · have z := st2.temps (R := fun a => a ∈ Fr)
      exact ⟨z.keep, z.there, z.ex, z.newB, fun a e => z.newF a (e.elim (fun q => .inl (.inl q)) fun q => (List.mem_append.mp q).elim .inr fun q => .inl (.inr q))⟩
/-- arguments as the slots of a state of their own -/
theorem OwAll.state : ∀ {vs : List V} {ss : List Sl} {Fr : List Addr}, OwAll K B H vs ss Fr → ∃ FA : Nat → List Addr, (∀ i s, ss[i]? = some s → ∃ v, vs[i]? = some v ∧ Ow K B H v s (FA i)) ∧ (∀ i, ss.length ≤ i → FA i = []) ∧
      (∀ i j a, i ≠ j → a ∈ FA i → a ∉ FA j) ∧ ∀ a, Own FA a ↔ a ∈ Fr
  | _, _, _, .nil => ⟨fun _ => [], fun i s e => by simp at e, fun _ _ => rfl, fun _ _ _ _ h => (by cases h), fun a => ⟨fun ⟨i, h⟩ => (by cases h), fun h => (by cases h)⟩⟩
  | _, _, _, .cons (F := F) (G := G) h1 h2 h3 => by
    obtain ⟨FA, a1, a2, a3, a4⟩ := OwAll.state h2
    refine ⟨fun i => match i with
      | 0 => F
      | i + 1 => FA i, fun i s e => ?_, fun i hi => ?_, fun i j a hij ha => ?_, fun a => ⟨fun ⟨i, h⟩ => ?_, fun h => ?_⟩⟩
    · cases i with
      | zero => simp at e; subst e; exact ⟨_, rfl, h1⟩
      | succ i =>
        obtain ⟨v, q1, q2⟩ := a1 i s (by simpa using e)
        exact ⟨v, by simpa using q1, q2⟩
    · cases i with
      | zero => simp at hi
      | succ i => exact a2 i (by simpa using hi)
    · cases i with
      | zero =>
        cases j with
        | zero => exact absurd rfl hij
        | succ j => exact fun z => h3 a ha ((a4 a).mp ⟨j, z⟩)
      | succ i =>
        cases j with
        | zero => exact fun z => h3 a z ((a4 a).mp ⟨i, ha⟩)
        | succ j => exact a3 i j a (fun z => hij (by rw [z])) ha
    · cases i with
      | zero => exact List.mem_append_left _ h
      | succ i => exact List.mem_append_right _ ((a4 a).mp ⟨i, h⟩)
    · rcases List.mem_append.mp h with h | h
      · exact ⟨0, h⟩
      · obtain ⟨i, hi⟩ := (a4 a).mpr h
        exact ⟨i + 1, hi⟩
theorem SR.args {vs : List V} {ss : List Sl} {Fr : List Addr} (s : SR T K ρ σ H B Fs) (i : OwAll K B H vs ss Fr) (o : Off B Fs Fr) : ∃ FA, SR T K (ss.map some) (vs.map some) H B FA ∧ ∀ a, Own FA a ↔ a ∈ Fr := by
  obtain ⟨FA, a1, a2, a3, a4⟩ := i.state
  refine ⟨FA, ⟨s.ex, s.tabs, s.noT, fun i t e => ?_, fun i h => ?_, a3, fun i a ha => (o a ((a4 a).mp ⟨i, ha⟩)).2⟩, a4⟩
  · rw [List.getElem?_map] at e
    cases q : ss[i]? with
    | none => rw [q] at e; cases e
    | some t' =>
      rw [q] at e; cases e
      obtain ⟨v, q1, q2⟩ := a1 i _ q
      exact ⟨v, by rw [List.getElem?_map, q1]; rfl, q2⟩
  · by_cases hi : i < ss.length
    · exact absurd (show (ss.map some)[i]? = some (some ss[i]) by simp [hi]) (h _)
    · exact a2 i (by omega)
end
/-- what the callee leaves in its slots goes back to the caller's -/
def putBack : List (Nat × Nat) → Env → Env → Env
  | [], _, ρ => ρ
  | p :: r, ρf, ρ => match ρf[p.1]? with
    | some (some t) => putBack r ρf (ρ.set p.2 (some t))
    | _ => putBack r ρf ρ
def mCall (n : Nat) (f : M Sl) (ios : List (Nat × Nat)) (g : M (List Sl)) : M Sl := M.bind g fun ss ρ => if ss.length = n then (match f (ss.map some) with
  | .ok r ρf => .ok r (putBack ios ρf ρ)
  | _ => .fail) else .fail
section
variable {T : List NTab} {K : PySem.W.Frag} {W : St → XK} {ρ : Env} {σ : St} {H B H' B' : Hp} {Fs Ff : Nat → List Addr} {vs : List V} {ρf : Env}
theorem SR.putBack (sf : SR T K ρf (vs.map some) H B Ff) : ∀ (ios : List (Nat × Nat)) {ρ : Env} {Fs : Nat → List Addr}, SR T K ρ σ H B Fs → IOv ios vs σ → (ios.map Prod.fst).Nodup → (∀ i j a, a ∈ Fs i → a ∈ Ff j → j ∉ ios.map Prod.fst) →
    ∃ Fs2, SR T K (DL.putBack ios ρf ρ) σ H B Fs2 ∧ ∀ a, Own Fs2 a → Own Fs a ∨ ∃ j, j ∈ ios.map Prod.fst ∧ a ∈ Ff j
  | [], ρ, Fs, s, _, _, _ => ⟨Fs, s, fun _ h => .inl h⟩
  | p :: r, ρ, Fs, s, iov, nd, ap => by
    unfold DL.putBack
    have nd' := List.nodup_cons.mp (show (p.1 :: r.map Prod.fst).Nodup from nd)
    have iov' : IOv r vs σ := fun q hq => iov q (List.mem_cons_of_mem _ hq)
    have up : ∀ {Fs2 : Nat → List Addr}, (∀ a, Own Fs2 a → Own Fs a ∨ ∃ j, j ∈ r.map Prod.fst ∧ a ∈ Ff j) → ∀ a, Own Fs2 a → Own Fs a ∨ ∃ j, j ∈ (p :: r).map Prod.fst ∧ a ∈ Ff j := fun z a h => (z a h).elim .inl fun ⟨j, q1, q2⟩ => .inr ⟨j, List.mem_cons_of_mem _ q1, q2⟩
    cases e : ρf[p.1]? with
    | none =>
      obtain ⟨Fs2, z1, z2⟩ := SR.putBack sf r s iov' nd'.2 fun i j a h1 h2 z => ap i j a h1 h2 (List.mem_cons_of_mem _ z)
      exact ⟨Fs2, z1, up z2⟩
    | some o =>
      cases o with
      | none =>
        obtain ⟨Fs2, z1, z2⟩ := SR.putBack sf r s iov' nd'.2 fun i j a h1 h2 z => ap i j a h1 h2 (List.mem_cons_of_mem _ z)
        exact ⟨Fs2, z1, up z2⟩
      | some t =>
        obtain ⟨v, q1, q2⟩ := sf.slot p.1 t e
        obtain ⟨w, w1, w2⟩ := iov p List.mem_cons_self
        rw [List.getElem?_map, w1] at q1
        cases q1
        by_cases lt : p.2 < ρ.length
        case neg =>
          dsimp only
          rw [List.set_eq_of_length_le (Nat.le_of_not_lt lt)]
          obtain ⟨Fs2, z1, z2⟩ := SR.putBack sf r s iov' nd'.2 fun i j a h1 h2 z => ap i j a h1 h2 (List.mem_cons_of_mem _ z)
          exact ⟨Fs2, z1, up z2⟩
        have s2 : SR T K (ρ.set p.2 (some t)) σ H B (setF Fs p.2 (Ff p.1)) := s.put lt (fun _ _ => rfl) (fun u q => ⟨v, w2, by cases q; exact q2⟩) (fun q => by cases q) (Ex.refl B) s.ex s.tabs s.noT (fun _ _ _ _ _ q => q)
          (fun a ha => ⟨fun j _ hj => ap j p.1 a hj ha List.mem_cons_self, sf.offB _ a ha⟩) fun j a _ ha => s.offB j a ha
        obtain ⟨Fs2, z1, z2⟩ := SR.putBack sf r s2 iov' nd'.2 (fun i j a h1 h2 z => by
          by_cases hi : i = p.2
          · subst hi
            rw [setF_same] at h1
            by_cases hj : j = p.1
            · subst hj; exact nd'.1 z
            · exact sf.apart p.1 j a (Ne.symm hj) h1 h2
          · rw [setF_ne hi] at h1
            exact ap i j a h1 h2 (List.mem_cons_of_mem _ z))
        refine ⟨Fs2, z1, fun a h => ?_⟩
        rcases z2 a h with h | ⟨j, q1, q2⟩
        · rcases own_setF h with h | h
          · exact .inr ⟨_, List.mem_cons_self, h⟩
          · exact .inl h
        · exact .inr ⟨j, List.mem_cons_of_mem _ q1, q2⟩
end
section
variable {T : List NTab} {W : St → XK} {X : Cx} {a b c e : Expr} {es rest : List Expr} {pos p : Pos} {ga gb : M D} {go_ : M Sl} {x m : Str} {ios : List (Nat × Nat)}
theorem eaio_nil : EAio T W X [] [] mNil := pa_imp pa_nil fun σ H Q ⟨ρ, B, Fs, s, h⟩ => h [] H B Fs [] s .nil (fun _ z => by cases z) ⟨fun _ _ _ _ q => q, fun _ q => q, Ex.refl _, fun a q => .inl q, fun a q => .inl (q.elim id fun z => by cases z)⟩ fun p hp => by cases hp
theorem iov_shift {vs : List V} {v : V} {σ : St} (h : IOv ios vs σ) : IOv (shift ios) (v :: vs) σ := fun p hp => by
  unfold shift at hp
  obtain ⟨q, hq, rfl⟩ := List.mem_map.mp hp
  obtain ⟨w, h1, h2⟩ := h q hq
  exact ⟨w, by simpa using h1, h2⟩
theorem eaio_cons {ga : M Sl} {g : M (List Sl)} (ha : EO T W X a ga) (hr : EAio T W X ios es g) (hs : starEach (a :: es) X.env = (false, eval a X.env) :: starEach es X.env := by rfl) : EAio T W X (shift ios) (a :: es) (mCons ga g) :=
  pa_imp (pa_cons ha hr hs) fun σ H Q ⟨ρ, B, Fs, s, h⟩ => bindO pl_Aio s h fun v t ρ1 H1 B1 Fs1 Fr s1 i1 o1 st1 h => cons_post s1 i1 o1 h fun vs q => iov_shift q
/-- an argument that the callee may change: a variable's owned tree -/
theorem eaio_io {g : M (List Sl)} (i : Nat) (hr : EAio T W X ios es g) (hN : X.N[i]? = some x := by rfl) (hv : Vis X.env.scope x := by first | exact Or.inl rfl | exact Or.inr (Or.inl rfl) | exact Or.inr (Or.inr rfl)) (hd : (x == ("__debug__" : Str)) = false := by decide)
    (hcd : (x == ("__classdict__" : Str)) = false := by decide) (hs : starEach (.Name x pos :: es) X.env = (false, eval (.Name x pos) X.env) :: starEach es X.env := by rfl) : EAio T W X ((0, i) :: shift ios) (.Name x pos :: es) (mCons (mMove i) g) := by
  refine pa_imp (pa_cons (pe_var hN hv hd hcd) hr hs) fun σ H Q ⟨ρ, B, Fs, s, h⟩ => ?_
  unfold mCons M.bind mMove at h
  cases e : ρ[i]? with
  | none => rw [e] at h; exact h.elim
  | some o =>
    cases o with
    | none => rw [e] at h; exact h.elim
    | some t =>
      obtain ⟨v, h1, h2⟩ := s.slot i t e
      rw [e] at h
      have ilt : i < ρ.length := (List.getElem?_eq_some_iff.mp e).1
      have s1 : SR T X.K (ρ.set i none) σ H B (setF Fs i []) := s.put ilt (fun _ _ => rfl) (fun t' q => by cases q) (fun _ => rfl) (Ex.refl B) s.ex s.tabs s.noT (fun _ _ _ _ _ q => q) (fun a z => by cases z) fun j a hj ha => s.offB j a ha
      have o1 : Off B (setF Fs i []) (Fs i) := fun a ha => ⟨fun j hj => by
        by_cases z : j = i
        · subst z; rw [setF_same] at hj; cases hj
        · rw [setF_ne z] at hj; exact s.apart j i a z hj ha, s.offB i a ha⟩
      have st : Step H B (Own Fs) H B (fun a => Own (setF Fs i []) a ∨ a ∈ Fs i) := ⟨fun _ _ _ _ q => q, fun _ q => q, Ex.refl B, fun a q => .inl q, fun a q => .inl (by
        rcases q with q | q
        · rcases own_setF q with q | q
          · cases q
          · exact q
        · exact ⟨i, q⟩)⟩
      refine ⟨v, h1, cons_post s1 h2 o1 (postAio.from st h) fun vs q p hp => ?_⟩
      rcases List.mem_cons.mp hp with z | z
      · subst z; exact ⟨v, rfl, h1⟩
      · exact iov_shift q p z
/-- behind a callee: the caller's slots stood still, what the callee leaves in its own goes back -/
theorem after_call {ρ1 ρf : Env} {σ : St} {H1 B1 H2 B2 : Hp} {Fs1 FA Ff : Nat → List Addr} {vs : List V} {Fr Fr2 : List Addr} (s1 : SR T X.K ρ1 σ H1 B1 Fs1) (o1 : Off B1 Fs1 Fr) (eA : ∀ a, Own FA a → a ∈ Fr ∨ H1 a = none) (eA2 : ∀ a, a ∈ Fr → Own FA a) (iov : IOv ios vs σ) (nd : (ios.map Prod.fst).Nodup)
    (sf : SR T X.K ρf (vs.map some) H2 B2 Ff) (st : Step H1 B1 (Own FA) H2 B2 (fun a => Own Ff a ∨ a ∈ Fr2)) :
    ∃ Fs3, SR T X.K (putBack ios ρf ρ1) σ H2 B2 Fs3 ∧ (∀ a, Own Fs3 a → Own Fs1 a ∨ ∃ j, j ∈ ios.map Prod.fst ∧ a ∈ Ff j) ∧ (∀ i a, a ∈ Fs1 i → ¬ (Own Ff a ∨ a ∈ Fr2)) ∧ Step H1 B1 (fun a => Own Fs1 a ∨ a ∈ Fr) H2 B2 (fun a => Own Fs1 a ∨ Own Ff a ∨ a ∈ Fr2) := by
  have st' : Step H1 B1 (fun a => a ∈ Fr) H2 B2 (fun a => Own Ff a ∨ a ∈ Fr2) := ⟨fun a o n t e => st.keep a o (fun z => (eA a z).elim n fun q => by rw [q] at e; cases e) t e, st.there, st.ex, fun a e => (st.newB a e).elim .inl fun z => .inr (z.elim .inl fun z => (eA a z).elim .inr fun q => .inl (nown q)), fun a e => (st.newF a e).elim (fun z => (eA a z).elim .inl fun q => .inr (nt q)) .inr⟩
  have live : ∀ i a, a ∈ Fs1 i → a ∉ Fr ∧ ∃ u, H1 a = some u ∧ Ownable u := fun i a ha => ⟨fun z => (o1 a z).1 i ha, s1.alive ha⟩
  have notB : ∀ i a, a ∈ Fs1 i → B2 a = none := fun i a ha => by
    obtain ⟨nf, u, hu, own⟩ := live i a ha
    cases q : B2 a with
    | none => rfl
    | some o =>
      rcases st'.newB a (by rw [q]; simp) with z | z | z
      · exact absurd (s1.offB i a ha) z
      · exact (z u hu own).elim
      · exact (nf z).elim
  have kept : ∀ i a u, a ∈ Fs1 i → H1 a = some u → H2 a = some u := fun i a u ha hu => by
    obtain ⟨nf, u', hu', own⟩ := live i a ha
    rw [hu] at hu'; cases hu'
    exact st'.keep a u nf (fun ps z => by rw [z] at own; exact own) hu
  have notF : ∀ i a, a ∈ Fs1 i → ¬ (Own Ff a ∨ a ∈ Fr2) := fun i a ha z => by
    obtain ⟨nf, u, hu, own⟩ := live i a ha
    rcases st'.newF a z with z | z
    · exact nf z
    · exact z.no hu own
  have s2 : SR T X.K ρ1 σ H2 B2 Fs1 := ⟨sf.ex, sf.tabs, sf.noT, fun i t q => (by obtain ⟨w, q1, q2⟩ := s1.slot i t q; exact ⟨w, q1, q2.mono st'.ex fun a u ha hu => kept i a u ha hu⟩), s1.off, s1.apart, notB⟩
  obtain ⟨Fs3, s3, sub⟩ := SR.putBack (Ff := Ff) sf ios s2 iov nd (fun i j a h1 h2 => (notF i a h1 (.inl ⟨j, h2⟩)).elim)
  refine ⟨Fs3, s3, sub, notF, ?_⟩
  have z := st'.temps (R := Own Fs1)
  exact z.congr (fun a => ⟨Or.symm, Or.symm⟩) fun a q => q.elim .inr .inl
theorem call_post {n : Nat} {f : M Sl} {ρ1 : Env} {σ : St} {H1 B1 : Hp} {Fs1 : Nat → List Addr} {vs : List V} {ss : List Sl} {Fr : List Addr} {Q : VK} {W : XK} (s1 : SR T X.K ρ1 σ H1 B1 Fs1) (i1 : OwAll X.K B1 H1 vs ss Fr) (o1 : Off B1 Fs1 Fr) (iov : IOv ios vs σ)
    (nd : (ios.map Prod.fst).Nodup)
    (h : postO T X.K W (if ss.length = n then (match f (ss.map some) with
      | .ok r ρf => .ok r (putBack ios ρf ρ1)
      | _ => .fail) else .fail) σ H1 B1 (fun a => Own Fs1 a ∨ a ∈ Fr) Q) : spD T X.K n f vs H1 Q E0 := by
  split at h
  · rename_i hn
    obtain ⟨FA, sA, eA⟩ := s1.args i1 o1
    refine ⟨by rw [i1.length]; exact hn, ss.map some, B1, FA, sA, ?_⟩
    cases e : f (ss.map some) with
    | fail => rw [e] at h; exact h.elim
    | exc c fs ρf => rw [e] at h; exact h.elim
    | ok r ρf =>
      rw [e] at h
      intro v H2 B2 Ff Fr2 sf ow of st
      obtain ⟨Fs3, s3, sub, notF, st3⟩ := after_call (Fr2 := Fr2) s1 o1 (fun a z => .inl ((eA a).mp z)) (fun a z => (eA a).mpr z) iov nd sf st
      refine h v H2 B2 Fs3 Fr2 s3 ow (fun a ha => ⟨fun i hi => ?_, (of a ha).2⟩) (st3.congr (fun _ => Iff.rfl) fun a q => ?_)
      · rcases sub a ⟨i, hi⟩ with ⟨j, z⟩ | ⟨j, _, z⟩
        · exact notF j a z (.inr ha)
        · exact (of a ha).1 j z
      · rcases q with q | q
        · rcases sub a q with q | ⟨j, _, q⟩
          · exact .inl q
          · exact .inr (.inl ⟨j, q⟩)
        · exact .inr (.inr q)
  · exact h.elim
end
end DL

end
section
set_option Elab.async false
set_option linter.all false
set_option autoImplicit false
set_option maxRecDepth 100000
set_option maxHeartbeats 4000000
/-! The data layer, part 6: the rules for calls, methods, makers, attributes; looking without freezing; owned lists and dicts changed in place. -/
namespace DL
open PySem PySem.Spec L2 NdefX
section
variable {T : List NTab} {W : St → XK} {X : Cx} {a b c e o : Expr} {es rest : List Expr} {pos p apos : Pos} {ga gb : M D} {go_ : M Sl} {x m fl : Str} {ios : List (Nat × Nat)} {k n : Nat} {f C : Addr} {fd : FuncData} {ps : List Str} {g : M Sl}
abbrev GF (T : List NTab) (X : Cx) (k : Nat) (f : Addr) (fd : FuncData) (ps : List Str) (n : Nat) (g : M Sl) : Prop := FnOk X.prog X.w X.K X.mg X.base CX0 k f fd ps (spD T X.K n g)
theorem eo_call {gs : M (List Sl)} (G : GF T X k f fd ps n g) (hr : Room k X.A) (hm : X.mg x = some (.ref f)) (hk : PySem.W.keepIn X.K (.ref f) = true) (b : Binds X.K fd ps []) (ha : EAio T W X ios (e :: es) gs) (nd : (ios.map Prod.fst).Nodup := by decide)
    (hg : Gl X x := by rfl) (hdb : (x == ("__debug__" : Str)) = false := by decide) (he : starEach (e :: es) X.env = (false, eval e X.env) :: starEach es X.env := by rfl) (hpl : (backTo pos (starEach es X.env)).any (·.1) = false := by rfl) :
    EO T W X (.Call (.Name x p) (e :: es) [] pos) (mCall n g ios gs) :=
  pe_imp (pe_call G hr hg hm hk b .nil pass0 ha hdb he hpl) fun σ H Q ⟨ρ, B, Fs, s, h⟩ => by
    refine ⟨ρ, B, Fs, s, ?_⟩
    unfold mCall M.bind at h
    cases q : gs ρ with
    | fail => rw [q] at h; exact h
    | exc c fs ρ1 => rw [q] at h; exact h
    | ok ss ρ1 =>
      rw [q] at h
      intro vs H1 B1 Fs1 Fr s1 i1 o1 st iov
      show spD T X.K n g (vs ++ []) H1 Q E0
      rw [List.append_nil]
      exact call_post s1 i1 o1 iov nd (postO.from st h)
theorem eo_call0 (G : GF T X k f fd ps n g) (hr : Room k X.A) (hm : X.mg x = some (.ref f)) (hk : PySem.W.keepIn X.K (.ref f) = true) (b : Binds X.K fd ps []) (hg : Gl X x := by rfl) (hdb : (x == ("__debug__" : Str)) = false := by decide) :
    EO T W X (.Call (.Name x p) [] [] pos) (mCall n g [] mNil) :=
  pe_imp (pe_call0 G hr hg hm hk b .nil pass0 hdb) fun σ H Q ⟨ρ, B, Fs, s, h⟩ => by
    show spD T X.K n g ([] ++ []) H Q E0
    exact call_post (ios := []) s .nil (fun _ z => by cases z) (fun p hp => by cases hp) (by decide) (postO.from ⟨fun _ _ _ _ q => q, fun _ q => q, Ex.refl _, fun a q => .inl q, fun a q => .inl (q.elim id fun z => by cases z)⟩ h)
def hasName (m : Str) (l : List Str) : Bool := l.contains m
theorem lookup_none {α : Type} {m : Str} : ∀ {l : List (Str × α)}, m ∉ l.map Prod.fst → l.lookup m = none
  | [], _ => rfl
  | (k, v) :: r, h => by
    have h1 : ¬ m = k := fun z => h (by rw [z]; exact List.mem_cons_self)
    have h2 : (m == k) = false := by simpa using h1
    rw [List.lookup_cons, h2]
    exact lookup_none fun z => h (List.mem_cons_of_mem _ z)
def isIns (c m : Str) : Sl → Bool
  | .oi c' l => decide (c' = c) && !(l.map Prod.fst).contains m
  | .d (.ins c' l) => decide (c' = c) && !(l.map Prod.fst).contains m
  | _ => false
theorem isIns_ok {K : PySem.W.Frag} {B H : Hp} {v : V} {t : Sl} {F : List Addr} {c m : Str} (e : Ex B H) (h : Ow K B H v t F) (q : isIns c m t = true) : ∃ a dx fs, v = .ref a ∧ H a = some (.ins (He.ga K c) dx fs) ∧ fs.lookup m = none := by
  cases h with
  | d i =>
    cases i with
    | ins h1 h2 h3 h4 =>
      obtain ⟨q1, q2⟩ := Bool.and_eq_true_iff.mp q
      have ec := of_decide_eq_true q1
      subst ec
      refine ⟨_, _, _, rfl, e _ _ h1, lookup_none ?_⟩
      rw [h3]
      intro z
      simp only [Bool.not_eq_true', List.contains_eq_mem, decide_eq_false_iff_not] at q2
      exact q2 z
    | _ => cases q
  | oi h1 h2 h3 h4 h5 h6 =>
    obtain ⟨q1, q2⟩ := Bool.and_eq_true_iff.mp q
    have ec := of_decide_eq_true q1
    subst ec
    refine ⟨_, _, _, rfl, h1, lookup_none ?_⟩
    rw [h5]
    intro z
    simp only [Bool.not_eq_true', List.contains_eq_mem, decide_eq_false_iff_not] at q2
    exact q2 z
  | _ => cases q
/-- x.m(..), the instance in the variable i, changed by the method -/
def mMethIO (c m : Str) (n : Nat) (f : M Sl) (ios : List (Nat × Nat)) (i : Nat) (gs : M (List Sl)) : M Sl := fun ρ => match ρ[i]? with
  | some (some t) => if isIns c m t = true then mCall n f ((0, i) :: shift ios) (mCons (mMove i) gs) ρ else .fail
  | _ => .fail
/-- e.m(..), the instance data -/
def mMethD (c m : Str) (n : Nat) (f : M Sl) (ios : List (Nat × Nat)) (go : M D) (gs : M (List Sl)) : M Sl := M.bind go fun d => if isIns c m (.d d) = true then mCall n f (shift ios) (mCons (M.pure (.d d)) gs) else fun _ => .fail
theorem nd_shift {ios : List (Nat × Nat)} (h : (ios.map Prod.fst).Nodup) : ((shift ios).map Prod.fst).Nodup := by
  have e : (shift ios).map Prod.fst = (ios.map Prod.fst).map (· + 1) := by unfold shift; rw [List.map_map, List.map_map]; rfl
  rw [e]
  refine List.Pairwise.map _ (fun a b h z => h (Nat.succ.inj z)) h
theorem nd_io {ios : List (Nat × Nat)} {i : Nat} (h : (ios.map Prod.fst).Nodup) : (((0, i) :: shift ios).map Prod.fst).Nodup := by
  refine List.nodup_cons.mpr ⟨fun z => ?_, nd_shift h⟩
  obtain ⟨p, hp, q⟩ := List.mem_map.mp z
  unfold shift at hp
  obtain ⟨p', hp', rfl⟩ := List.mem_map.mp hp
  exact Nat.succ_ne_zero _ q
/-- what a method's rule asks, of a receiver in a variable -/
theorem methio_post {gs : M (List Sl)} {i : Nat} {ρ : Env} {σ : St} {H B : Hp} {Fs : Nat → List Addr} {Q : VK} {t : TA} (s : SR T X.K ρ σ H B Fs) (nd : (ios.map Prod.fst).Nodup) (h : postO T X.K (W σ) (mMethIO x m n g ios i gs ρ) σ H B (Own Fs) Q)
    (ht : ∀ H' Q', tAio T X.K ios W gs σ H' Q' → t σ H' Q') : (tMeth (He.ga X.K x) m (spD T X.K n g) [] E0 (tVar i) t) σ H Q := by
  unfold mMethIO at h
  cases e : ρ[i]? with
  | none => rw [e] at h; exact h.elim
  | some o =>
    cases o with
    | none => rw [e] at h; exact h.elim
    | some tr =>
      rw [e] at h
      dsimp only at h
      split at h
      · rename_i hi
        obtain ⟨v, h1, h2⟩ := s.slot i tr e
        obtain ⟨a, dx, fs, rfl, ea, el⟩ := isIns_ok s.ex h2 hi
        refine ⟨.ref a, h1, a, dx, fs, rfl, ea, el, ht _ _ ?_⟩
        have ilt : i < ρ.length := (List.getElem?_eq_some_iff.mp e).1
        have s1 : SR T X.K (ρ.set i none) σ H B (setF Fs i []) := s.put ilt (fun _ _ => rfl) (fun t' q => by cases q) (fun _ => rfl) (Ex.refl B) s.ex s.tabs s.noT (fun _ _ _ _ _ q => q) (fun a z => by cases z) fun j a hj ha => s.offB j a ha
        have o1 : Off B (setF Fs i []) (Fs i) := fun a ha => ⟨fun j hj => by
          by_cases z : j = i
          · subst z; rw [setF_same] at hj; cases hj
          · rw [setF_ne z] at hj; exact s.apart j i a z hj ha, s.offB i a ha⟩
        have st : Step H B (Own Fs) H B (fun a => Own (setF Fs i []) a ∨ a ∈ Fs i) := ⟨fun _ _ _ _ q => q, fun _ q => q, Ex.refl B, fun a q => .inl q, fun a q => .inl (by
          rcases q with q | q
          · rcases own_setF q with q | q
            · cases q
            · exact q
          · exact ⟨i, q⟩)⟩
        -- the rest of the arguments, then the call
        have key := cons_post (T := T) (W := W) (g := gs) (ios := ios) (ios2 := (0, i) :: shift ios) (Q := fun vs H2 => spD T X.K n g vs H2 Q E0) s1 h2 o1 (by
          have h' := postO.from st h
          unfold mCall mCons M.bind mMove at h'
          rw [e] at h'
          dsimp only at h'
          unfold M.bind
          cases q : gs (ρ.set i none) with
          | fail => rw [q] at h'; exact h'
          | exc c fs ρ1 => rw [q] at h'; exact h'
          | ok ss ρ1 =>
            rw [q] at h'
            intro vs H1 B1 Fs1 Fr s1 i1 o1 st1 iov
            exact call_post s1 i1 o1 iov (nd_io nd) (postO.from st1 h')) (fun vs q p hp => by
          rcases List.mem_cons.mp hp with z | z
          · subst z; exact ⟨.ref a, rfl, h1⟩
          · exact iov_shift q p z)
        obtain ⟨ρ', B', Fs', k1, k2⟩ := key
        refine ⟨ρ', B', Fs', k1, ?_⟩
        cases q : gs ρ' with
        | fail => rw [q] at k2; exact k2
        | exc c fs ρ1 => rw [q] at k2; exact k2
        | ok ss ρ1 =>
          rw [q] at k2
          intro vs H1 B1 Fs1 Fr z1 z2 z3 z4 z5
          show spD T X.K n g (V.ref a :: (vs ++ [])) H1 Q E0
          rw [List.append_nil]
          exact k2 vs H1 B1 Fs1 Fr z1 z2 z3 z4 z5
      · exact h.elim
theorem eo_methio {pl : Sem Bool} {gs : M (List Sl)} (i : Nat) (cl : Cls X.K (He.ga X.K x)) (hm : Meth X.K (He.ga X.K x) m f) (G : GF T X k f fd ps n g) (hr : Room k X.A) (b : Binds X.K fd ps []) {y : Str} {py : Pos} (ha : EAio T W X ios (e :: es) gs) (nd : (ios.map Prod.fst).Nodup := by decide)
    (hN : X.N[i]? = some y := by rfl) (hv : Vis X.env.scope y := by first | exact Or.inl rfl | exact Or.inr (Or.inl rfl) | exact Or.inr (Or.inr rfl)) (hd : (y == ("__debug__" : Str)) = false := by decide) (hcd : (y == ("__classdict__" : Str)) = false := by decide)
    (hst : starEach (e :: es) X.env = (false, eval e X.env) :: starEach es X.env := by rfl) (hpl : (backTo pos (starEach es X.env)).any (·.1) = false := by rfl)
    (ht : eval (.Call (.Attribute (.Name y py) m apos) (e :: es) [] pos) X.env = (do
      let ov ← eval (.Name y py) X.env
      standAt apos.atName
      let (f, first) ← holding [ov] (getMethod ov m pl)
      callWith pos f first (backTo pos (starEach (e :: es) X.env)) (backToKw pos (keywordEach [] X.env))) := by rfl) :
    EO T W X (.Call (.Attribute (.Name y py) m apos) (e :: es) [] pos) (mMethIO x m n g ios i gs) :=
  pe_imp (pe_meth (pe_var hN hv hd hcd) cl hm G hr b .nil pass0 ha hst hpl ht) fun σ H Q ⟨ρ, B, Fs, s, h⟩ => methio_post s nd h fun _ _ q => q
theorem eo_methio0 {pl : Sem Bool} (i : Nat) (cl : Cls X.K (He.ga X.K x)) (hm : Meth X.K (He.ga X.K x) m f) (G : GF T X k f fd ps n g) (hr : Room k X.A) (b : Binds X.K fd ps []) {y : Str} {py : Pos}
    (hN : X.N[i]? = some y := by rfl) (hv : Vis X.env.scope y := by first | exact Or.inl rfl | exact Or.inr (Or.inl rfl) | exact Or.inr (Or.inr rfl)) (hd : (y == ("__debug__" : Str)) = false := by decide) (hcd : (y == ("__classdict__" : Str)) = false := by decide)
    (ht : eval (.Call (.Attribute (.Name y py) m apos) [] [] pos) X.env = (do
      let ov ← eval (.Name y py) X.env
      standAt apos.atName
      let (f, first) ← holding [ov] (getMethod ov m pl)
      callWith pos f first (backTo pos (starEach [] X.env)) (backToKw pos (keywordEach [] X.env))) := by rfl) :
    EO T W X (.Call (.Attribute (.Name y py) m apos) [] [] pos) (mMethIO x m n g [] i mNil) :=
  pe_imp (pe_meth0 (pe_var hN hv hd hcd) cl hm G hr b .nil pass0 ht) fun σ H Q ⟨ρ, B, Fs, s, h⟩ => methio_post s (by decide) h fun H' Q' ⟨ρ, B, Fs, s, q⟩ =>
    q [] H' B Fs [] s .nil (fun _ z => by cases z) ⟨fun _ _ _ _ q => q, fun _ q => q, Ex.refl _, fun a q => .inl q, fun a q => .inl (q.elim id fun z => by cases z)⟩ fun p hp => by cases hp
theorem methd_post {gs : M (List Sl)} {go : M D} {ρ : Env} {σ : St} {H B : Hp} {Fs : Nat → List Addr} {Q : VK} {t : TA} (s : SR T X.K ρ σ H B Fs) (nd : (ios.map Prod.fst).Nodup) (h : postO T X.K (W σ) (mMethD x m n g ios go gs ρ) σ H B (Own Fs) Q)
    (ht : ∀ H' Q', tAio T X.K ios W gs σ H' Q' → t σ H' Q') : (tMeth (He.ga X.K x) m (spD T X.K n g) [] E0 (tD T X.K W go) t) σ H Q := by
  refine bindD pl_O s h fun v d ρ1 H1 B1 Fs1 s1 i1 st1 h => ?_
  split at h
  · rename_i hi
    obtain ⟨a, dx, fs, rfl, ea, el⟩ := isIns_ok s1.ex (.d (H := H1) i1) hi
    refine ⟨a, dx, fs, rfl, ea, el, ht _ _ ?_⟩
    have key := cons_post (T := T) (W := W) (g := gs) (ios := ios) (ios2 := shift ios) (Q := fun vs H2 => spD T X.K n g vs H2 Q E0) (Fr := []) s1 (.d i1) (fun _ z => by cases z) (by
      have h' := postO.from (F1 := fun a => Own Fs1 a ∨ a ∈ []) (⟨fun a o n t e => e, fun _ q => q, Ex.refl _, fun a q => .inl q, fun a q => .inl (q.elim id fun z => by cases z)⟩ : Step H1 B1 (Own Fs1) H1 B1 _) h
      unfold mCall mCons M.bind M.pure at h'
      dsimp only at h'
      unfold M.bind
      cases q : gs ρ1 with
      | fail => rw [q] at h'; exact h'
      | exc c fs ρ2 => rw [q] at h'; exact h'
      | ok ss ρ2 =>
        rw [q] at h'
        intro vs H1 B1 Fs1 Fr s1 i1 o1 st1 iov
        exact call_post s1 i1 o1 iov (nd_shift nd) (postO.from st1 h')) (fun vs q => iov_shift q)
    obtain ⟨ρ', B', Fs', k1, k2⟩ := key
    refine ⟨ρ', B', Fs', k1, ?_⟩
    cases q : gs ρ' with
    | fail => rw [q] at k2; exact k2
    | exc c fs ρ1 => rw [q] at k2; exact k2
    | ok ss ρ1 =>
      rw [q] at k2
      intro vs H1 B1 Fs1 Fr z1 z2 z3 z4 z5
      show spD T X.K n g (V.ref a :: (vs ++ [])) H1 Q E0
      rw [List.append_nil]
      exact k2 vs H1 B1 Fs1 Fr z1 z2 z3 z4 z5
  · exact h.elim
theorem eo_methd {pl : Sem Bool} {gs : M (List Sl)} {go : M D} (ho : ED T W X o go) (cl : Cls X.K (He.ga X.K x)) (hm : Meth X.K (He.ga X.K x) m f) (G : GF T X k f fd ps n g) (hr : Room k X.A) (b : Binds X.K fd ps []) (ha : EAio T W X ios (e :: es) gs) (nd : (ios.map Prod.fst).Nodup := by decide)
    (hst : starEach (e :: es) X.env = (false, eval e X.env) :: starEach es X.env := by rfl) (hpl : (backTo pos (starEach es X.env)).any (·.1) = false := by rfl)
    (ht : eval (.Call (.Attribute o m apos) (e :: es) [] pos) X.env = (do
      let ov ← eval o X.env
      standAt apos.atName
      let (f, first) ← holding [ov] (getMethod ov m pl)
      callWith pos f first (backTo pos (starEach (e :: es) X.env)) (backToKw pos (keywordEach [] X.env))) := by rfl) :
    EO T W X (.Call (.Attribute o m apos) (e :: es) [] pos) (mMethD x m n g ios go gs) :=
  pe_imp (pe_meth ho cl hm G hr b .nil pass0 ha hst hpl ht) fun σ H Q ⟨ρ, B, Fs, s, h⟩ => methd_post s nd h fun _ _ q => q
theorem eo_methd0 {pl : Sem Bool} {go : M D} (ho : ED T W X o go) (cl : Cls X.K (He.ga X.K x)) (hm : Meth X.K (He.ga X.K x) m f) (G : GF T X k f fd ps n g) (hr : Room k X.A) (b : Binds X.K fd ps [])
    (ht : eval (.Call (.Attribute o m apos) [] [] pos) X.env = (do
      let ov ← eval o X.env
      standAt apos.atName
      let (f, first) ← holding [ov] (getMethod ov m pl)
      callWith pos f first (backTo pos (starEach [] X.env)) (backToKw pos (keywordEach [] X.env))) := by rfl) :
    EO T W X (.Call (.Attribute o m apos) [] [] pos) (mMethD x m n g [] go mNil) :=
  pe_imp (pe_meth0 ho cl hm G hr b .nil pass0 ht) fun σ H Q ⟨ρ, B, Fs, s, h⟩ => methd_post s (by decide) h fun H' Q' ⟨ρ, B, Fs, s, q⟩ =>
    q [] H' B Fs [] s .nil (fun _ z => by cases z) ⟨fun _ _ _ _ q => q, fun _ q => q, Ex.refl _, fun a q => .inl q, fun a q => .inl (q.elim id fun z => by cases z)⟩ fun p hp => by cases hp
/-- C(..): a new instance, owned, then __init__ over it -/
def mMake (c : Str) (n : Nat) (f : M Sl) (ios : List (Nat × Nat)) (gs : M (List Sl)) : M Sl := M.bind gs fun ss ρ => if ss.length + 1 = n then (match f (some (.oi c []) :: ss.map some) with
  | .ok (.d .non) ρf => match ρf[0]? with
    | some (some t) => .ok t (putBack (shift ios) ρf ρ)
    | _ => .fail
  | _ => .fail) else .fail
theorem eo_make {gs : M (List Sl)} (M0 : Mk X.K (He.ga X.K x) f) (G : GF T X k f fd ps n g) (hr : Room (k + 1) X.A) (hm : X.mg x = some (.ref (He.ga X.K x))) (b : Binds X.K fd ps []) (ha : EAio T W X ios (e :: es) gs) (nd : (ios.map Prod.fst).Nodup := by decide)
    (hg : Gl X x := by rfl) (hdb : (x == ("__debug__" : Str)) = false := by decide) (he : starEach (e :: es) X.env = (false, eval e X.env) :: starEach es X.env := by rfl) (hpl : (backTo pos (starEach es X.env)).any (·.1) = false := by rfl) :
    EO T W X (.Call (.Name x p) (e :: es) [] pos) (mMake x n g ios gs) :=
  pe_imp (pe_make M0 G hr hg hm b .nil pass0 ha hdb he hpl) fun σ H Q ⟨ρ, B, Fs, s, h⟩ => by
    refine ⟨ρ, B, Fs, s, ?_⟩
    unfold mMake M.bind at h
    cases q : gs ρ with
    | fail => rw [q] at h; exact h
    | exc c fs ρ1 => rw [q] at h; exact h
    | ok ss ρ1 =>
      rw [q] at h
      intro vs H1 B1 Fs1 Fr s1 i1 o1 st iov y dx hy hdx hne
      have h := postO.from st h
      show spD T X.K n g (V.ref y :: (vs ++ [])) _ _ E0
      rw [List.append_nil]
      dsimp only at h
      split at h
      case isFalse => exact h.elim
      case isTrue hn =>
        -- the new instance is one more temporary
        have g1 : Grow H1 B1 (upd H1 dx (.own y)) B1 := Grow.own s1.ex s1.noT hdx
        have hy2 : upd H1 dx (.own y) y = none := by rw [upd_ne (Ne.symm hne)]; exact hy
        have g2 := g1.trans (Grow.own (o := .ins (He.ga X.K x) dx []) g1.le s1.noT hy2)
        have s2 := s1.grow g2
        have yn : y ∉ Fr := fun z => by
          obtain ⟨u, q, _⟩ := i1.there y z
          rw [hy] at q; cases q
        have dn : dx ∉ Fr := fun z => by
          obtain ⟨u, q, _⟩ := i1.there dx z
          rw [hdx] at q; cases q
        have noB : ∀ {z : Addr}, H1 z = none → B1 z = none := fun {z} hz => by
          cases q : B1 z with
          | none => rfl
          | some u => rw [s1.ex _ _ q] at hz; cases hz
        have noS : ∀ {z : Addr}, H1 z = none → ∀ i, z ∉ Fs1 i := fun {z} hz i hi => by
          obtain ⟨u, q, _⟩ := s1.alive hi
          rw [hz] at q; cases q
        have i2 : OwAll X.K B1 (upd (upd H1 dx (.own y)) y (.ins (He.ga X.K x) dx [])) (V.ref y :: vs) (.oi x [] :: ss) ((y :: dx :: []) ++ Fr) :=
          .cons (.oi (fs := []) (l := []) upd_same (by rw [upd_ne hne]; exact upd_same) (by simp) (by simp) rfl .nil) (i1.mono (Ex.refl _) fun a u ha e => g2.ex a u e) fun a ha hb => by
            rcases List.mem_cons.mp ha with z | z
            · subst z; exact yn hb
            · rcases List.mem_cons.mp z with z | z
              · subst z; exact dn hb
              · cases z
        have o2 : Off B1 Fs1 ((y :: dx :: []) ++ Fr) := fun a ha => by
          rcases List.mem_append.mp ha with z | z
          · rcases List.mem_cons.mp z with z | z
            · subst z; exact ⟨noS hy, noB hy⟩
            · rcases List.mem_cons.mp z with z | z
              · subst z; exact ⟨noS hdx, noB hdx⟩
              · cases z
          · exact o1 a z
        obtain ⟨FA, sA, eA⟩ := s2.args i2 o2
        refine ⟨by rw [List.length_cons, i1.length]; exact hn, (Sl.oi x [] :: ss).map some, B1, FA, sA, ?_⟩
        have h : postO T X.K (W σ) (match g ((Sl.oi x [] :: ss).map some) with
          | .ok (.d .non) ρf => match ρf[0]? with
            | some (some t) => .ok t (putBack (shift ios) ρf ρ1)
            | _ => .fail
          | _ => .fail) σ H1 B1 (fun a => Own Fs1 a ∨ a ∈ Fr) Q := h
        cases e : g ((Sl.oi x [] :: ss).map some) with
        | fail => rw [e] at h; exact h.elim
        | exc c fs ρf => rw [e] at h; exact h.elim
        | ok r ρf =>
          rw [e] at h
          intro v H2 B2 Ff Fr2 sf ow of st2
          have hr' : r = .d .non := by
            cases r with
            | d d => cases d with
              | non => rfl
              | _ => exact h.elim
            | _ => exact h.elim
          subst hr'
          have ev : v = .non := by
            cases ow with
            | d i => cases i; rfl
          have eF2 : Fr2 = [] := by
            cases ow with
            | d i => rfl
          subst eF2
          refine ⟨ev, ?_⟩
          dsimp only at h
          cases e0 : ρf[0]? with
          | none => rw [e0] at h; exact h.elim
          | some ot =>
            cases ot with
            | none => rw [e0] at h; exact h.elim
            | some t =>
              rw [e0] at h
              obtain ⟨v0, q1, q2⟩ := sf.slot 0 t e0
              have ev0 : v0 = .ref y := by simpa using q1.symm
              subst ev0
              have iov' : IOv (shift ios) (V.ref y :: vs) σ := iov_shift iov
              obtain ⟨Fs3, s3, sub, notF, st3⟩ := after_call (Fr2 := []) (Fr := Fr) (ios := shift ios) (FA := FA) s1 o1 (fun a z => by
                rcases List.mem_append.mp ((eA a).mp z) with z | z
                · rcases List.mem_cons.mp z with z | z
                  · subst z; exact .inr hy
                  · rcases List.mem_cons.mp z with z | z
                    · subst z; exact .inr hdx
                    · cases z
                · exact .inl z) (fun a z => (eA a).mpr (List.mem_append_right _ z)) iov' (nd_shift nd) sf ((g2.step (F := Own FA)).trans st2)
              refine h (.ref y) H2 B2 Fs3 (Ff 0) s3 q2 (fun a ha => ⟨fun i hi => ?_, sf.offB 0 a ha⟩) (st3.congr (fun _ => Iff.rfl) fun a q => ?_)
              · rcases sub a ⟨i, hi⟩ with ⟨j, z⟩ | ⟨j, zj, z⟩
                · exact notF j a z (.inl ⟨0, ha⟩)
                · have j0 : j ≠ 0 := fun q => by
                    subst q
                    obtain ⟨p, hp, q⟩ := List.mem_map.mp zj
                    unfold shift at hp
                    obtain ⟨p', _, rfl⟩ := List.mem_map.mp hp
                    exact Nat.succ_ne_zero _ q
                  exact sf.apart 0 j a (Ne.symm j0) ha z
              · rcases q with q | q
                · rcases sub a q with q | ⟨j, _, q⟩
                  · exact .inl q
                  · exact .inr (.inl ⟨j, q⟩)
                · exact .inr (.inl ⟨0, q⟩)
end
end DL

end
section
set_option Elab.async false
set_option linter.all false
set_option autoImplicit false
set_option maxRecDepth 100000
set_option maxHeartbeats 4000000
/-! The data layer, part 7: attributes; looking without freezing; owned lists, dicts and instances changed in place. -/
namespace DL
open PySem PySem.Spec L2 NdefX
section
variable {T : List NTab} {K : PySem.W.Frag} {ρ : Env} {σ : St} {H B : Hp} {Fs : Nat → List Addr}
theorem tabs_upd {a : Addr} {o o' : HO} (t : TabsN T H) (h : H a = some o) (own : Ownable o) : TabsN T (upd H a o') := fun p hp => by
  obtain ⟨ps, h1, h2, h3⟩ := t p hp
  refine ⟨ps, ?_, h2, fun pos cv hc => ?_⟩
  · rw [upd_ne]
    · exact h1
    · intro z; rw [z, h] at h1; cases h1; exact own
  · obtain ⟨c, e1, e2⟩ := h3 pos cv hc
    refine ⟨c, e1, ?_⟩
    rw [upd_ne]
    · exact e2
    · intro z; rw [z, h] at e2; cases e2; exact own
/-- what a slot owns is rewritten at a -/
theorem SR.write {i : Nat} {t t' : Sl} {v : V} {a : Addr} {o' : HO} {G Fr : List Addr} (s : SR T K ρ σ H B Fs) (e : ρ[i]? = some (some t)) (hv : σ[i]? = some (some v)) (ha : a ∈ Fs i) (new : Ow K B (upd H a o') v t' G) (sub : ∀ x, x ∈ G → x ∈ Fs i ∨ x ∈ Fr) (off : Off B Fs Fr) :
    SR T K (ρ.set i (some t')) σ (upd H a o') B (setF Fs i G) ∧ Step H B (fun x => Own Fs x ∨ x ∈ Fr) (upd H a o') B (Own (setF Fs i G)) := by
  have ilt : i < ρ.length := (List.getElem?_eq_some_iff.mp e).1
  obtain ⟨o, ho, own⟩ := s.alive ha
  have hB : B a = none := s.offB i a ha
  refine ⟨s.put ilt (fun _ _ => rfl) (fun u q => ⟨v, hv, by cases q; exact new⟩) (fun q => by cases q) (Ex.refl B) (fun b u h => ?_) (tabs_upd s.tabs ho own) s.noT (fun j b u hj hb h => ?_) (fun b hb => ⟨fun j hj hjb => ?_, ?_⟩) fun j b hj hb => s.offB j b hb, ?_⟩
  · rw [upd_ne (fun z => by rw [z, hB] at h; cases h)]; exact s.ex _ _ h
  · rw [upd_ne (fun z => s.apart j i b hj hb (by rw [z]; exact ha))]; exact h
  · rcases sub b hb with z | z
    · exact s.apart i j b (Ne.symm hj) z hjb
    · exact (off b z).1 j hjb
  · rcases sub b hb with z | z
    · exact s.offB i b z
    · exact (off b z).2
  · refine ⟨fun b u n _ h => ?_, fun b h => h, Ex.refl B, fun b h => .inl h, fun b h => .inl ?_⟩
    · rw [upd_ne (fun z => n (.inl ⟨i, by rw [z]; exact ha⟩))]; exact h
    · rcases own_setF h with h | h
      · exact (sub b h).elim (fun z => .inl ⟨i, z⟩) .inr
      · exact .inl h
theorem OwAll.snoc {v : V} {t : Sl} {G : List Addr} (h2 : Ow K B H v t G) : ∀ {vs : List V} {ss : List Sl} {F : List Addr}, OwAll K B H vs ss F → (∀ a, a ∈ F → a ∉ G) → ∃ F', OwAll K B H (vs ++ [v]) (ss ++ [t]) F' ∧ ∀ a, a ∈ F' ↔ a ∈ F ∨ a ∈ G
  | _, _, _, .nil, _ => ⟨G ++ [], .cons h2 .nil (fun _ _ => by simp), fun a => by simp⟩
  | _, _, _, .cons (F := F1) (G := F2) h1 h3 h4, dj => by
    obtain ⟨F', q1, q2⟩ := OwAll.snoc h2 h3 fun a ha => dj a (List.mem_append_right _ ha)
    refine ⟨F1 ++ F', .cons h1 q1 fun a ha hb => ?_, fun a => ?_⟩
    · rcases (q2 a).mp hb with z | z
      · exact h4 a ha z
      · exact dj a (List.mem_append_left _ ha) z
    · rw [List.mem_append, List.mem_append, q2]
      exact ⟨fun h => h.elim (fun h => .inl (.inl h)) fun h => h.elim (fun h => .inl (.inr h)) .inr, fun h => h.elim (fun h => h.elim .inl fun h => .inr (.inl h)) fun h => .inr (.inr h)⟩
/-- one of them is taken out -/
theorem OwAll.out : ∀ {vs : List V} {ss : List Sl} {F : List Addr} {k : Nat} {v : V} {t : Sl}, OwAll K B H vs ss F → vs[k]? = some v → ss[k]? = some t → ∃ G F', Ow K B H v t G ∧ OwAll K B H (vs.eraseIdx k) (ss.eraseIdx k) F' ∧ (∀ a, a ∈ G → a ∉ F') ∧ ∀ a, a ∈ F ↔ a ∈ G ∨ a ∈ F'
  | _, _, _, k, _, _, .nil, e, _ => by simp at e
  | _, _, _, 0, v, t, .cons (F := F1) (G := F2) h1 h2 h3, e1, e2 => by
    simp at e1 e2
    subst e1; subst e2
    exact ⟨F1, F2, h1, h2, h3, fun a => List.mem_append⟩
  | _, _, _, k + 1, v, t, .cons (F := F1) (G := F2) h1 h2 h3, e1, e2 => by
    obtain ⟨G, F', q1, q2, q3, q4⟩ := OwAll.out (k := k) (v := v) (t := t) h2 (by simpa using e1) (by simpa using e2)
    refine ⟨G, F1 ++ F', q1, .cons h1 q2 fun a ha hb => h3 a ha ((q4 a).mpr (.inr hb)), fun a ha hb => ?_, fun a => ?_⟩
    · rcases List.mem_append.mp hb with z | z
      · exact h3 a z ((q4 a).mpr (.inl ha))
      · exact q3 a ha z
    · rw [List.mem_append, List.mem_append, q4]
      exact ⟨fun h => h.elim (fun h => .inr (.inl h)) fun h => h.elim .inl fun h => .inr (.inr h), fun h => h.elim (fun h => .inr (.inl h)) fun h => h.elim .inl fun h => .inr (.inr h)⟩
/-- one of them is put otherwise -/
theorem OwAll.putAt {w : V} {u : Sl} {G : List Addr} (h5 : Ow K B H w u G) : ∀ {vs : List V} {ss : List Sl} {F : List Addr} (k : Nat), OwAll K B H vs ss F → (∀ a, a ∈ F → a ∉ G) → ∃ F', OwAll K B H (vs.set k w) (ss.set k u) F' ∧ ∀ a, a ∈ F' → a ∈ F ∨ a ∈ G
  | _, _, _, _, .nil, _ => ⟨[], .nil, fun a h => by cases h⟩
  | _, _, _, 0, .cons (F := F1) (G := F2) h1 h2 h3, dj => ⟨G ++ F2, .cons h5 h2 (fun a ha hb => dj a (List.mem_append_right _ hb) ha), fun a h => (List.mem_append.mp h).elim .inr fun z => .inl (List.mem_append_right _ z)⟩
  | _, _, _, k + 1, .cons (F := F1) (G := F2) h1 h2 h3, dj => by
    obtain ⟨F', q1, q2⟩ := OwAll.putAt h5 k h2 fun a ha => dj a (List.mem_append_right _ ha)
    refine ⟨F1 ++ F', .cons h1 q1 fun a ha hb => ?_, fun a h => ?_⟩
    · rcases q2 a hb with z | z
      · exact h3 a ha z
      · exact dj a (List.mem_append_left _ ha) z
    · rcases List.mem_append.mp h with z | z
      · exact .inl (List.mem_append_left _ z)
      · exact (q2 a z).elim (fun z => .inl (List.mem_append_right _ z)) .inr
theorem OwAll.get : ∀ {vs : List V} {ss : List Sl} {F : List Addr} {k : Nat} {t : Sl}, OwAll K B H vs ss F → ss[k]? = some t → ∃ v G, vs[k]? = some v ∧ Ow K B H v t G ∧ ∀ a, a ∈ G → a ∈ F
  | _, _, _, k, _, .nil, e => by simp at e
  | _, _, _, 0, t, .cons (F := F1) (G := F2) h1 h2 h3, e => by
    simp at e; subst e
    exact ⟨_, F1, rfl, h1, fun a h => List.mem_append_left _ h⟩
  | _, _, _, k + 1, t, .cons (F := F1) (G := F2) h1 h2 h3, e => by
    obtain ⟨v, G, q1, q2, q3⟩ := OwAll.get (k := k) (t := t) h2 (by simpa using e)
    exact ⟨v, G, by simpa using q1, q2, fun a h => List.mem_append_right _ (q3 a h)⟩
end
/-! ### meanings -/
def okTo (f : Sl → Option Sl) (i : Nat) (ρ : Env) : Option Env := match ρ[i]? with
  | some (some t) => (f t).map fun u => ρ.set i (some u)
  | _ => none
def isOl (i : Nat) (ρ : Env) : Bool := match ρ[i]? with
  | some (some (.ol _)) => true
  | _ => false
def guard {α : Type} (c : Env → Bool) (g : M α) : M α := fun ρ => if c ρ = true then g ρ else .fail
/-- x.append(e) -/
def mApp (i : Nat) (g : M Sl) : M Sl := guard (isOl i) (M.bind g fun t ρ => match ρ[i]? with
  | some (some (.ol l)) => if lineOk (l.length + 1) then .ok (.d .non) (ρ.set i (some (.ol (l ++ [t])))) else .fail
  | _ => .fail)
/-- x.pop() -/
def mPop (i : Nat) : M Sl := fun ρ => match ρ[i]? with
  | some (some (.ol l)) => match l[l.length - 1]? with
    | some t => .ok t (ρ.set i (some (.ol (l.eraseIdx (l.length - 1)))))
    | none => .fail
  | _ => .fail
/-- x.pop(k) -/
def mPopAt (i : Nat) (g : M D) : M Sl := guard (isOl i) (M.bind g fun d ρ => match d, ρ[i]? with
  | .int k, some (some (.ol l)) => if 0 ≤ k ∧ k < (l.length : Int) ∧ k < 2 ^ 62 then (match l[k.toNat]? with
    | some t => .ok t (ρ.set i (some (.ol (l.eraseIdx k.toNat))))
    | none => .fail) else .fail
  | _, _ => .fail)
/-- x[k], the item data -/
def mIxV (i : Nat) (g : M D) : M D := guard (isOl i) (M.bind g fun d ρ => match d, ρ[i]? with
  | .int k, some (some (.ol l)) => match atI l k with
    | some (.d x) => .ok x ρ
    | _ => .fail
  | _, _ => .fail)
/-- x[k].append(e): the list in a list -/
def mAppIx (i : Nat) (g : M D) (ge : M Sl) : M Sl := M.bind g fun d ρ0 => match d, ρ0[i]? with
  | .int k, some (some (.ol l)) => if 0 ≤ k ∧ k < (l.length : Int) then (match l[k.toNat]? with
    | some (.ol _) => M.bind ge (fun t ρ => match ρ[i]? with
      | some (some (.ol l2)) => (match l2[k.toNat]? with
        | some (.ol m) => if lineOk (m.length + 1) ∧ l2.length = l.length then .ok (.d .non) (ρ.set i (some (.ol (l2.set k.toNat (.ol (m ++ [t])))))) else .fail
        | _ => .fail)
      | _ => .fail) ρ0
    | _ => .fail) else .fail
  | _, _ => .fail
/-- d[k], the value data -/
def keyD : D → Option Key
  | .int i => some (.inl i)
  | .str x => some (.inr x)
  | _ => none
def lookK {α : Type} (k : Key) : List (Key × α) → Option α
  | [] => none
  | p :: r => if p.1 = k then some p.2 else lookK k r
def putK {α : Type} (k : Key) (v : α) : List (Key × α) → List (Key × α)
  | [] => [(k, v)]
  | p :: r => if p.1 = k then (k, v) :: r else p :: putK k v r
def isOd (i : Nat) (ρ : Env) : Bool := match ρ[i]? with
  | some (some (.od _)) => true
  | _ => false
def mDGetV (i : Nat) (g : M D) : M D := guard (isOd i) (M.bind g fun d ρ => match keyD d, ρ[i]? with
  | some k, some (some (.od l)) => match lookK k l with
    | some (.d x) => .ok x ρ
    | _ => .fail
  | _, _ => .fail)
def noDup {α : Type} [DecidableEq α] : List α → Bool
  | [] => true
  | k :: r => decide (k ∉ r) && noDup r
theorem noDup_ok {α : Type} [DecidableEq α] : ∀ {l : List α}, noDup l = true → l.Nodup
  | [], _ => List.nodup_nil
  | k :: r, h => by
    unfold noDup at h
    obtain ⟨h1, h2⟩ := Bool.and_eq_true_iff.mp h
    exact List.nodup_cons.mpr ⟨of_decide_eq_true h1, noDup_ok h2⟩
/-- d[k] = e -/
def sDPut (i : Nat) (k : Key) (g : M Sl) : SM := bindS g fun t ρ => match ρ[i]? with
  | some (some (.od l)) => if (lineOk (l.length + 1) && noDup (l.map Prod.fst)) = true then .nx (ρ.set i (some (.od (putK k t l)))) else .fail
  | _ => .fail
/-- an attribute of data; of an instance in a variable -/
def attrD (cs : List Str) (f : Str) : D → Option D
  | .ins c l => if cs.contains c then l.lookup f else none
  | _ => none
def mAttrV (cs : List Str) (f : Str) (i : Nat) : M D := fun ρ => match ρ[i]? with
  | some (some (.oi c l)) => if cs.contains c then (match l.lookup f with
    | some (.d x) => .ok x ρ
    | _ => .fail) else .fail
  | some (some (.d (.ins c l))) => if cs.contains c then (match l.lookup f with
    | some x => .ok x ρ
    | _ => .fail) else .fail
  | _ => .fail
def putS (f : Str) (t : Sl) : List (Str × Sl) → List (Str × Sl)
  | [] => [(f, t)]
  | p :: r => if p.1 = f then (f, t) :: r else p :: putS f t r
/-- self.f = e -/
def sAttr (cs : List Str) (f : Str) (i : Nat) (g : M Sl) : SM := bindS g fun t ρ => match ρ[i]? with
  | some (some (.oi c l)) => if cs.contains c ∧ l.length < 1000 then .nx (ρ.set i (some (.oi c (putS f t l)))) else .fail
  | _ => .fail
/-- self.f += e, ints -/
def sAttrAdd (cs : List Str) (f : Str) (i : Nat) (g : M D) : SM := fun ρ0 => match ρ0[i]? with
  | some (some (.oi c0 l0)) => (match l0.lookup f with
    | some (.d (.int a)) => if cs.contains c0 then bindS g (fun d ρ => match d, ρ[i]? with
      | .int b, some (some (.oi c l)) => if c = c0 ∧ l.length < 1000 then .nx (ρ.set i (some (.oi c (putS f (.d (.int (a + b))) l)))) else .fail
      | _, _ => .fail) ρ0 else .fail
    | _ => .fail)
  | _ => .fail
mutual
/-- no list, no dict, no instance within -/
def pureD : D → Bool
  | .non => true
  | .bl _ => true
  | .int _ => true
  | .str _ => true
  | .glo _ => true
  | .ty _ => true
  | .tup l => pureDs l
  | _ => false
def pureDs : List D → Bool
  | [] => true
  | d :: r => pureD d && pureDs r
end
def frzE (ρ : Env) : Env := ρ.map fun o => o.map fun s => .d (frz s)
/-- e read with everything as data; nothing stays frozen -/
def mPeek (g : M D) : M D := fun ρ => match g (frzE ρ) with
  | .ok d _ => if pureD d then .ok d ρ else .fail
  | _ => .fail
/-- what B has, and the tuples of H -/
def tups (B H : Hp) : Hp := fun a => match B a with
  | some o => some o
  | none => match H a with
    | some (.tup xs) => some (.tup xs)
    | some (.frz o u) => some (.frz o u)
    | _ => none
mutual
theorem Is.pure {K : PySem.W.Frag} {B B' : Hp} (h : ∀ a xs, Rd B a (.tup xs) → Rd B' a (.tup xs)) : ∀ {v : V} {d : D}, Is K B v d → pureD d = true → Is K B' v d
  | _, _, .non, _ => .non
  | _, _, .bl b, _ => .bl b
  | _, _, .int i, _ => .int i
  | _, _, .str x, _ => .str x
  | _, _, .glo x, _ => .glo x
  | _, _, .ty n, _ => .ty n
  | _, _, .tup h1 h2, p => .tup (h1.elim (fun z => .inl (h _ _ z)) .inr) (IsAll.pure h h2 (by unfold pureD at p; exact p))
  | _, _, .lst _ _, p => by unfold pureD at p; cases p
  | _, _, .dic _ _ _, p => by unfold pureD at p; cases p
  | _, _, .sq _ _, p => by unfold pureD at p; cases p
  | _, _, .ins _ _ _ _, p => by unfold pureD at p; cases p
theorem IsAll.pure {K : PySem.W.Frag} {B B' : Hp} (h : ∀ a xs, Rd B a (.tup xs) → Rd B' a (.tup xs)) : ∀ {vs : List V} {ds : List D}, IsAll K B vs ds → pureDs ds = true → IsAll K B' vs ds
  | _, _, .nil, _ => .nil
  | _, _, .cons h1 h2, p => by
    unfold pureDs at p
    obtain ⟨p1, p2⟩ := Bool.and_eq_true_iff.mp p
    exact .cons (Is.pure h h1 p1) (IsAll.pure h h2 p2)
end
section
variable {T : List NTab} {IO : List Nat} {W : St → XK} {X : Cx} {a b c e o : Expr} {es rest : List Expr} {pos p apos : Pos} {ga gb : M D} {go_ : M Sl} {x m fl : Str}
theorem frzE_get {ρ : Env} {i : Nat} {t : Sl} (h : (frzE ρ)[i]? = some (some t)) : ∃ s, ρ[i]? = some (some s) ∧ t = .d (frz s) := by
  unfold frzE at h
  rw [List.getElem?_map] at h
  cases q : ρ[i]? with
  | none => rw [q] at h; cases h
  | some o =>
    rw [q] at h
    cases o with
    | none => cases h
    | some s => cases h; exact ⟨s, rfl, rfl⟩
noncomputable def noTab (H : Hp) : Hp := fun a => match H a with
  | some (.tbl _) => none
  | o => o
theorem noTab_some {H : Hp} {a : Addr} {o : HO} (h : H a = some o) (n : ∀ ps, o ≠ .tbl ps) : noTab H a = some o := by
  unfold noTab
  rw [h]
  cases o with
  | tbl ps => exact absurd rfl (n ps)
  | _ => rfl
theorem of_noTab {H : Hp} {a : Addr} {o : HO} (h : noTab H a = some o) : H a = some o ∧ ∀ ps, o ≠ .tbl ps := by
  unfold noTab at h
  split at h
  · cases h
  · rename_i hn
    exact ⟨h, fun ps z => hn ps (by rw [z] at h; exact h)⟩
theorem ed_peek (h : ED T W X e ga) : ED T W X e (mPeek ga) := pe_imp h fun σ H Q ⟨ρ, B, Fs, s, q⟩ => by
  unfold mPeek at q
  have sB : ∀ a o, B a = some o → noTab H a = some o := fun a o e => noTab_some (s.ex a o e) fun ps z => s.noT a ps (by rw [e, z])
  have s0 : SR T X.K (frzE ρ) σ H (noTab H) (fun _ => []) := by
    refine ⟨fun a o e => (of_noTab e).1, s.tabs, fun a ps e => (of_noTab e).2 ps rfl, fun i t e => ?_, fun _ _ => rfl, (fun _ _ _ _ h => by cases h), (fun _ _ h => by cases h)⟩
    obtain ⟨u, e1, rfl⟩ := frzE_get e
    obtain ⟨v, q1, q2⟩ := s.slot i u e1
    exact ⟨v, q1, .d (q2.frz sB fun a o ha ho => noTab_some ho fun ps z => by
      obtain ⟨w, hw, own⟩ := q2.there a ha
      rw [ho] at hw; cases hw
      rw [z] at own; exact own)⟩
  refine ⟨frzE ρ, noTab H, fun _ => [], s0, ?_⟩
  cases e : ga (frzE ρ) with
  | fail => rw [e] at q; exact q.elim
  | exc c fs ρ' => rw [e] at q; exact q.elim
  | ok d ρ' =>
    rw [e] at q
    dsimp only at q
    split at q
    case isFalse => exact q.elim
    case isTrue hp =>
      intro v H' B' Fs' s' i' st
      have keep : ∀ a o, (∀ ps, o ≠ .tbl ps) → H a = some o → H' a = some o := fun a o n e => st.keep a o (fun ⟨i, z⟩ => by cases z) n e
      have exB : Ex B H' := fun a o e => keep a o (fun ps z => s.noT a ps (by rw [e, z])) (s.ex a o e)
      have tle : Ex (tups B H') H' := fun a o e => by
        unfold tups at e
        split at e
        · rename_i hB; cases e; exact exB _ _ hB
        · split at e
          · rename_i hH; cases e; exact hH
          · rename_i hH; cases e; exact hH
          · cases e
      have ow : ∀ i a, a ∈ Fs i → tups B H' a = none := fun i a ha => by
        obtain ⟨o, ho, own⟩ := s.alive ha
        have h1 := keep a o (fun ps z => by rw [z] at own; exact own) ho
        unfold tups
        rw [s.offB i a ha, h1]
        cases o with
        | tup xs => exact own.elim
        | frz _ _ => exact own.elim
        | _ => rfl
      have tex : Ex B (tups B H') := fun a o e => by unfold tups; rw [e]
      refine q v H' (tups B H') Fs ⟨tle, s'.tabs, fun a ps z => ?_, fun i t e => ?_, s.off, s.apart, ow⟩ (i'.pure (fun a xs r => ?_) hp) ⟨fun a o _ n e => keep a o n e, st.there, tex, fun a z => ?_, fun a z => .inl z⟩
      · unfold tups at z
        split at z
        · rename_i hB; cases z; exact s.noT _ _ hB
        · split at z <;> cases z
      · obtain ⟨v, q1, q2⟩ := s.slot i t e
        exact ⟨v, q1, q2.mono tex fun a o ha ho => by
          obtain ⟨w, hw, own⟩ := q2.there a ha
          rw [ho] at hw; cases hw
          exact keep a o (fun ps z => by rw [z] at own; exact own) ho⟩
      · have r2 : Rd H' a (.tup xs) := s'.ex.rd r
        unfold Rd tups
        rcases r2 with r2 | ⟨o, r2⟩
        · cases hB : B a with
          | some u => have := exB _ _ hB; rw [r2] at this; cases this; exact .inl rfl
          | none => rw [r2]; exact .inl rfl
        · cases hB : B a with
          | some u => have := exB _ _ hB; rw [r2] at this; cases this; exact .inr ⟨o, rfl⟩
          | none => rw [r2]; exact .inr ⟨o, rfl⟩
      · by_cases hB : B a = none
        · refine .inr (.inl fun o ho own => ?_)
          have h1 := keep a o (fun ps z => by rw [z] at own; exact own) ho
          unfold tups at z
          rw [hB, h1] at z
          cases o with
          | tup xs => exact own
          | frz _ _ => exact own
          | _ => exact z rfl
        · exact .inl hB
end
end DL

end
section
set_option Elab.async false
set_option linter.all false
set_option autoImplicit false
set_option maxRecDepth 100000
set_option maxHeartbeats 4000000
/-! The data layer, part 8: the rules for what is changed in place, and for attributes. -/
namespace DL
open PySem PySem.Spec L2 NdefX
section
variable {T : List NTab} {IO : List Nat} {W : St → XK} {X : Cx} {a b c e o k : Expr} {es rest : List Expr} {pos p apos py : Pos} {ga gb : M D} {go_ : M Sl} {x m fl y : Str}
/-- the owned list in a slot -/
theorem SR.list {K : PySem.W.Frag} {ρ : Env} {σ : St} {H B : Hp} {Fs : Nat → List Addr} {i : Nat} {l : List Sl} (s : SR T K ρ σ H B Fs) (e : ρ[i]? = some (some (.ol l))) : ∃ a xs F, σ[i]? = some (some (.ref a)) ∧ H a = some (.lst xs) ∧ OwAll K B H xs l F ∧ a ∉ F ∧ Fs i = a :: F := by
  obtain ⟨v, h1, h2⟩ := s.slot i _ e
  generalize hG : Fs i = G at h2
  cases h2 with
  | ol q1 q2 q3 => exact ⟨_, _, _, h1, q1, q3, q2, rfl⟩
theorem SR.dict {K : PySem.W.Frag} {ρ : Env} {σ : St} {H B : Hp} {Fs : Nat → List Addr} {i : Nat} {l : List (Key × Sl)} (s : SR T K ρ σ H B Fs) (e : ρ[i]? = some (some (.od l))) : ∃ a kvs F, σ[i]? = some (some (.ref a)) ∧ H a = some (.dK kvs) ∧ kvs.map Prod.fst = l.map Prod.fst ∧ OwAll K B H (kvs.map Prod.snd) (l.map Prod.snd) F ∧ a ∉ F ∧ Fs i = a :: F := by
  obtain ⟨v, h1, h2⟩ := s.slot i _ e
  generalize hG : Fs i = G at h2
  cases h2 with
  | od q1 q2 q3 q4 => exact ⟨_, _, _, h1, q1, q3, q4, q2, rfl⟩
theorem SR.inst {K : PySem.W.Frag} {ρ : Env} {σ : St} {H B : Hp} {Fs : Nat → List Addr} {i : Nat} {c : Str} {l : List (Str × Sl)} (s : SR T K ρ σ H B Fs) (e : ρ[i]? = some (some (.oi c l))) : ∃ a dx fs F, σ[i]? = some (some (.ref a)) ∧ H a = some (.ins (He.ga K c) dx fs) ∧ H dx = some (.own a) ∧ fs.map Prod.fst = l.map Prod.fst ∧ OwAll K B H (fs.map Prod.snd) (l.map Prod.snd) F ∧ a ∉ F ∧ dx ∉ F ∧ Fs i = a :: dx :: F := by
  obtain ⟨v, h1, h2⟩ := s.slot i _ e
  generalize hG : Fs i = G at h2
  cases h2 with
  | oi q1 q2 q3 q4 q5 q6 => exact ⟨_, _, _, _, h1, q1, q2, q5, q6, q3, q4, rfl⟩
abbrev NameOk (X : Cx) (i : Nat) (y : Str) : Prop := X.N[i]? = some y ∧ Vis X.env.scope y ∧ (y == ("__debug__" : Str)) = false ∧ (y == ("__classdict__" : Str)) = false
theorem NameOk.pe {i : Nat} (h : NameOk X i y) : PE X (.Name y py) (tVar i) := pe_var h.1 h.2.1 h.2.2.1 h.2.2.2
theorem Off.nil {B : Hp} {Fs : Nat → List Addr} : Off B Fs [] := fun _ z => by cases z
theorem Step.tmp {H B : Hp} {Fs : Nat → List Addr} : Step H B (Own Fs) H B (fun a => Own Fs a ∨ a ∈ ([] : List Addr)) := ⟨fun _ _ _ _ q => q, fun _ q => q, Ex.refl _, fun a q => .inl q, fun a q => .inl (q.elim id fun z => by cases z)⟩
theorem Step.toTmp {H B H' B' : Hp} {F : Addr → Prop} {Fs : Nat → List Addr} (s : Step H B F H' B' (Own Fs)) : Step H B F H' B' (fun a => Own Fs a ∨ a ∈ ([] : List Addr)) := s.trans .tmp
theorem Step.drop {H B H' B' : Hp} {F : Addr → Prop} {P R : Addr → Prop} (s : Step H B F H' B' (fun a => P a ∨ R a)) : Step H B F H' B' P := ⟨s.keep, s.there, s.ex, s.newB, fun a z => s.newF a (.inl z)⟩
theorem OwAll.append {K : PySem.W.Frag} {B H : Hp} {ws : List V} {ts : List Sl} {G : List Addr} (h2 : OwAll K B H ws ts G) : ∀ {vs : List V} {ss : List Sl} {F : List Addr}, OwAll K B H vs ss F → (∀ a, a ∈ F → a ∉ G) → ∃ F', OwAll K B H (vs ++ ws) (ss ++ ts) F' ∧ ∀ a, a ∈ F' ↔ a ∈ F ∨ a ∈ G
  | _, _, _, .nil, _ => ⟨G, h2, fun a => ⟨.inr, fun h => h.elim (fun z => by cases z) id⟩⟩
  | _, _, _, .cons (F := F1) (G := F2) h1 h3 h4, dj => by
    obtain ⟨F', q1, q2⟩ := OwAll.append h2 h3 fun a ha => dj a (List.mem_append_right _ ha)
    refine ⟨F1 ++ F', .cons h1 q1 fun a ha hb => ?_, fun a => ?_⟩
    · rcases (q2 a).mp hb with z | z
      · exact h4 a ha z
      · exact dj a (List.mem_append_left _ ha) z
    · rw [List.mem_append, List.mem_append, q2]
      exact ⟨fun h => h.elim (fun h => .inl (.inl h)) fun h => h.elim (fun h => .inl (.inr h)) .inr, fun h => h.elim (fun h => h.elim .inl fun h => .inr (.inl h)) fun h => .inr (.inr h)⟩
/-- the list in a slot is given other items -/
theorem SR.setList {K : PySem.W.Frag} {ρ : Env} {σ : St} {H B : Hp} {Fs : Nat → List Addr} {i : Nat} {l l' : List Sl} {a : Addr} {xs' : List V} {F F' Fr : List Addr} (s : SR T K ρ σ H B Fs) (e : ρ[i]? = some (some (.ol l))) (hv : σ[i]? = some (some (.ref a))) (hF : Fs i = a :: F)
    (new : OwAll K B H xs' l' F') (sub : ∀ x, x ∈ F' → x ∈ F ∨ x ∈ Fr) (nF : a ∉ F) (off : Off B Fs Fr) :
    SR T K (ρ.set i (some (.ol l'))) σ (upd H a (.lst xs')) B (setF Fs i (a :: F')) ∧ Step H B (fun x => Own Fs x ∨ x ∈ Fr) (upd H a (.lst xs')) B (Own (setF Fs i (a :: F'))) := by
  have ha : a ∈ Fs i := by rw [hF]; exact List.mem_cons_self
  have nF' : a ∉ F' := fun z => (sub a z).elim nF fun z => (off a z).1 i ha
  refine s.write e hv ha (.ol upd_same nF' (new.mono (Ex.refl B) fun b o hb h => ?_)) (fun x hx => ?_) off
  · rw [upd_ne (fun z => nF' (by rw [← z]; exact hb))]; exact h
  · rcases List.mem_cons.mp hx with z | z
    · rw [z]; exact .inl ha
    · rcases sub x z with z | z
      · exact .inl (by rw [hF]; exact List.mem_cons_of_mem _ z)
      · exact .inr z
theorem isOl_of {i : Nat} {ρ : Env} (h : isOl i ρ = true) : ∃ l, ρ[i]? = some (some (.ol l)) := by
  unfold isOl at h
  split at h
  · exact ⟨_, by assumption⟩
  · cases h
theorem lt_line {n : Nat} (h : lineOk (n + 1) = true) : n < sizeLine := lineOk_le h
/-- x.append(e) -/
theorem eo_append (i : Nat) (hn : NameOk X i y) (he : EO T W X e go_)
    (hbase : attributeBase (.Name y py) "append" X.env (eval (.Name y py) X.env) = eval (.Name y py) X.env := by rfl)
    (hfew : ((backTo pos (starEach [e] X.env)).all (fun x => !x.1) && (backToKw pos (keywordEach [] X.env)).all (fun x => x.1.isSome) && decide (([e] : List Expr).length + ([] : List Keyword).length + (if ([] : List Keyword).isEmpty then 0 else 1) < 30)) = true := by rfl)
    (hline : (apos.endLine == pos.line) = true := by rfl) (hs : starEach [e] X.env = (false, eval e X.env) :: starEach [] X.env := by rfl) (hplain : (backTo pos (starEach [] X.env)).any (·.1) = false := by rfl) :
    EO T W X (.Call (.Attribute (.Name y py) "append" apos) [e] [] pos) (mApp i go_) :=
  pe_imp (pe_bm PySem.F.plainAttrs_list PySem.F.slot_list_append PySem.F.type_list_append mt_append (hn.pe (py := py)) (pa_cons he pa_nil hs) hbase hfew hline hs hplain) fun σ H Q ⟨ρ, B, Fs, s, h⟩ => by
    unfold mApp guard at h
    split at h
    case isFalse => exact h.elim
    case isTrue hi =>
      obtain ⟨l, el⟩ := isOl_of hi
      obtain ⟨a, xs, F, q1, q2, _⟩ := s.list el
      refine ⟨.ref a, q1, .inl ⟨rfl, xs, .of q2⟩, bindO pl_O s h fun v t ρ1 H1 B1 Fs1 Fr s1 i1 o1 st1 h => ?_⟩
      cases e1 : ρ1[i]? with
      | none => rw [e1] at h; exact h.elim
      | some ot =>
        rw [e1] at h
        cases ot with
        | none => exact h.elim
        | some tr =>
          cases tr with
          | ol l1 =>
            dsimp only at h
            split at h
            case isFalse => exact h.elim
            case isTrue hl =>
              obtain ⟨a1, xs1, F1, r1, r2, r3, r4, r5⟩ := s1.list e1
              rw [q1] at r1; cases r1
              refine ⟨a, xs1, v, rfl, rfl, r2, by rw [r3.length]; exact lt_line hl, ?_⟩
              obtain ⟨F2, w1, w2⟩ := OwAll.snoc i1 r3 fun b hb z => (o1 b z).1 i (by rw [r5]; exact List.mem_cons_of_mem _ hb)
              obtain ⟨z1, z2⟩ := s1.setList e1 q1 r5 w1 (fun x hx => (w2 x).mp hx) r4 o1
              exact h .non _ B1 _ [] z1 (.d .non) .nil z2.toTmp
          | _ => exact h.elim
def slItems : Sl → Option (List Sl)
  | .ol l => some l
  | .d (.lst l) => some (l.map .d)
  | _ => none
/-- x.extend(e), e a list -/
def mExt (i : Nat) (g : M Sl) : M Sl := guard (isOl i) (M.bind g fun t ρ => match ρ[i]?, slItems t with
  | some (some (.ol l)), some m => if lineOk (l.length + m.length) then .ok (.d .non) (ρ.set i (some (.ol (l ++ m)))) else .fail
  | _, _ => .fail)
theorem slItems_ok {K : PySem.W.Frag} {B H : Hp} {v : V} {t : Sl} {m : List Sl} {G : List Addr} (ex : Ex B H) (h : Ow K B H v t G) (e : slItems t = some m) : ∃ b zs F, v = .ref b ∧ H b = some (.lst zs) ∧ OwAll K B H zs m F ∧ ∀ a, a ∈ F → a ∈ G := by
  cases h with
  | d i =>
    cases i with
    | lst h1 h2 => cases e; exact ⟨_, _, [], rfl, ex _ _ h1, owAll_d h2, fun _ z => by cases z⟩
    | _ => cases e
  | ol h1 h2 h3 => cases e; exact ⟨_, _, _, rfl, h1, h3, fun a ha => List.mem_cons_of_mem _ ha⟩
  | _ => cases e
theorem eo_extend (i : Nat) (hn : NameOk X i y) (he : EO T W X e go_)
    (hbase : attributeBase (.Name y py) "extend" X.env (eval (.Name y py) X.env) = eval (.Name y py) X.env := by rfl)
    (hfew : ((backTo pos (starEach [e] X.env)).all (fun x => !x.1) && (backToKw pos (keywordEach [] X.env)).all (fun x => x.1.isSome) && decide (([e] : List Expr).length + ([] : List Keyword).length + (if ([] : List Keyword).isEmpty then 0 else 1) < 30)) = true := by rfl)
    (hline : (apos.endLine == pos.line) = true := by rfl) (hs : starEach [e] X.env = (false, eval e X.env) :: starEach [] X.env := by rfl) (hplain : (backTo pos (starEach [] X.env)).any (·.1) = false := by rfl) :
    EO T W X (.Call (.Attribute (.Name y py) "extend" apos) [e] [] pos) (mExt i go_) :=
  pe_imp (pe_bm PySem.F.plainAttrs_list PySem.F.slot_list_extend PySem.F.type_list_extend mt_extend (hn.pe (py := py)) (pa_cons he pa_nil hs) hbase hfew hline hs hplain) fun σ H Q ⟨ρ, B, Fs, s, h⟩ => by
    unfold mExt guard at h
    split at h
    case isFalse => exact h.elim
    case isTrue hi =>
      obtain ⟨l, el⟩ := isOl_of hi
      obtain ⟨a, xs, F, q1, q2, _⟩ := s.list el
      refine ⟨.ref a, q1, .inl ⟨rfl, xs, .of q2⟩, bindO pl_O s h fun v t ρ1 H1 B1 Fs1 Fr s1 i1 o1 st1 h => ?_⟩
      cases e1 : ρ1[i]? with
      | none => rw [e1] at h; exact h.elim
      | some ot =>
        rw [e1] at h
        cases ot with
        | none => exact h.elim
        | some tr =>
          cases tr with
          | ol l1 =>
            cases em : slItems t with
            | none => rw [em] at h; exact h.elim
            | some m =>
              rw [em] at h
              dsimp only at h
              split at h
              case isFalse => exact h.elim
              case isTrue hl =>
                obtain ⟨a1, xs1, F1, r1, r2, r3, r4, r5⟩ := s1.list e1
                rw [q1] at r1; cases r1
                obtain ⟨b, zs, G, rfl, hb, ow, sub⟩ := slItems_ok s1.ex i1 em
                refine ⟨a, b, xs1, zs, rfl, rfl, r2, hb, by rw [r3.length, ow.length]; exact lineOk_le hl, ?_⟩
                obtain ⟨F2, w1, w2⟩ := OwAll.append ow r3 fun b hb z => (o1 b (sub b z)).1 i (by rw [r5]; exact List.mem_cons_of_mem _ hb)
                obtain ⟨z1, z2⟩ := s1.setList e1 q1 r5 w1 (fun x hx => ((w2 x).mp hx).elim .inl fun z => .inr (sub x z)) r4 o1
                exact h .non _ B1 _ [] z1 (.d .non) .nil z2.toTmp
          | _ => exact h.elim
theorem atPop {l : List Sl} {k : Nat} {t : Sl} {K : PySem.W.Frag} {ρ : Env} {σ : St} {H B : Hp} {Fs : Nat → List Addr} {i : Nat} {a : Addr} {xs : List V} {F : List Addr} (s : SR T K ρ σ H B Fs) (e : ρ[i]? = some (some (.ol l))) (hv : σ[i]? = some (some (.ref a))) (hF : Fs i = a :: F) (ow : OwAll K B H xs l F) (nF : a ∉ F) (hk : l[k]? = some t) :
    ∃ v G Fs', xs[k]? = some v ∧ SR T K (ρ.set i (some (.ol (l.eraseIdx k)))) σ (upd H a (.lst (xs.eraseIdx k))) B Fs' ∧ Ow K B (upd H a (.lst (xs.eraseIdx k))) v t G ∧ Off B Fs' G ∧ Step H B (Own Fs) (upd H a (.lst (xs.eraseIdx k))) B (fun x => Own Fs' x ∨ x ∈ G) := by
  obtain ⟨v, _, hv', _⟩ := ow.get hk
  obtain ⟨G, F', q1, q2, q3, q4⟩ := ow.out hv' hk
  obtain ⟨z1, z2⟩ := s.setList (Fr := []) e hv hF q2 (fun x hx => .inl ((q4 x).mpr (.inr hx))) nF .nil
  have ha : a ∉ G := fun z => nF ((q4 a).mpr (.inl z))
  refine ⟨v, G, _, hv', z1, q1.mono (Ex.refl B) (fun b o hb h => by rw [upd_ne (fun z => ha (by rw [← z]; exact hb))]; exact h), fun b hb => ⟨fun j hj => ?_, ?_⟩, ?_⟩
  · have hbi : b ∈ Fs i := by rw [hF]; exact List.mem_cons_of_mem _ ((q4 b).mpr (.inl hb))
    by_cases z : j = i
    · subst z
      rw [setF_same] at hj
      rcases List.mem_cons.mp hj with z | z
      · rw [z] at hb; exact ha hb
      · exact q3 b hb z
    · rw [setF_ne z] at hj; exact s.apart j i b z hj hbi
  · exact s.offB i b (by rw [hF]; exact List.mem_cons_of_mem _ ((q4 b).mpr (.inl hb)))
  · have z3 := Step.trans (Step.tmp (H := H) (B := B) (Fs := Fs)) z2
    exact ⟨z3.keep, z3.there, z3.ex, z3.newB, fun b hb => hb.elim (fun z => z3.newF b z) fun z => .inl ⟨i, by rw [hF]; exact List.mem_cons_of_mem _ ((q4 b).mpr (.inl z))⟩⟩
theorem eraseIdx_last {α : Type} : ∀ l : List α, l.eraseIdx (l.length - 1) = l.dropLast
  | [] => rfl
  | [_] => rfl
  | a :: b :: r => by
    have := eraseIdx_last (b :: r)
    simp only [List.length_cons, Nat.add_sub_cancel, List.eraseIdx_cons_succ, List.dropLast_cons_cons] at this ⊢
    rw [this]
/-- x.pop() -/
theorem eo_pop (i : Nat) (hn : NameOk X i y)
    (hbase : attributeBase (.Name y py) "pop" X.env (eval (.Name y py) X.env) = eval (.Name y py) X.env := by rfl) (hline : (apos.endLine == pos.line) = true := by rfl) :
    EO T W X (.Call (.Attribute (.Name y py) "pop" apos) [] [] pos) (mPop i) :=
  pe_imp (pe_bm0 PySem.F.plainAttrs_list PySem.F.slot_list_pop PySem.F.type_list_pop mt_pop (hn.pe (py := py)) hbase hline) fun σ H Q ⟨ρ, B, Fs, s, h⟩ => by
    unfold mPop at h
    split at h
    case h_2 => exact h.elim
    case h_1 l el =>
      split at h
      case h_2 => exact h.elim
      case h_1 t et =>
        obtain ⟨a, xs, F, q1, q2, q3, q4, q5⟩ := s.list el
        obtain ⟨v, G, Fs', r1, r2, r3, r4, r5⟩ := atPop s el q1 q5 q3 q4 et
        refine ⟨.ref a, q1, .inl ⟨rfl, xs, .of q2⟩, a, xs, v, rfl, rfl, q2, by rw [q3.length]; exact r1, ?_⟩
        rw [← eraseIdx_last, q3.length]
        exact h v _ B Fs' G r2 r3 r4 r5
/-- x.pop(k) -/
theorem eo_popAt (i : Nat) (hn : NameOk X i y) (he : ED T W X e ga)
    (hbase : attributeBase (.Name y py) "pop" X.env (eval (.Name y py) X.env) = eval (.Name y py) X.env := by rfl)
    (hfew : ((backTo pos (starEach [e] X.env)).all (fun x => !x.1) && (backToKw pos (keywordEach [] X.env)).all (fun x => x.1.isSome) && decide (([e] : List Expr).length + ([] : List Keyword).length + (if ([] : List Keyword).isEmpty then 0 else 1) < 30)) = true := by rfl)
    (hline : (apos.endLine == pos.line) = true := by rfl) (hs : starEach [e] X.env = (false, eval e X.env) :: starEach [] X.env := by rfl) (hplain : (backTo pos (starEach [] X.env)).any (·.1) = false := by rfl) :
    EO T W X (.Call (.Attribute (.Name y py) "pop" apos) [e] [] pos) (mPopAt i ga) :=
  pe_imp (pe_bm PySem.F.plainAttrs_list PySem.F.slot_list_pop PySem.F.type_list_pop mt_popAt (hn.pe (py := py)) (pa_cons he pa_nil hs) hbase hfew hline hs hplain) fun σ H Q ⟨ρ, B, Fs, s, h⟩ => by
    unfold mPopAt guard at h
    split at h
    case isFalse => exact h.elim
    case isTrue hi =>
      obtain ⟨l, el⟩ := isOl_of hi
      obtain ⟨a, xs, F, q1, q2, _⟩ := s.list el
      refine ⟨.ref a, q1, .inl ⟨rfl, xs, .of q2⟩, bindD pl_O s h fun v d ρ1 H1 B1 Fs1 s1 i1 st1 h => ?_⟩
      split at h
      case h_2 => exact h.elim
      case h_1 k l1 e1 =>
        split at h
        case isFalse => exact h.elim
        case isTrue hk =>
          split at h
          case h_2 => exact h.elim
          case h_1 t et =>
            cases i1
            obtain ⟨a1, xs1, F1, r1, r2, r3, r4, r5⟩ := s1.list e1
            rw [q1] at r1; cases r1
            obtain ⟨v, G, Fs', w1, w2, w3, w4, w5⟩ := atPop s1 e1 q1 r5 r3 r4 et
            refine ⟨a, xs1, k, k.toNat, v, rfl, rfl, r2, by omega, by omega, ?_, w1, h v _ B1 Fs' G w2 w3 w4 w5⟩
            rw [r3.length]
            obtain ⟨h1, h2, _⟩ := hk
            have h3 : ¬ k < 0 := by omega
            simp [seqIndex?, h1, h2, h3]
end
end DL

end
section
set_option Elab.async false
set_option linter.all false
set_option autoImplicit false
set_option maxRecDepth 100000
set_option maxHeartbeats 4000000
/-! The data layer, part 9: dicts in slots, attributes, properties. -/
namespace DL
open PySem PySem.Spec L2 NdefX
section
variable {K : PySem.W.Frag} {B H : Hp}
theorem putK_none {α : Type} (k : Key) (v : α) : ∀ {l : List (Key × α)}, k ∉ l.map Prod.fst → l.map (fun kv => if kv.1 = k then (kv.1, v) else kv) = l
  | [], _ => rfl
  | p :: r, h => by
    rw [List.map_cons, if_neg (fun z => h (by rw [← z]; exact List.mem_cons_self)), putK_none k v fun z => h (List.mem_cons_of_mem _ z)]
theorem putK_eq (k : Key) (v : V) : ∀ {kvs : List (Key × V)}, (kvs.map Prod.fst).Nodup → L2.putK kvs k v = DL.putK k v kvs
  | [], _ => rfl
  | p :: r, nd => by
    obtain ⟨n1, n2⟩ := List.nodup_cons.mp (show (p.1 :: r.map Prod.fst).Nodup from nd)
    unfold L2.putK DL.putK
    by_cases e : p.1 = k
    · rw [if_pos e, List.any_cons, decide_eq_true e, Bool.true_or, if_pos rfl, List.map_cons, if_pos e, putK_none k v (by rw [← e]; exact n1), e]
    · have ih := putK_eq k v n2
      unfold L2.putK at ih
      rw [if_neg e, List.any_cons, decide_eq_false e, Bool.false_or, ← ih]
      split
      · rw [List.map_cons, if_neg e]
      · rfl
theorem own_look {k : Key} {t : Sl} : ∀ {kvs : List (Key × V)} {l : List (Key × Sl)} {F : List Addr}, kvs.map Prod.fst = l.map Prod.fst → OwAll K B H (kvs.map Prod.snd) (l.map Prod.snd) F → lookK k l = some t → ∃ v G, valV kvs k = some v ∧ Ow K B H v t G ∧ ∀ a, a ∈ G → a ∈ F
  | [], [], _, _, _, h => by cases h
  | [], _ :: _, _, e, _, _ => by cases e
  | _ :: _, [], _, e, _, _ => by cases e
  | (k1, v) :: r, (k2, s) :: q, F, e, o, h => by
    have e' : k1 :: r.map Prod.fst = k2 :: q.map Prod.fst := e
    injection e' with e1 e2
    subst e1
    have o' : OwAll K B H (v :: r.map Prod.snd) (s :: q.map Prod.snd) F := o
    cases o' with
    | @cons _ _ _ _ F1 F2 h1 h2 h3 =>
      unfold lookK at h
      split at h
      · rename_i ek
        cases h
        exact ⟨v, F1, valV_pos ek, h1, fun a z => List.mem_append_left _ z⟩
      · rename_i ek
        obtain ⟨w, G, z1, z2, z3⟩ := own_look e2 h2 h
        exact ⟨w, G, by rw [valV_neg ek]; exact z1, z2, fun a z => List.mem_append_right _ (z3 a z)⟩
theorem own_put {k : Key} {v : V} {t : Sl} {G : List Addr} (h5 : Ow K B H v t G) : ∀ {kvs : List (Key × V)} {l : List (Key × Sl)} {F : List Addr}, kvs.map Prod.fst = l.map Prod.fst → OwAll K B H (kvs.map Prod.snd) (l.map Prod.snd) F → (∀ a, a ∈ F → a ∉ G) →
    ∃ F', (DL.putK k v kvs).map Prod.fst = (DL.putK k t l).map Prod.fst ∧ OwAll K B H ((DL.putK k v kvs).map Prod.snd) ((DL.putK k t l).map Prod.snd) F' ∧ ∀ a, a ∈ F' → a ∈ F ∨ a ∈ G
  | [], [], _, _, _, _ => ⟨G ++ [], rfl, .cons h5 .nil (fun _ _ z => by cases z), fun a h => .inr (by simpa using h)⟩
  | [], _ :: _, _, e, _, _ => by cases e
  | _ :: _, [], _, e, _, _ => by cases e
  | (k1, w) :: r, (k2, s) :: q, F, e, o, dj => by
    have e' : k1 :: r.map Prod.fst = k2 :: q.map Prod.fst := e
    injection e' with e1 e2
    subst e1
    have o' : OwAll K B H (w :: r.map Prod.snd) (s :: q.map Prod.snd) F := o
    cases o' with
    | @cons _ _ _ _ F1 F2 h1 h2 h3 =>
      unfold DL.putK
      by_cases ek : k1 = k
      · rw [if_pos ek, if_pos ek]
        exact ⟨G ++ F2, by rw [List.map_cons, List.map_cons, e2], .cons h5 h2 fun a z1 z2 => dj a (List.mem_append_right _ z2) z1, fun a z => (List.mem_append.mp z).elim .inr fun z => .inl (List.mem_append_right _ z)⟩
      · rw [if_neg ek, if_neg ek]
        obtain ⟨F', z1, z2, z3⟩ := own_put h5 e2 h2 fun a z => dj a (List.mem_append_right _ z)
        refine ⟨F1 ++ F', by rw [List.map_cons, List.map_cons, z1], .cons h1 z2 fun a y1 y2 => ?_, fun a z => ?_⟩
        · rcases z3 a y2 with z | z
          · exact h3 a y1 z
          · exact dj a (List.mem_append_left _ y1) z
        · rcases List.mem_append.mp z with z | z
          · exact .inl (List.mem_append_left _ z)
          · exact (z3 a z).elim (fun z => .inl (List.mem_append_right _ z)) .inr
theorem own_lookup {f : Str} {t : Sl} : ∀ {fs : List (Str × V)} {l : List (Str × Sl)} {F : List Addr}, fs.map Prod.fst = l.map Prod.fst → OwAll K B H (fs.map Prod.snd) (l.map Prod.snd) F → l.lookup f = some t → ∃ v G, fs.lookup f = some v ∧ Ow K B H v t G ∧ ∀ a, a ∈ G → a ∈ F
  | [], [], _, _, _, h => by cases h
  | [], _ :: _, _, e, _, _ => by cases e
  | _ :: _, [], _, e, _, _ => by cases e
  | (k1, v) :: r, (k2, s) :: q, F, e, o, h => by
    have e' : k1 :: r.map Prod.fst = k2 :: q.map Prod.fst := e
    injection e' with e1 e2
    subst e1
    have o' : OwAll K B H (v :: r.map Prod.snd) (s :: q.map Prod.snd) F := o
    cases o' with
    | @cons _ _ _ _ F1 F2 h1 h2 h3 =>
      rw [List.lookup_cons] at h
      cases eb : f == k1 with
      | true =>
        rw [eb] at h; cases h
        exact ⟨v, F1, by rw [List.lookup_cons, eb], h1, fun a z => List.mem_append_left _ z⟩
      | false =>
        rw [eb] at h
        obtain ⟨w, G, z1, z2, z3⟩ := own_lookup e2 h2 h
        exact ⟨w, G, by rw [List.lookup_cons, eb]; exact z1, z2, fun a z => List.mem_append_right _ (z3 a z)⟩
theorem own_putF {f : Str} {v : V} {t : Sl} {G : List Addr} (h5 : Ow K B H v t G) : ∀ {fs : List (Str × V)} {l : List (Str × Sl)} {F : List Addr}, fs.map Prod.fst = l.map Prod.fst → OwAll K B H (fs.map Prod.snd) (l.map Prod.snd) F → (∀ a, a ∈ F → a ∉ G) →
    ∃ F', (L2.putF f v fs).map Prod.fst = (DL.putS f t l).map Prod.fst ∧ OwAll K B H ((L2.putF f v fs).map Prod.snd) ((DL.putS f t l).map Prod.snd) F' ∧ ∀ a, a ∈ F' → a ∈ F ∨ a ∈ G
  | [], [], _, _, _, _ => ⟨G ++ [], rfl, .cons h5 .nil (fun _ _ z => by cases z), fun a h => .inr (by simpa using h)⟩
  | [], _ :: _, _, e, _, _ => by cases e
  | _ :: _, [], _, e, _, _ => by cases e
  | (k1, w) :: r, (k2, s) :: q, F, e, o, dj => by
    have e' : k1 :: r.map Prod.fst = k2 :: q.map Prod.fst := e
    injection e' with e1 e2
    subst e1
    have o' : OwAll K B H (w :: r.map Prod.snd) (s :: q.map Prod.snd) F := o
    cases o' with
    | @cons _ _ _ _ F1 F2 h1 h2 h3 =>
      by_cases ek : k1 = f
      · have q1 : L2.putF f v ((k1, w) :: r) = (k1, v) :: r := if_pos ek
        have q2 : DL.putS f t ((k1, s) :: q) = (f, t) :: q := if_pos ek
        rw [q1, q2]
        exact ⟨G ++ F2, by rw [List.map_cons, List.map_cons, e2, ek], .cons h5 h2 fun a z1 z2 => dj a (List.mem_append_right _ z2) z1, fun a z => (List.mem_append.mp z).elim .inr fun z => .inl (List.mem_append_right _ z)⟩
      · have q1 : L2.putF f v ((k1, w) :: r) = (k1, w) :: L2.putF f v r := if_neg ek
        have q2 : DL.putS f t ((k1, s) :: q) = (k1, s) :: DL.putS f t q := if_neg ek
        rw [q1, q2]
        obtain ⟨F', z1, z2, z3⟩ := own_putF h5 e2 h2 fun a z => dj a (List.mem_append_right _ z)
        refine ⟨F1 ++ F', by rw [List.map_cons, List.map_cons, z1], .cons h1 z2 fun a y1 y2 => ?_, fun a z => ?_⟩
        · rcases z3 a y2 with z | z
          · exact h3 a y1 z
          · exact dj a (List.mem_append_left _ y1) z
        · rcases List.mem_append.mp z with z | z
          · exact .inl (List.mem_append_left _ z)
          · exact (z3 a z).elim (fun z => .inl (List.mem_append_right _ z)) .inr
theorem is_lookup {f : Str} {t : D} : ∀ {fs : List (Str × V)} {l : List (Str × D)}, fs.map Prod.fst = l.map Prod.fst → IsAll K B (fs.map Prod.snd) (l.map Prod.snd) → l.lookup f = some t → ∃ v, fs.lookup f = some v ∧ Is K B v t
  | [], [], _, _, h => by cases h
  | [], _ :: _, e, _, _ => by cases e
  | _ :: _, [], e, _, _ => by cases e
  | (k1, v) :: r, (k2, s) :: q, e, o, h => by
    have e' : k1 :: r.map Prod.fst = k2 :: q.map Prod.fst := e
    injection e' with e1 e2
    subst e1
    have o' : IsAll K B (v :: r.map Prod.snd) (s :: q.map Prod.snd) := o
    cases o' with
    | cons h1 h2 =>
      rw [List.lookup_cons] at h
      cases eb : f == k1 with
      | true =>
        rw [eb] at h; cases h
        exact ⟨v, by rw [List.lookup_cons, eb], h1⟩
      | false =>
        rw [eb] at h
        obtain ⟨w, z1, z2⟩ := is_lookup e2 h2 h
        exact ⟨w, by rw [List.lookup_cons, eb]; exact z1, z2⟩
theorem is_lookK {k : Key} {t : D} : ∀ {kvs : List (Key × V)} {l : List (Key × D)}, kvs.map Prod.fst = l.map Prod.fst → IsAll K B (kvs.map Prod.snd) (l.map Prod.snd) → lookK k l = some t → ∃ v, valV kvs k = some v ∧ Is K B v t
  | [], [], _, _, h => by cases h
  | [], _ :: _, e, _, _ => by cases e
  | _ :: _, [], e, _, _ => by cases e
  | (k1, v) :: r, (k2, s) :: q, e, o, h => by
    have e' : k1 :: r.map Prod.fst = k2 :: q.map Prod.fst := e
    injection e' with e1 e2
    subst e1
    have o' : IsAll K B (v :: r.map Prod.snd) (s :: q.map Prod.snd) := o
    cases o' with
    | cons h1 h2 =>
      unfold lookK at h
      split at h
      · rename_i ek
        cases h
        exact ⟨v, valV_pos ek, h1⟩
      · rename_i ek
        obtain ⟨w, z1, z2⟩ := is_lookK e2 h2 h
        exact ⟨w, by rw [valV_neg ek]; exact z1, z2⟩
theorem keyD_ok {v : V} {d : D} {k : Key} (h : Is K B v d) (e : keyD d = some k) : v = kV k := by
  cases h <;> cases e <;> rfl
end
section
variable {T : List NTab} {IO : List Nat} {W : St → XK} {X : Cx} {a b c e o k : Expr} {es rest : List Expr} {pos p apos py : Pos} {ga gb : M D} {go_ : M Sl} {x m fl y : Str}
theorem isOd_of {i : Nat} {ρ : Env} (h : isOd i ρ = true) : ∃ l, ρ[i]? = some (some (.od l)) := by
  unfold isOd at h
  split at h
  · exact ⟨_, by assumption⟩
  · cases h
theorem Ow.isD {K : PySem.W.Frag} {B H : Hp} {v : V} {d : D} {G : List Addr} (h : Ow K B H v (.d d) G) : Is K B v d ∧ G = [] := by
  cases h with
  | d z => exact ⟨z, rfl⟩
theorem ed_dgetV (i : Nat) (hu : X.A.units + 1 < cLine) (hn : NameOk X i y) (hk : ED T W X k ga) (hs : NoSl k) : ED T W X (.Subscript (.Name y py) k pos) (mDGetV i ga) :=
  pe_imp (pe_dget hu (hn.pe (py := py)) hk hs) fun σ H Q ⟨ρ, B, Fs, s, h⟩ => by
    unfold mDGetV guard at h
    split at h
    case isFalse => exact h.elim
    case isTrue hi =>
      obtain ⟨l0, el⟩ := isOd_of hi
      obtain ⟨a, _, _, q0, _⟩ := s.dict el
      refine ⟨.ref a, q0, bindD pl_D s h fun v d ρ1 H1 B1 Fs1 s1 i1 st1 h => ?_⟩
      split at h
      case h_2 => exact h.elim
      case h_1 k0 l ek e1 =>
        split at h
        case h_2 => exact h.elim
        case h_1 x0 ex =>
          obtain ⟨a1, kvs, F, q1, q2, q3, q4, q5, q6⟩ := s1.dict e1
          rw [q0] at q1; cases q1
          obtain ⟨w, G, z1, z2, z3⟩ := own_look q3 q4 ex
          have ev := keyD_ok i1 ek
          subst ev
          exact ⟨a, w, rfl, by rw [← z1]; exact DGet.k q2, h w H1 B1 Fs1 s1 z2.isD.1 .refl⟩
def dGet : D → D → Option D
  | .dic l, d => (keyD d).bind fun k => lookK k l
  | _, _ => none
theorem ed_dget (hu : X.A.units + 1 < cLine) (ho : ED T W X o ga) (hk : ED T W X k gb) (hs : NoSl k) : ED T W X (.Subscript o k pos) (mOp2 dGet ga gb) :=
  pe_imp (pe_dget hu ho hk hs) fun σ H Q ⟨ρ, B, Fs, s, h⟩ => bindD pl_D s h fun v d ρ1 H1 B1 Fs1 s1 i1 st1 h => bindD pl_D s1 h fun w d2 ρ2 H2 B2 Fs2 s2 i2 st2 h => by
    cases i1 with
    | @dic a0 kvs l h1 h2 h3 =>
      obtain ⟨z, e, kk⟩ := PCt.of s2 h
      have e' : ((keyD d2).bind fun k => lookK k l) = some z := e
      cases ek : keyD d2 with
      | none => rw [ek] at e'; cases e'
      | some k0 =>
        rw [ek] at e'
        have ev := keyD_ok i2 ek
        subst ev
        obtain ⟨w, z1, z2⟩ := is_lookK h2 h3 e'
        exact ⟨_, w, rfl, by rw [← z1]; exact DGet.k (s2.ex _ _ (st2.ex _ _ h1)), kk.at s2.ex s2.noT (z2.mono st2.ex)⟩
    | _ => exact h.elim
/-- what a slot owns at a dict is rewritten -/
theorem es_dput (i : Nat) (k0 : Key) {pos' : Pos} (hu : X.A.units + 1 < cLine) (hn : NameOk X i y) (hk : PE X k (tC (kV k0))) (he : EO T W X e go_) (hs : swapsWith e (some (.Subscript (.Name y py) k pos')) pos.line X.env = pure false := by rfl) :
    ES T IO W X (.Assign [.Subscript (.Name y py) k pos'] e pos) (sDPut i k0 go_) :=
  ps_imp (ps_dput hu (hn.pe (py := py)) hk he hs) fun D_ σ H ⟨ρ, B, Fs, s, h⟩ => sbO s h fun v t ρ1 H1 B1 Fs1 Fr s1 i1 o1 st1 h => by
    split at h
    case h_2 => exact h.elim
    case h_1 l el =>
      split at h
      case isFalse => exact h.elim
      case isTrue hl =>
        obtain ⟨hl1, hl2⟩ := Bool.and_eq_true_iff.mp hl
        obtain ⟨a, kvs, F, q1, q2, q3, q4, q5, q6⟩ := s1.dict el
        refine ⟨.ref a, q1, a, upd H1 a (.dK (L2.putK kvs k0 v)), rfl, DPut.k q2 ?_, ?_⟩
        · have e : kvs.length = l.length := by rw [← List.length_map (f := Prod.fst), q3, List.length_map]
          rw [e]; exact lt_line hl1
        · have ha : a ∈ Fs1 i := by rw [q6]; exact List.mem_cons_self
          rw [putK_eq k0 v (by rw [q3]; exact noDup_ok hl2)]
          obtain ⟨F', z1, z2, z3⟩ := own_put (k := k0) i1 q3 q4 fun b hb z => (o1 b z).1 i (by rw [q6]; exact List.mem_cons_of_mem _ hb)
          have nF' : a ∉ F' := fun z => (z3 a z).elim q5 fun z => (o1 a z).1 i ha
          obtain ⟨w1, w2⟩ := s1.write (t' := .od (putK k0 t l)) (G := a :: F') (Fr := Fr) el q1 ha (.od upd_same nF' z1 (z2.mono (Ex.refl _) fun b o hb h => by
            rw [upd_ne (fun z => nF' (by rw [← z]; exact hb))]; exact h)) (fun x hx => by
              rcases List.mem_cons.mp hx with z | z
              · rw [z]; exact .inl ha
              · rcases z3 x z with z | z
                · exact .inl (by rw [q6]; exact List.mem_cons_of_mem _ z)
                · exact .inr z) o1
          exact h _ _ _ _ w1 w2 .refl
/-! ### attributes -/
def FldOk (K : PySem.W.Frag) (cs : List Str) (f : Str) : Prop := ∀ c ∈ cs, Cls K (He.ga K c) ∧ NoAttr K (He.ga K c) f
theorem FldOk.at {K : PySem.W.Frag} {cs : List Str} {f c : Str} (h : FldOk K cs f) (e : cs.contains c = true) : Cls K (He.ga K c) ∧ NoAttr K (He.ga K c) f := h c (by simpa using e)
theorem ed_attr {cs : List Str} (ok : FldOk X.K cs fl) (ho : ED T W X o ga) (hb : attributeBase o fl X.env (eval o X.env) = eval o X.env := by rfl) : ED T W X (.Attribute o fl pos) (mOp1 (attrD cs fl) ga) :=
  pe_imp (pe_fld ho hb) fun σ H Q ⟨ρ, B, Fs, s, h⟩ => bindD pl_D s h fun v d ρ1 H1 B1 Fs1 s1 i1 st1 h => by
    unfold M.of attrD at h
    cases i1 with
    | ins h1 h2 h3 h4 =>
      dsimp only at h
      split at h
      case h_2 => exact h.elim
      case h_1 z ez =>
        split at ez
        case isFalse => cases ez
        case isTrue ec =>
          obtain ⟨w, z1, z2⟩ := is_lookup h3 h4 ez
          exact ⟨_, _, _, _, w, rfl, s1.ex _ _ h1, (ok.at ec).1, (ok.at ec).2, z1, h w H1 B1 Fs1 s1 z2 .refl⟩
    | _ => exact h.elim
theorem ed_attrV {cs : List Str} (i : Nat) (ok : FldOk X.K cs fl) (hn : NameOk X i y) (hb : attributeBase (.Name y py) fl X.env (eval (.Name y py) X.env) = eval (.Name y py) X.env := by rfl) : ED T W X (.Attribute (.Name y py) fl pos) (mAttrV cs fl i) :=
  pe_imp (pe_fld (hn.pe (py := py)) hb) fun σ H Q ⟨ρ, B, Fs, s, h⟩ => by
    unfold mAttrV at h
    split at h
    · rename_i c l el
      split at h
      case isFalse => exact h.elim
      case isTrue ec =>
        split at h
        case h_2 => exact h.elim
        case h_1 z ez =>
          obtain ⟨a, dx, fs, F, q1, q2, q3, q4, q5, q6, q7, q8⟩ := s.inst el
          obtain ⟨w, G, z1, z2, z3⟩ := own_lookup q4 q5 ez
          exact ⟨.ref a, q1, a, _, dx, fs, w, rfl, q2, (ok.at ec).1, (ok.at ec).2, z1, h w H B Fs s z2.isD.1 .refl⟩
    · rename_i c l el
      split at h
      case isFalse => exact h.elim
      case isTrue ec =>
        split at h
        case h_2 => exact h.elim
        case h_1 z ez =>
          obtain ⟨v, h1, h2⟩ := s.slot i _ el
          cases h2.isD.1 with
          | ins g1 g2 g3 g4 =>
            obtain ⟨w, z1, z2⟩ := is_lookup g3 g4 ez
            exact ⟨_, h1, _, _, _, _, w, rfl, s.ex _ _ g1, (ok.at ec).1, (ok.at ec).2, z1, h w H B Fs s z2 .refl⟩
    · exact h.elim
/-- the instance in a slot is given another attribute -/
theorem SR.setAttr {K : PySem.W.Frag} {ρ : Env} {σ : St} {H B : Hp} {Fs : Nat → List Addr} {i : Nat} {c : Str} {l : List (Str × Sl)} {a dx : Addr} {fs : List (Str × V)} {F Fr : List Addr} {v : V} {t : Sl} (f : Str) (s : SR T K ρ σ H B Fs) (e : ρ[i]? = some (some (.oi c l))) (hv : σ[i]? = some (some (.ref a)))
    (q2 : H a = some (.ins (He.ga K c) dx fs)) (q3 : H dx = some (.own a)) (q4 : fs.map Prod.fst = l.map Prod.fst) (q5 : OwAll K B H (fs.map Prod.snd) (l.map Prod.snd) F) (q6 : a ∉ F) (q7 : dx ∉ F) (q8 : Fs i = a :: dx :: F) (i1 : Ow K B H v t Fr) (o1 : Off B Fs Fr) :
    ∃ Fs', SR T K (ρ.set i (some (.oi c (putS f t l)))) σ (upd H a (.ins (He.ga K c) dx (putF f v fs))) B Fs' ∧ Step H B (fun x => Own Fs x ∨ x ∈ Fr) (upd H a (.ins (He.ga K c) dx (putF f v fs))) B (Own Fs') := by
  have ha : a ∈ Fs i := by rw [q8]; exact List.mem_cons_self
  have hd : dx ∈ Fs i := by rw [q8]; exact List.mem_cons_of_mem _ List.mem_cons_self
  have ne : dx ≠ a := fun z => by rw [z, q2] at q3; cases q3
  obtain ⟨F', z1, z2, z3⟩ := own_putF (f := f) i1 q4 q5 fun b hb z => (o1 b z).1 i (by rw [q8]; exact List.mem_cons_of_mem _ (List.mem_cons_of_mem _ hb))
  have nF' : a ∉ F' := fun z => (z3 a z).elim q6 fun z => (o1 a z).1 i ha
  have nD' : dx ∉ F' := fun z => (z3 dx z).elim q7 fun z => (o1 dx z).1 i hd
  obtain ⟨w1, w2⟩ := s.write (t' := .oi c (putS f t l)) (G := a :: dx :: F') (Fr := Fr) e hv ha (.oi upd_same (by rw [upd_ne ne]; exact q3) nF' nD' z1 (z2.mono (Ex.refl _) fun b o hb h => by
    rw [upd_ne (fun z => nF' (by rw [← z]; exact hb))]; exact h)) (fun x hx => by
      rcases List.mem_cons.mp hx with z | z
      · rw [z]; exact .inl ha
      · rcases List.mem_cons.mp z with z | z
        · rw [z]; exact .inl hd
        · rcases z3 x z with z | z
          · exact .inl (by rw [q8]; exact List.mem_cons_of_mem _ (List.mem_cons_of_mem _ z))
          · exact .inr z) o1
  exact ⟨_, w1, w2⟩
theorem es_attr {cs : List Str} {pos' : Pos} (i : Nat) (ok : FldOk X.K cs fl) (hn : NameOk X i y) (he : EO T W X e go_) (hs : swapsWith e (some (.Attribute (.Name y py) fl pos')) pos.line X.env = pure false := by rfl) :
    ES T IO W X (.Assign [.Attribute (.Name y py) fl pos'] e pos) (sAttr cs fl i go_) :=
  ps_imp (ps_fld (hn.pe (py := py)) he hs) fun D_ σ H ⟨ρ, B, Fs, s, h⟩ => sbO s h fun v t ρ1 H1 B1 Fs1 Fr s1 i1 o1 st1 h => by
    split at h
    case h_2 => exact h.elim
    case h_1 c l el =>
      split at h
      case isFalse => exact h.elim
      case isTrue hc =>
        obtain ⟨a, dx, fs, F, q1, q2, q3, q4, q5, q6, q7, q8⟩ := s1.inst el
        obtain ⟨Fs', w1, w2⟩ := s1.setAttr fl el q1 q2 q3 q4 q5 q6 q7 q8 i1 o1
        refine ⟨.ref a, q1, a, _, dx, fs, rfl, q2, (ok.at hc.1).1, (ok.at hc.1).2, ?_, h _ _ _ _ w1 w2 .refl⟩
        have e : fs.length = l.length := by rw [← List.length_map (f := Prod.fst), q4, List.length_map]
        rw [e]; exact hc.2
theorem es_attrAdd {cs : List Str} {tpos : Pos} (i : Nat) (ok : FldOk X.K cs fl) (hn : NameOk X i y) (he : ED T W X e ga) : ES T IO W X (.AugAssign (.Attribute (.Name y py) fl tpos) .Add e pos) (sAttrAdd cs fl i ga) :=
  ps_imp (ps_fldaug (hn.pe (py := py)) he in_add) fun D_ σ H ⟨ρ, B, Fs, s, h⟩ => by
    unfold sAttrAdd at h
    split at h
    case h_2 => exact h.elim
    case h_1 c l el =>
      split at h
      case h_2 => exact h.elim
      case h_1 n0 en =>
        split at h
        case isFalse => exact h.elim
        case isTrue hc =>
          obtain ⟨a, dx, fs, F, q1, q2, q3, q4, q5, q6, q7, q8⟩ := s.inst el
          obtain ⟨w, G, z1, z2, z3⟩ := own_lookup q4 q5 en
          refine ⟨.ref a, q1, a, _, dx, fs, w, rfl, q2, (ok.at hc).1, (ok.at hc).2, z1, sbD s h fun v d ρ1 H1 B1 Fs1 s1 i1 st1 hh => ?_⟩
          split at hh
          case h_2 => exact hh.elim
          case h_1 m c2 l2 e2 =>
            split at hh
            case isFalse => exact hh.elim
            case isTrue hc2 =>
              obtain ⟨rfl, hlen⟩ := hc2
              obtain ⟨a1, dx1, fs1, F1, r1, r2, r3, r4, r5, r6, r7, r8⟩ := s1.inst e2
              rw [q1] at r1; cases r1
              obtain ⟨Fs', w1, w2⟩ := s1.setAttr (v := .int (n0 + m)) (t := .d (.int (n0 + m))) (Fr := []) fl e2 q1 r2 r3 r4 r5 r6 r7 r8 (.d (.int _)) .nil
              have ew : w = .int n0 := by cases z2.isD.1; rfl
              have ev : v = .int m := by cases i1; rfl
              refine ⟨n0, m, ew, ev, dx1, fs1, r2, ?_, hh _ _ _ _ w1 (Step.tmp.trans w2) .refl⟩
              have e : fs1.length = l2.length := by rw [← List.length_map (f := Prod.fst), r4, List.length_map]
              rw [e]; exact hlen
/-! ### properties -/
section
variable {k1 : Nat} {pa ga_ : Addr} {fd : FuncData} {ps : List Str} {g : M Sl}
theorem eo_propio (i : Nat) (cl : Cls X.K (He.ga X.K x)) (hp : PropOf X.K (He.ga X.K x) m pa ga_) (G : GF T X k1 ga_ fd ps 1 g) (hr : Room (k1 + 1) X.A) (b : Binds X.K fd ps []) (hn : NameOk X i y)
    (hab : attributeBase (.Name y py) m X.env (eval (.Name y py) X.env) = eval (.Name y py) X.env := by rfl) :
    EO T W X (.Attribute (.Name y py) m pos) (mMethIO x m 1 g [] i mNil) :=
  pe_imp (pe_prop (hn.pe (py := py)) cl hp G hr b .nil pass0 hab) fun σ H Q ⟨ρ, B, Fs, s, h⟩ => by
    obtain ⟨v, hv, a, dx, fs, e1, e2, e3, h2⟩ := methio_post (t := fun σ H Q => Q [] H) s (by decide) h fun H' Q' ⟨ρ, B, Fs, s, q⟩ =>
      q [] H' B Fs [] s .nil (fun _ z => by cases z) .tmp fun p hp => by cases hp
    subst e1
    exact ⟨.ref a, hv, a, dx, fs, rfl, e2, h2⟩
end
end
end DL

end
section
set_option Elab.async false
set_option linter.all false
set_option autoImplicit false
set_option maxRecDepth 100000
set_option maxHeartbeats 4000000
/-! The data layer, part 10: comprehensions of one clause. -/
namespace DL
open PySem PySem.Spec L2 NdefX
def wipeE (ρ : Env) : List Nat → Env
  | [] => ρ
  | v :: vs => (wipeE ρ vs).set v none
/-- the slots of vs as they were -/
def backE (ρ0 ρ : Env) : List Nat → Env
  | [] => ρ
  | v :: vs => (backE ρ0 ρ vs).set v (ρ0[v]?.getD none)
/-- nothing owned in the slots of vs -/
def plainAt (ρ : Env) : List Nat → Bool
  | [] => true
  | v :: vs => (match ρ[v]? with
    | some (some (.d _)) => true
    | some none => true
    | none => true
    | _ => false) && plainAt ρ vs
def lcLoop (vs : List Nat) (t : TgM) (tt : M Bool) (te : M Sl) : List D → List Sl → M (List Sl)
  | [], acc => M.pure acc
  | d :: r, acc => fun ρ => match t d ρ with
    | none => .fail
    | some ρ1 => match tt ρ1 with
      | .ok b ρ2 => if b = true then (match te ρ2 with
          | .ok y ρ3 => if lineOk (acc.length + 1) then lcLoop vs t tt te r (acc ++ [y]) (wipeE ρ3 vs) else .fail
          | _ => .fail) else lcLoop vs t tt te r acc (wipeE ρ2 vs)
      | _ => .fail
def mLc (vs : List Nat) (gi : M (List D)) (t : TgM) (tt : M Bool) (te : M Sl) : M Sl := M.bind gi fun l ρ => if plainAt ρ vs = true then (match lcLoop vs t tt te l [] (wipeE ρ vs) with
  | .ok acc ρ' => .ok (.ol acc) (backE ρ ρ' vs)
  | _ => .fail) else .fail
section
variable {T : List NTab} {K : PySem.W.Frag} {ρ ρ0 : Env} {σ : St} {H B H1 B1 : Hp} {Fs : Nat → List Addr}
theorem SR.wipe : ∀ (vs : List Nat) {Fs : Nat → List Addr}, SR T K ρ σ H B Fs → ∃ Fs', SR T K (wipeE ρ vs) (L2.wipe σ vs) H B Fs' ∧ ∀ i a, a ∈ Fs' i → a ∈ Fs i
  | [], Fs, s => ⟨Fs, s, fun _ _ h => h⟩
  | v :: vs, Fs, s => by
    obtain ⟨Fs', s', sub⟩ := SR.wipe vs s
    unfold wipeE L2.wipe
    by_cases lt : v < (wipeE ρ vs).length
    · refine ⟨setF Fs' v [], s'.put lt (fun j hj => List.getElem?_set_ne (Ne.symm hj)) (fun t q => by cases q) (fun _ => rfl) (Ex.refl B) s'.ex s'.tabs s'.noT (fun _ _ _ _ _ q => q) (fun a z => by cases z) (fun j a hj ha => s'.offB j a ha), fun i a h => ?_⟩
      by_cases z : i = v
      · subst z; rw [setF_same] at h; cases h
      · rw [setF_ne z] at h; exact sub i a h
    · rw [List.set_eq_of_length_le (Nat.le_of_not_lt lt)]
      refine ⟨Fs', ⟨s'.ex, s'.tabs, s'.noT, fun i t e => ?_, s'.off, s'.apart, s'.offB⟩, sub⟩
      obtain ⟨w, q1, q2⟩ := s'.slot i t e
      have : v ≠ i := fun z => lt (by rw [z]; exact (List.getElem?_eq_some_iff.mp e).1)
      exact ⟨w, by rw [List.getElem?_set_ne this]; exact q1, q2⟩
theorem backE_out {i : Nat} : ∀ {vs : List Nat}, i ∉ vs → (backE ρ0 ρ vs)[i]? = ρ[i]?
  | [], _ => rfl
  | v :: vs, h => by
    have h1 : v ≠ i := fun e => h (by rw [e]; exact List.mem_cons_self)
    unfold backE
    rw [List.getElem?_set_ne h1]
    exact backE_out fun m => h (List.mem_cons_of_mem _ m)
theorem backE_length : ∀ {vs : List Nat}, (backE ρ0 ρ vs).length = ρ.length
  | [] => rfl
  | v :: vs => by unfold backE; rw [List.length_set, backE_length]
theorem backE_in {i : Nat} {t : Sl} : ∀ {vs : List Nat}, i ∈ vs → (backE ρ0 ρ vs)[i]? = some (some t) → ρ0[i]? = some (some t)
  | [], h, _ => by cases h
  | v :: vs, h, e => by
    unfold backE at e
    by_cases z : v = i
    · subst z
      by_cases lt : v < (backE ρ0 ρ vs).length
      · rw [List.getElem?_set_self lt] at e
        cases q : ρ0[v]? with
        | none => rw [q] at e; cases e
        | some o => rw [q] at e; cases o with
          | none => cases e
          | some u => cases e; rfl
      · rw [List.set_eq_of_length_le (Nat.le_of_not_lt lt), List.getElem?_eq_none (Nat.le_of_not_lt lt)] at e; cases e
    · rw [List.getElem?_set_ne z] at e
      refine backE_in ?_ e
      rcases List.mem_cons.mp h with q | q
      · exact absurd q.symm z
      · exact q
theorem plainAt_at {i : Nat} {t : Sl} : ∀ {vs : List Nat}, plainAt ρ vs = true → i ∈ vs → ρ[i]? = some (some t) → ∃ d, t = .d d
  | [], _, h, _ => by cases h
  | v :: vs, p, h, e => by
    unfold plainAt at p
    obtain ⟨p1, p2⟩ := Bool.and_eq_true_iff.mp p
    rcases List.mem_cons.mp h with q | q
    · subst q
      rw [e] at p1
      cases t with
      | d x => exact ⟨x, rfl⟩
      | _ => cases p1
    · exact plainAt_at p2 q e
theorem SR.back {vs : List Nat} {Fs0 : Nat → List Addr} (s0 : SR T K ρ0 σ H B Fs0) (p : plainAt ρ0 vs = true) (ex : Ex B B1) (s : SR T K ρ (L2.wipe σ vs) H1 B1 Fs) : SR T K (backE ρ0 ρ vs) σ H1 B1 Fs := by
  have none_in : ∀ i t, i ∈ vs → ρ[i]? ≠ some (some t) := fun i t hi e => by
    obtain ⟨v, q, _⟩ := s.slot i t e
    exact (wipe_some q).2 hi
  refine ⟨s.ex, s.tabs, s.noT, fun i t e => ?_, fun i h => ?_, s.apart, s.offB⟩
  · by_cases hi : i ∈ vs
    · have e0 := backE_in hi e
      obtain ⟨d, rfl⟩ := plainAt_at p hi e0
      obtain ⟨v, q1, q2⟩ := s0.slot i _ e0
      have eF : Fs i = [] := s.off i fun w z => none_in i w hi z
      rw [eF]
      exact ⟨v, q1, .d (q2.isD.1.mono ex)⟩
    · rw [backE_out hi] at e
      obtain ⟨v, q1, q2⟩ := s.slot i t e
      exact ⟨v, (wipe_some q1).1, q2⟩
  · by_cases hi : i ∈ vs
    · exact s.off i fun w z => none_in i w hi z
    · exact s.off i fun w z => h w (by rw [backE_out hi]; exact z)
theorem wipe_none {σ : St} {i : Nat} : ∀ {vs : List Nat}, i ∈ vs → (L2.wipe σ vs)[i]? = if i < σ.length then some none else none
  | [], h => by cases h
  | v :: vs, h => by
    unfold L2.wipe
    by_cases z : v = i
    · subst z
      by_cases lt : v < σ.length
      · rw [if_pos lt, List.getElem?_set_self (by rw [wipe_length]; exact lt)]
      · rw [if_neg lt]
        exact List.getElem?_eq_none (by rw [List.length_set, wipe_length]; omega)
    · rw [List.getElem?_set_ne z]
      refine wipe_none ?_
      rcases List.mem_cons.mp h with q | q
      · exact absurd q.symm z
      · exact q
/-- what a target of the block leaves as it was -/
theorem wipe_same {σ σ2 : St} {vs : List Nat} (n : Nat) (h : IOk ((List.range n).filter fun i => !vs.contains i) (L2.wipe σ vs) σ2) (len : σ.length = n) : L2.wipe σ2 vs = L2.wipe σ vs := by
  have hl : σ2.length = σ.length := by rw [h.len, wipe_length]
  refine List.ext_getElem? fun i => ?_
  by_cases hi : i ∈ vs
  · rw [wipe_none hi, wipe_none hi, hl]
  · rw [wipe_out hi]
    by_cases lt : i < n
    · exact h.at_ i (List.mem_filter.mpr ⟨List.mem_range.mpr lt, by simpa using hi⟩)
    · rw [List.getElem?_eq_none (by omega), List.getElem?_eq_none (by rw [wipe_length]; omega)]
end
section
variable {T : List NTab} {IO : List Nat} {W : St → XK} {X : Cx} {elt tg iter : Expr} {ifs : List Expr} {scope : Scope} {own : List (Str × Nat)} {pos p : Pos}
theorem pe_len {e : Expr} {t t' : TE} (h : PE X e t) (i : ∀ σ H Q, σ.length = X.N.length → t' σ H Q → t σ H Q) : PE X e t' := ⟨fun pins s σ H Q I w => h.run pins s σ H Q I (i _ _ _ I.len w)⟩
abbrev ETs (T : List NTab) (W : St → XK) (X : Cx) (ifs : List Expr) (g : M Bool) : Prop := PTs X ifs (tT T X.K W g)
theorem ets_nil : ETs T W X [] (M.pure true) := ⟨fun pins s σ H Q I ⟨ρ, B, Fs, sr, h⟩ => (pts_nil (X := X)).run pins s σ H Q I (show tYes σ H Q from h H B Fs sr .refl)⟩
theorem ets_one {c : Expr} {g : M Bool} (h : ET T W X c g) : ETs T W X [c] g := pts_one h
/-- the reading of a block -/
theorem tlc_of {n : Nat} {gi : M (List D)} {t : TgM} {tt : M Bool} {te : M Sl} {vs : List Nat} {σ : St} {H : Hp} {Q : VK} (hn : σ.length = n) (h : tO T X.K W (mLc vs gi t tt te) σ H Q) :
    tLc (iD T X.K W gi) (gD T X.K ((List.range n).filter fun i => !vs.contains i) t) (tT T X.K W tt) (tO T X.K W te) vs σ H Q := by
  obtain ⟨ρ, B, Fs, s, h⟩ := h
  refine ⟨ρ, B, Fs, s, ?_⟩
  unfold mLc M.bind at h
  cases eg : gi ρ with
  | fail => rw [eg] at h; exact h
  | exc c fs ρ' => rw [eg] at h; exact h
  | ok l ρ1 =>
    rw [eg] at h
    intro J H1 B1 Fs1 s1 st1 w D hD
    have h := postO.from st1 h
    dsimp only at h
    split at h
    case isFalse => exact h.elim
    case isTrue hp =>
      have hBD : B1 D = none := by
        cases q : B1 D with
        | none => rfl
        | some u => rw [s1.ex _ _ q] at hD; cases hD
      have g1 : Grow H1 B1 (upd H1 D (.lst [])) B1 := Grow.own s1.ex s1.noT hD
      obtain ⟨Fs2, s2, sub⟩ := (s1.grow g1).wipe vs
      cases el : lcLoop vs t tt te l [] (wipeE ρ1 vs) with
      | fail => rw [el] at h; exact h.elim
      | exc c fs ρ' => rw [el] at h; exact h.elim
      | ok accF ρF =>
        rw [el] at h
        refine ⟨fun i m H' => m = l.length - i ∧ i ≤ l.length ∧ ∃ ρ' B' Fs' acc xs Fr, lcLoop vs t tt te (l.drop i) acc ρ' = .ok accF ρF ∧ SR T X.K ρ' (L2.wipe σ vs) H' B' Fs' ∧ H' D = some (.lst xs) ∧ OwAll X.K B' H' xs acc Fr ∧ D ∉ Fr ∧ Off B' Fs' (D :: Fr) ∧
          Step H1 B1 (Own Fs1) H' B' (fun a => Own Fs' a ∨ a ∈ D :: Fr), ⟨_, rfl, Nat.zero_le _, wipeE ρ1 vs, B1, Fs2, [], [], [], el, s2, upd_same, .nil, by simp, fun a ha => ?_, ?_⟩, fun i m H' ⟨em, hi, ρ', B', Fs', acc, xs, Fr, e', s', hD', ow, nD, o', st'⟩ => ?_⟩
        · have : a = D := by simpa using ha
          subst this
          refine ⟨fun j hj => ?_, hBD⟩
          obtain ⟨u, q, _⟩ := s1.alive (sub j _ hj)
          rw [hD] at q; cases q
        · have z := g1.step (F := Own Fs1)
          exact ⟨z.keep, z.there, z.ex, z.newB, fun a q => q.elim (fun ⟨j, q⟩ => .inl ⟨j, sub j a q⟩) fun q => by
            have : a = D := by simpa using q
            subst this; exact .inr (nt hD)⟩
        · by_cases hlt : i < l.length
          case neg =>
            have ei : i = l.length := by omega
            subst ei
            rw [List.drop_length] at e'
            have e' : (Res.ok acc ρ' : Res (List Sl)) = .ok accF ρF := e'
            cases e'
            refine .inl ⟨w.stop H' (st'.ex.trans s'.ex), h (.ref D) H' B' Fs' (D :: Fr) (s1.back hp st'.ex s') (.ol hD' nD ow) o' st'⟩
          case pos =>
            obtain ⟨d, hd⟩ : ∃ d, l[i]? = some d := ⟨l[i], by simp [hlt]⟩
            have ed : l.drop i = d :: l.drop (i + 1) := by
              rw [List.drop_eq_getElem_cons hlt]
              have : l[i] = d := by rw [List.getElem?_eq_getElem hlt] at hd; exact Option.some.inj hd
              rw [this]
            rw [ed] at e'
            refine .inr ⟨w.go i H' (st'.ex.trans s'.ex) hlt, fun H3 => i + 1 ≤ l.length ∧ ∃ ρ' B' Fs' acc xs Fr, lcLoop vs t tt te (l.drop (i + 1)) acc ρ' = .ok accF ρF ∧ SR T X.K ρ' (L2.wipe σ vs) H3 B' Fs' ∧ H3 D = some (.lst xs) ∧ OwAll X.K B' H3 xs acc Fr ∧ D ∉ Fr ∧ Off B' Fs' (D :: Fr) ∧
              Step H1 B1 (Own Fs1) H3 B' (fun a => Own Fs' a ∨ a ∈ D :: Fr), fun H3 ⟨z1, z2⟩ => ⟨l.length - (i + 1), by omega, rfl, z1, z2⟩, fun x H2 y => ?_⟩
            obtain ⟨B2, g2, ix⟩ := w.yld i H' B' x H2 d st'.ex s'.ex s'.noT y hd
            have s2' := s'.grow g2
            have st2 : Step H' B' (Own Fs') H2 B2 (Own Fs') := g2.step
            have live : ∀ a, a ∈ D :: Fr → ∃ u, H' a = some u ∧ Ownable u := fun a ha => by
              rcases List.mem_cons.mp ha with z | z
              · rw [z]; exact ⟨_, hD', trivial⟩
              · exact ow.there a z
            unfold lcLoop at e'
            split at e'
            case h_1 => cases e'
            case h_2 ρa ea =>
              refine ⟨ρ', B2, Fs', d, ρa, s2', ix, ea, fun σ2 Fs3 s3 st3 io => ?_⟩
              have ws := wipe_same n io hn
              refine ⟨ws, ρa, B2, Fs3, s3, ?_⟩
              split at e'
              case h_2 => cases e'
              case h_1 b ρb eb =>
                rw [eb]
                intro H4 B4 Fs4 s4 st4
                have st24 := (st2.trans st3).trans st4
                obtain ⟨o4, k4⟩ := o'.stay live st24
                have step4 : Step H1 B1 (Own Fs1) H4 B4 (fun a => Own Fs4 a ∨ a ∈ D :: Fr) := by
                  have z := st'.trans (st24.temps (R := fun a => a ∈ D :: Fr))
                  exact z
                have hD4 : H4 D = some (.lst xs) := k4 _ _ List.mem_cons_self hD'
                have ow4 : OwAll X.K B4 H4 xs acc Fr := ow.mono st24.ex fun a u ha e => k4 a u (List.mem_cons_of_mem _ ha) e
                cases b with
                | false =>
                  rw [if_neg Bool.false_ne_true] at e' ⊢
                  obtain ⟨Fs5, s5, sub5⟩ := s4.wipe vs
                  rw [ws] at s5
                  exact ⟨hlt, _, B4, Fs5, acc, xs, Fr, e', s5, hD4, ow4, nD, fun a ha => ⟨fun j hj => (o4 a ha).1 j (sub5 j a hj), (o4 a ha).2⟩, ⟨step4.keep, step4.there, step4.ex, step4.newB, fun a q => step4.newF a (q.elim (fun ⟨j, q⟩ => .inl ⟨j, sub5 j a q⟩) .inr)⟩⟩
                | true =>
                  rw [if_pos rfl] at e' ⊢
                  refine ⟨ρb, B4, Fs4, s4, ?_⟩
                  split at e'
                  case h_2 => cases e'
                  case h_1 yv ρc ec =>
                    split at e'
                    case isFalse => cases e'
                    case isTrue hl =>
                      rw [ec]
                      intro v H5 B5 Fs5 Fr5 s5 i5 o5 st5
                      have st5' : Step H4 B4 (Own Fs4) H5 B5 (Own Fs5) := st5.drop
                      have live4 : ∀ a, a ∈ D :: Fr → ∃ u, H4 a = some u ∧ Ownable u := fun a ha => by
                        obtain ⟨u, h1, h2⟩ := live a ha
                        exact ⟨u, k4 a u ha h1, h2⟩
                      obtain ⟨o6, k6⟩ := o4.stay live4 st5'
                      have hD5 : H5 D = some (.lst xs) := k6 _ _ List.mem_cons_self hD4
                      have ow5 : OwAll X.K B5 H5 xs acc Fr := ow4.mono st5.ex fun a u ha e => k6 a u (List.mem_cons_of_mem _ ha) e
                      have apart5 : ∀ a, a ∈ D :: Fr → a ∉ Fr5 := fun a h1 h2 => by
                        rcases st5.newF a (.inr h2) with ⟨j, z⟩ | z
                        · exact (o4 a h1).1 j z
                        · obtain ⟨u, q, own⟩ := live4 a h1
                          exact z.no q own
                      obtain ⟨F6, w1, w2⟩ := OwAll.snoc i5 ow5 fun a ha => apart5 a (List.mem_cons_of_mem _ ha)
                      have nD6 : D ∉ F6 := fun z => ((w2 D).mp z).elim nD (apart5 D List.mem_cons_self)
                      refine ⟨xs, hD5, by rw [ow5.length]; exact lt_line hl, hlt, ?_⟩
                      -- the list is longer by one
                      have hBD5 : B5 D = none := (o6 D List.mem_cons_self).2
                      have nDs : ∀ j, D ∉ Fs5 j := (o6 D List.mem_cons_self).1
                      have s6 : SR T X.K ρc σ2 (upd H5 D (.lst (xs ++ [v]))) B5 Fs5 := ⟨fun a o q => by rw [upd_ne (fun z => by rw [z, hBD5] at q; cases q)]; exact s5.ex a o q, tabs_upd s5.tabs hD5 trivial, s5.noT, fun j u q => (by
                        obtain ⟨w, q1, q2⟩ := s5.slot j u q
                        exact ⟨w, q1, q2.mono (Ex.refl _) fun a o ha q => by rw [upd_ne (fun z => nDs j (by rw [← z]; exact ha))]; exact q⟩), s5.off, s5.apart, s5.offB⟩
                      obtain ⟨Fs7, s7, sub7⟩ := s6.wipe vs
                      rw [ws] at s7
                      refine ⟨_, B5, Fs7, acc ++ [yv], xs ++ [v], F6, e', s7, upd_same, w1.mono (Ex.refl _) (fun a u ha q => by rw [upd_ne (fun z => nD6 (by rw [← z]; exact ha))]; exact q), nD6, fun a ha => ?_, ?_⟩
                      · rcases List.mem_cons.mp ha with z | z
                        · rw [z]; exact ⟨fun j hj => nDs j (sub7 j _ hj), hBD5⟩
                        · rcases (w2 a).mp z with z | z
                          · have q := o6 a (List.mem_cons_of_mem _ z)
                            exact ⟨fun j hj => q.1 j (sub7 j _ hj), q.2⟩
                          · exact ⟨fun j hj => (o5 a z).1 j (sub7 j _ hj), (o5 a z).2⟩
                      · have z5 := st5.temps (R := fun a => a ∈ D :: Fr)
                        have z := step4.trans z5
                        refine ⟨fun a o nF nt e => ?_, fun a e => e, z.ex, z.newB, fun a q => ?_⟩
                        · rw [upd_ne (fun q => by
                            subst q
                            rcases step4.newF a (.inr List.mem_cons_self) with q | q
                            · exact nF q
                            · exact q.not e nt)]
                          exact z.keep a o nF nt e
                        · refine z.newF a ?_
                          rcases q with ⟨j, q⟩ | q
                          · exact .inl (.inl ⟨j, sub7 j a q⟩)
                          · rcases List.mem_cons.mp q with q | q
                            · rw [q]; exact .inr List.mem_cons_self
                            · rcases (w2 a).mp q with q | q
                              · exact .inr (List.mem_cons_of_mem _ q)
                              · exact .inl (.inr q)
theorem eo_lc {gi : M (List D)} {t : TgM} {tt : M Bool} {te : M Sl} (hc : X.calm = true) (hN : X.N.Nodup) (hi : EI T W X tg iter gi) (ok : BlkOk X.N X.env.scope scope own)
    (hg : ∀ (s : Shared) (H : Hp) (C : Addr) (cl : List (Str × Addr)) (fp : List Addr), EG T ((List.range X.N.length).filter fun i => !(own.map Prod.snd).contains i) (X.blk s H scope (compEnvC scope cl C X.env) fp) tg t)
    (ht : ∀ (s : Shared) (H : Hp) (C : Addr) (cl : List (Str × Addr)) (fp : List Addr), ETs T W (X.blk s H scope (compEnvC scope cl C X.env) fp) ifs tt)
    (he : ∀ (s : Shared) (H : Hp) (C : Addr) (cl : List (Str × Addr)) (fp : List Addr), EO T W (X.blk s H scope (compEnvC scope cl C X.env) fp) elt te) (hs : ∀ x, foldedSetIterable iter X.env x = pure x := by intro _; rfl) :
    EO T W X (.ListComp elt [⟨tg, iter, ifs, 0⟩] scope pos) (mLc (own.map Prod.snd) gi t tt te) :=
  pe_len (pe_lc hc hN hi ok hg ht he hs) fun σ H Q hn h => tlc_of (X := X) hn h
end
end DL

end
section
set_option Elab.async false
set_option linter.all false
set_option autoImplicit false
set_option maxRecDepth 100000
set_option maxHeartbeats 4000000
/-! The data layer, part 11: the operations. -/
namespace DL
open PySem PySem.Spec L2 NdefX
section
variable {K : PySem.W.Frag} {B H : Hp}
theorem IsAll.append : ∀ {xs : List V} {l : List D} {ys : List V} {m : List D}, IsAll K B xs l → IsAll K B ys m → IsAll K B (xs ++ ys) (l ++ m)
  | _, _, _, _, .nil, h => h
  | _, _, _, _, .cons h1 h2, h => .cons h1 (IsAll.append h2 h)
theorem IsAll.rep {xs : List V} {l : List D} (h : IsAll K B xs l) : ∀ n : Nat, IsAll K B (List.replicate n xs).flatten (List.replicate n l).flatten
  | 0 => .nil
  | n + 1 => by
    rw [List.replicate_succ, List.replicate_succ, List.flatten_cons, List.flatten_cons]
    exact h.append (h.rep n)
theorem IsAll.drop : ∀ {xs : List V} {l : List D} (n : Nat), IsAll K B xs l → IsAll K B (xs.drop n) (l.drop n)
  | _, _, 0, h => h
  | _, _, _ + 1, .nil => .nil
  | _, _, n + 1, .cons _ t => IsAll.drop n t
theorem IsAll.take : ∀ {xs : List V} {l : List D} (n : Nat), IsAll K B xs l → IsAll K B (xs.take n) (l.take n)
  | _, _, 0, h => by rw [List.take_zero, List.take_zero]; exact .nil
  | _, _, _ + 1, .nil => .nil
  | _, _, n + 1, .cons h t => .cons h (IsAll.take n t)
theorem IsAll.texts : ∀ {ys : List Str}, IsAll K B (ys.map V.str) (ys.map D.str)
  | [] => .nil
  | y :: r => .cons (.str y) IsAll.texts
theorem POt.lst' {p : Addr} {xs : List V} {l : List D} {Q : VK} (h : POt K B H (.ol (l.map .d)) Q) (e : Ex B H) (n : NoT B) (i : IsAll K B xs l) (hp : H p = none) : Q (.ref p) (upd H p (.lst xs)) := h.lst e n (owAll_d i) hp
end
/-! ### + - * // % ** -/
def addD : D → D → Option D
  | .int i, .int j => some (.int (i + j))
  | .str a, .str b => if lineOk (a.length + b.length) then some (.str (a ++ b)) else none
  | .tup a, .tup b => if lineOk (a.length + b.length) then some (.tup (a ++ b)) else none
  | .lst a, .lst b => if lineOk (a.length + b.length) then some (.lst (a ++ b)) else none
  | _, _ => none
def addO : D → D → Option Sl
  | .lst a, .lst b => if lineOk (a.length + b.length) then some (.ol ((a ++ b).map .d)) else none
  | _, _ => none
def subD : D → D → Option D
  | .int i, .int j => some (.int (i - j))
  | _, _ => none
def bits (i : Int) : Nat := i.natAbs.log2
def mulD : D → D → Option D
  | .int i, .int j => if bits i + bits j < 1000000 then some (.int (i * j)) else none
  | .lst a, .int k => if 0 ≤ k ∧ k < 2 ^ 62 ∧ lineOk (a.length * k.toNat) then some (.lst (List.replicate k.toNat a).flatten) else none
  | .str a, .int k => if 0 ≤ k ∧ k < 2 ^ 31 ∧ lineOk a.length ∧ lineOk (a.length * k.toNat) then some (.str (Txt.mul a k)) else none
  | _, _ => none
def mulO : D → D → Option Sl
  | .lst a, .int k => if 0 ≤ k ∧ k < 2 ^ 62 ∧ lineOk (a.length * k.toNat) then some (.ol ((List.replicate k.toNat a).flatten.map .d)) else none
  | _, _ => none
def fdivD : D → D → Option D
  | .int i, .int j => if 0 < j ∧ bits j < 9000 then some (.int (i / j)) else none
  | _, _ => none
def modD : D → D → Option D
  | .int i, .int j => if 0 < j then some (.int (i % j)) else none
  | _, _ => none
def powD : D → D → Option D
  | .int i, .int j => if 0 ≤ j ∧ j ≤ 1000000 ∧ i.natAbs < 2 ^ 64 then some (.int (i ^ j.toNat)) else none
  | _, _ => none
/-! ### comparisons -/
mutual
def toPy : D → Option PyData
  | .non => some .none
  | .bl b => some (.bool b)
  | .int i => some (.int i)
  | .str x => some (.str x)
  | .lst l => (toPys l).map .list
  | .tup l => (toPys l).map .tuple
  | _ => none
def toPys : List D → Option (List PyData)
  | [] => some []
  | d :: r => match toPy d, toPys r with
    | some p, some ps => some (p :: ps)
    | _, _ => none
end
def eqB (d e : D) : Option Bool := match toPy d, toPy e with
  | some p, some q => if SeqAt.shaped p && SeqAt.shaped q then some (PyData.eqv p q) else none
  | _, _ => none
def eqD (d e : D) : Option D := (eqB d e).map .bl
def neD (d e : D) : Option D := (eqB d e).map fun b => .bl !b
def intCmp (f : Int → Int → Bool) : D → D → Option D
  | .int i, .int j => some (.bl (f i j))
  | _, _ => none
def ltD := intCmp fun i j => decide (i < j)
def leD := intCmp fun i j => decide (i ≤ j)
def gtD := intCmp fun i j => decide (j < i)
def geD := intCmp fun i j => decide (j ≤ i)
/-- flat data as a value -/
def flatOf : D → Option V
  | .non => some .non
  | .bl b => some (.bl b)
  | .int i => some (.int i)
  | .str x => some (.str x)
  | _ => none
def flatsOf : List D → Option (List V)
  | [] => some []
  | d :: r => match flatOf d, flatsOf r with
    | some v, some vs => some (v :: vs)
    | _, _ => none
def inB : D → D → Option Bool
  | x, .lst l => match flatOf x, flatsOf l with
    | some v, some vs => some (inV v vs)
    | _, _ => none
  | x, .tup l => match flatOf x, flatsOf l with
    | some v, some vs => some (inV v vs)
    | _, _ => none
  | .str x, .str z => match x.cps.toList with
    | [c] => some (decide (c ∈ z.cps.toList))
    | _ => none
  | _, _ => none
def inD (d e : D) : Option D := (inB d e).map .bl
def notInD (d e : D) : Option D := (inB d e).map fun b => .bl !b
def nonB : D → Bool
  | .non => true
  | _ => false
def isNonD : D → D → Option D
  | d, .non => some (.bl (nonB d))
  | _, _ => none
def isNotNonD : D → D → Option D
  | d, .non => some (.bl (!nonB d))
  | _, _ => none
section
variable {X : Cx} {K : PySem.W.Frag} {B H : Hp}
mutual
theorem toPy_ok (e : Ex B H) : ∀ {v : V} {d : D} {p : PyData}, Is K B v d → toPy d = some p → Dp K H v p
  | _, _, _, .non, h => by cases h; exact .non
  | _, _, _, .bl b, h => by cases h; exact .bl b
  | _, _, _, .int i, h => by cases h; exact .int i
  | _, _, _, .str x, h => by cases h; exact .str x
  | _, _, _, .glo x, h => by cases h
  | _, _, _, .ty x, h => by cases h
  | _, _, _, .dic _ _ _, h => by cases h
  | _, _, _, .sq _ _, h => by cases h
  | _, _, _, .ins _ _ _ _, h => by cases h
  | _, _, p, .tup h1 h2, h => by
    unfold toPy at h
    obtain ⟨ps, h3, h4⟩ := Option.map_eq_some_iff.mp h
    subst h4
    exact .tup (e.t h1) (toPys_ok e h2 h3)
  | _, _, p, .lst h1 h2, h => by
    unfold toPy at h
    obtain ⟨ps, h3, h4⟩ := Option.map_eq_some_iff.mp h
    subst h4
    exact .lst (.of (e _ _ h1)) (toPys_ok e h2 h3)
theorem toPys_ok (e : Ex B H) : ∀ {vs : List V} {ds : List D} {ps : List PyData}, IsAll K B vs ds → toPys ds = some ps → DpAll K H vs ps
  | _, _, _, .nil, h => by cases h; exact .nil
  | _, _, ps, .cons (d := d) (ds := ds) h1 h2, h => by
    unfold toPys at h
    cases e1 : toPy d with
    | none => rw [e1] at h; cases h
    | some p =>
      cases e2 : toPys ds with
      | none => rw [e1, e2] at h; cases h
      | some qs =>
        rw [e1, e2] at h
        cases h
        exact .cons (toPy_ok e h1 e1) (toPys_ok e h2 e2)
end
theorem flatOf_ok {v w : V} {d : D} (i : Is K B v d) (h : flatOf d = some w) : v = w ∧ flatV w = true := by
  cases i <;> cases h <;> exact ⟨rfl, rfl⟩
theorem flatsOf_ok : ∀ {vs ws : List V} {ds : List D}, IsAll K B vs ds → flatsOf ds = some ws → vs = ws ∧ ws.all flatV = true
  | _, _, _, .nil, h => by cases h; exact ⟨rfl, rfl⟩
  | _, ws, _, .cons (d := d) (ds := ds) h1 h2, h => by
    unfold flatsOf at h
    cases e1 : flatOf d with
    | none => rw [e1] at h; cases h
    | some p =>
      cases e2 : flatsOf ds with
      | none => rw [e1, e2] at h; cases h
      | some qs =>
        rw [e1, e2] at h
        cases h
        obtain ⟨a1, a2⟩ := flatOf_ok h1 e1
        obtain ⟨b1, b2⟩ := flatsOf_ok h2 e2
        exact ⟨by rw [a1, b1], by rw [List.all_cons, a2, b2]; rfl⟩
theorem isAll_nil {xs : List V} {l : List D} (h : IsAll K B xs l) : xs = [] ↔ l = [] := by
  cases h with
  | nil => exact ⟨fun _ => rfl, fun _ => rfl⟩
  | cons _ _ => exact ⟨(fun z => by cases z), (fun z => by cases z)⟩
theorem o_add : OpD X (binaryOp .Add) addD := by
  intro pins s σ H x y v u Q I rx ry ⟨d, e, z, B, ex, nt, i1, i2, eo, k⟩
  cases i1 with
  | int i =>
    cases i2 with
    | int j => cases eo; exact op_add pins s σ H _ _ v u Q I rx ry ⟨i, j, rfl, rfl, k.at ex nt (.int _)⟩
    | _ => cases eo
  | str a =>
    cases i2 with
    | str b =>
      dsimp only [addD] at eo
      split at eo
      · rename_i hl; cases eo; exact op_add_str pins s σ H _ _ v u Q I rx ry ⟨a, b, rfl, rfl, lineOk_le hl, k.at ex nt (.str _)⟩
      · cases eo
    | _ => cases eo
  | @tup a xs l h1 h2 =>
    cases i2 with
    | @tup b ys m h3 h4 =>
      dsimp only [addD] at eo
      split at eo
      · rename_i hl
        cases eo
        refine op_catA pins s σ H _ _ v u Q I rx ry ⟨_, _, xs, ys, rfl, rfl, ex.t h1, ex.t h3, by rw [h2.length, h4.length]; exact lineOk_le hl, fun z => ?_, fun _ z => ?_, fun _ _ p hp => k.tup ex nt (h2.append h4) hp⟩
        · rw [(isAll_nil h2).mp z] at k; exact k.at ex nt (.tup h3 h4)
        · rw [(isAll_nil h4).mp z, List.append_nil] at k; exact k.at ex nt (.tup h1 h2)
      · cases eo
    | _ => cases eo
  | @lst a xs l h1 h2 =>
    cases i2 with
    | @lst b ys m h3 h4 =>
      dsimp only [addD] at eo
      split at eo
      · rename_i hl
        cases eo
        exact op_cat pins s σ H _ _ v u Q I rx ry ⟨_, _, xs, ys, rfl, rfl, ex _ _ h1, ex _ _ h3, by rw [h2.length, h4.length]; exact lineOk_le hl, fun p hp => k.lst ex nt (h2.append h4) hp⟩
      · cases eo
    | _ => cases eo
  | _ => cases eo
theorem o_addO : OpO X (binaryOp .Add) addO := by
  intro pins s σ H x y v u Q I rx ry ⟨d, e, z, B, ex, nt, i1, i2, eo, k⟩
  cases i1 with
  | @lst a xs l h1 h2 =>
    cases i2 with
    | @lst b ys m h3 h4 =>
      dsimp only [addO] at eo
      split at eo
      · rename_i hl
        cases eo
        exact op_cat pins s σ H _ _ v u Q I rx ry ⟨_, _, xs, ys, rfl, rfl, ex _ _ h1, ex _ _ h3, by rw [h2.length, h4.length]; exact lineOk_le hl, fun p hp => k.lst' ex nt (h2.append h4) hp⟩
      · cases eo
    | _ => cases eo
  | _ => cases eo
theorem o_sub : OpD X (binaryOp .Sub) subD := by
  intro pins s σ H x y v u Q I rx ry ⟨d, e, z, B, ex, nt, i1, i2, eo, k⟩
  cases i1 with
  | int i =>
    cases i2 with
    | int j => cases eo; exact op_sub pins s σ H _ _ v u Q I rx ry ⟨i, j, rfl, rfl, k.at ex nt (.int _)⟩
    | _ => cases eo
  | _ => cases eo
theorem mulOk_of {a : Str} {k : Int} (h0 : 0 ≤ k) (h1 : k < 2 ^ 31) (h2 : a.length ≤ 16777216) (h3 : a.length * k.toNat ≤ 16777216) : PySem.MulOk a k := by
  refine ⟨?_, fun hn _ => ?_, fun _ _ => ?_⟩
  · rw [Bool.or_eq_false_iff]
    exact ⟨decide_eq_false (by omega), decide_eq_false (by omega)⟩
  · have hk : 1 ≤ k := by omega
    have : (2 ^ 32 : Int) ≤ (2 ^ 63 - 1) / k + 1 := by
      have h4 : (2 ^ 63 - 1) / (2 ^ 31 : Int) ≤ (2 ^ 63 - 1) / k := by
        refine Int.le_ediv_of_mul_le (by omega) ?_
        have h5 : (2 ^ 63 - 1) / (2 ^ 31 : Int) = 4294967295 := by decide
        rw [h5]
        have : 4294967295 * k ≤ 4294967295 * 2 ^ 31 := Int.mul_le_mul_of_nonneg_left (by omega) (by omega)
        omega
      have h5 : (2 ^ 63 - 1) / (2 ^ 31 : Int) = 4294967295 := by decide
      rw [h5] at h4
      omega
    omega
  · unfold PySem.Builtin.Str.tooLong
    rw [sizeLine_eq]
    exact decide_eq_false (by omega)
theorem op_mul_str : OpR X (binaryOp .Mult) (fun x y H Q => ∃ a k, x = .str a ∧ y = .int k ∧ PySem.MulOk a k ∧ Q (.str (Txt.mul a k)) H) := by
  intro pins s σ H x y v u Q I rx ry h
  obtain ⟨a, k, rfl, rfl, hok, q⟩ := h
  obtain ⟨t, rfl⟩ := rx
  obtain ⟨t', rfl⟩ := ry
  exact PySem.SB.mul hok fun t' tk => ⟨.str _, H, I.tok _, ⟨_, rfl⟩, q⟩
theorem o_mul : OpD X (binaryOp .Mult) mulD := by
  intro pins s σ H x y v u Q I rx ry ⟨d, e, z, B, ex, nt, i1, i2, eo, k⟩
  cases i1 with
  | int i =>
    cases i2 with
    | int j =>
      dsimp only [mulD] at eo
      split at eo
      · rename_i hl; cases eo; exact op_mulW pins s σ H _ _ v u Q I rx ry ⟨i, j, rfl, rfl, hl, k.at ex nt (.int _)⟩
      · cases eo
    | _ => cases eo
  | @lst a xs l h1 h2 =>
    cases i2 with
    | int j =>
      dsimp only [mulD] at eo
      split at eo
      · rename_i hl
        cases eo
        obtain ⟨a1, a2, a3⟩ := hl
        exact op_rep pins s σ H _ _ v u Q I rx ry ⟨_, j, xs, rfl, rfl, ex _ _ h1, by omega, by omega, by rw [h2.length]; exact lineOk_le a3, fun p hp => k.lst ex nt (h2.rep _) hp⟩
      · cases eo
    | _ => cases eo
  | str a =>
    cases i2 with
    | int j =>
      dsimp only [mulD] at eo
      split at eo
      · rename_i hl
        cases eo
        obtain ⟨a1, a2, a3, a4⟩ := hl
        exact op_mul_str pins s σ H _ _ v u Q I rx ry ⟨a, j, rfl, rfl, mulOk_of a1 a2 (of_decide_eq_true a3) (of_decide_eq_true a4), k.at ex nt (.str _)⟩
      · cases eo
    | _ => cases eo
  | _ => cases eo
theorem o_mulO : OpO X (binaryOp .Mult) mulO := by
  intro pins s σ H x y v u Q I rx ry ⟨d, e, z, B, ex, nt, i1, i2, eo, k⟩
  cases i1 with
  | @lst a xs l h1 h2 =>
    cases i2 with
    | int j =>
      dsimp only [mulO] at eo
      split at eo
      · rename_i hl
        cases eo
        obtain ⟨a1, a2, a3⟩ := hl
        exact op_rep pins s σ H _ _ v u Q I rx ry ⟨_, j, xs, rfl, rfl, ex _ _ h1, by omega, by omega, by rw [h2.length]; exact lineOk_le a3, fun p hp => k.lst' ex nt (h2.rep _) hp⟩
      · cases eo
    | _ => cases eo
  | _ => cases eo
theorem o_fdiv : OpD X (binaryOp .FloorDiv) fdivD := by
  intro pins s σ H x y v u Q I rx ry ⟨d, e, z, B, ex, nt, i1, i2, eo, k⟩
  cases i1 with
  | int i =>
    cases i2 with
    | int j =>
      dsimp only [fdivD] at eo
      split at eo
      · rename_i hl; cases eo; exact op_fdivW pins s σ H _ _ v u Q I rx ry ⟨i, j, rfl, rfl, hl, k.at ex nt (.int _)⟩
      · cases eo
    | _ => cases eo
  | _ => cases eo
theorem o_mod : OpD X (binaryOp .Mod) modD := by
  intro pins s σ H x y v u Q I rx ry ⟨d, e, z, B, ex, nt, i1, i2, eo, k⟩
  cases i1 with
  | int i =>
    cases i2 with
    | int j =>
      dsimp only [modD] at eo
      split at eo
      · rename_i hl; cases eo; exact op_mod pins s σ H _ _ v u Q I rx ry ⟨i, j, rfl, rfl, hl, k.at ex nt (.int _)⟩
      · cases eo
    | _ => cases eo
  | _ => cases eo
theorem o_pow : OpD X (binaryOp .Pow) powD := by
  intro pins s σ H x y v u Q I rx ry ⟨d, e, z, B, ex, nt, i1, i2, eo, k⟩
  cases i1 with
  | int i =>
    cases i2 with
    | int j =>
      dsimp only [powD] at eo
      split at eo
      · rename_i hl; cases eo; exact op_pow pins s σ H _ _ v u Q I rx ry ⟨i, j, rfl, rfl, hl, k.at ex nt (.int _)⟩
      · cases eo
    | _ => cases eo
  | _ => cases eo
theorem eqB_ok {d e : D} {b : Bool} (h : eqB d e = some b) : ∃ p q, toPy d = some p ∧ toPy e = some q ∧ SeqAt.shaped p = true ∧ SeqAt.shaped q = true ∧ b = PyData.eqv p q := by
  unfold eqB at h
  split at h
  · rename_i p q e1 e2
    split at h
    · rename_i hs
      cases h
      obtain ⟨h1, h2⟩ := Bool.and_eq_true_iff.mp hs
      exact ⟨p, q, e1, e2, h1, h2, rfl⟩
    · cases h
  · cases h
theorem o_eq (hu : X.A.units + 64 < cLine) : OpD X (compareOp .Eq) eqD := by
  intro pins s σ H x y v u Q I rx ry ⟨d, e, z, B, ex, nt, i1, i2, eo, k⟩
  obtain ⟨b, hb, hz⟩ := Option.map_eq_some_iff.mp eo
  subst hz
  obtain ⟨p, q, e1, e2, h1, h2, rfl⟩ := eqB_ok hb
  exact op_eqD hu pins s σ H _ _ v u Q I rx ry ⟨p, q, toPy_ok ex i1 e1, toPy_ok ex i2 e2, h1, h2, k.at ex nt (.bl _)⟩
theorem o_ne (hu : X.A.units + 64 < cLine) : OpD X (compareOp .NotEq) neD := by
  intro pins s σ H x y v u Q I rx ry ⟨d, e, z, B, ex, nt, i1, i2, eo, k⟩
  obtain ⟨b, hb, hz⟩ := Option.map_eq_some_iff.mp eo
  subst hz
  obtain ⟨p, q, e1, e2, h1, h2, rfl⟩ := eqB_ok hb
  exact op_neD hu pins s σ H _ _ v u Q I rx ry ⟨p, q, toPy_ok ex i1 e1, toPy_ok ex i2 e2, h1, h2, k.at ex nt (.bl _)⟩
theorem o_int {op : CmpOp} {f : Int → Int → Bool} (h : OpR X (compareOp op) (rI0 fun i j => .bl (f i j))) : OpD X (compareOp op) (intCmp f) := by
  intro pins s σ H x y v u Q I rx ry ⟨d, e, z, B, ex, nt, i1, i2, eo, k⟩
  cases i1 with
  | int i =>
    cases i2 with
    | int j => cases eo; exact h pins s σ H _ _ v u Q I rx ry ⟨i, j, rfl, rfl, k.at ex nt (.bl _)⟩
    | _ => cases eo
  | _ => cases eo
theorem o_lt : OpD X (compareOp .Lt) ltD := o_int op_lt
theorem o_le : OpD X (compareOp .LtE) leD := o_int op_le
theorem o_gt : OpD X (compareOp .Gt) gtD := o_int op_gt
theorem o_ge : OpD X (compareOp .GtE) geD := o_int op_ge
theorem in_core {op : CmpOp} {neg : Bool} (h1 : OpR X (compareOp op) (rIn X.K neg)) (h2 : OpR X (compareOp op) (fun x y H Q => ∃ (c : Nat) (z : Str), x = .str ⟨#[c]⟩ ∧ y = .str z ∧ Q (.bl (if neg then !decide (c ∈ z.cps.toList) else decide (c ∈ z.cps.toList))) H)) :
    OpD X (compareOp op) fun d e => (inB d e).map fun b => .bl (if neg then !b else b) := by
  intro pins s σ H x y v u Q I rx ry ⟨d, e, z, B, ex, nt, i1, i2, eo, k⟩
  obtain ⟨b, hb, hz⟩ := Option.map_eq_some_iff.mp eo
  subst hz
  cases i2 with
  | @lst a ys l g1 g2 =>
    dsimp only [inB] at hb
    split at hb
    · rename_i w ws e1 e2
      cases hb
      obtain ⟨rfl, f1⟩ := flatOf_ok i1 e1
      obtain ⟨rfl, f2⟩ := flatsOf_ok g2 e2
      exact h1 pins s σ H _ _ v u Q I rx ry ⟨_, _, rfl, .inl (.of (ex _ _ g1)), f1, f2, k.at ex nt (.bl _)⟩
    · cases hb
  | @tup a ys l g1 g2 =>
    dsimp only [inB] at hb
    split at hb
    · rename_i w ws e1 e2
      cases hb
      obtain ⟨rfl, f1⟩ := flatOf_ok i1 e1
      obtain ⟨rfl, f2⟩ := flatsOf_ok g2 e2
      exact h1 pins s σ H _ _ v u Q I rx ry ⟨_, _, rfl, .inr (ex.t g1), f1, f2, k.at ex nt (.bl _)⟩
    · cases hb
  | str zz =>
    cases i1 with
    | str xx =>
      dsimp only [inB] at hb
      split at hb
      · rename_i c ec
        cases hb
        have exx : xx = ⟨#[c]⟩ := by
          obtain ⟨⟨l⟩⟩ := xx
          have : l = [c] := ec
          rw [this]
        subst exx
        exact h2 pins s σ H _ _ v u Q I rx ry ⟨c, zz, rfl, rfl, k.at ex nt (.bl _)⟩
      · cases hb
    | _ => cases hb
  | _ => cases i1 <;> cases hb
theorem o_in : OpD X (compareOp .In) inD := in_core (neg := false) op_in_seq op_inS
theorem o_notIn : OpD X (compareOp .NotIn) notInD := in_core (neg := true) op_notIn_seq op_notInS
theorem o_isN : OpD X (compareOp .Is) isNonD := by
  intro pins s σ H x y v u Q I rx ry ⟨d, e, z, B, ex, nt, i1, i2, eo, k⟩
  cases i2 with
  | non =>
    cases eo
    refine op_isN pins s σ H _ _ v u Q I rx ry ⟨rfl, ?_⟩
    have e : decide (x = V.non) = nonB d := by cases i1 <;> rfl
    rw [e]
    exact k.at ex nt (.bl _)
  | _ => cases eo
theorem o_isNotN : OpD X (compareOp .IsNot) isNotNonD := by
  intro pins s σ H x y v u Q I rx ry ⟨d, e, z, B, ex, nt, i1, i2, eo, k⟩
  cases i2 with
  | non =>
    cases eo
    refine op_notN pins s σ H _ _ v u Q I rx ry ⟨rfl, ?_⟩
    have e : (!decide (x = V.non)) = !nonB d := by cases i1 <;> rfl
    rw [e]
    exact k.at ex nt (.bl _)
  | _ => cases eo
end
/-! ### calls of built-ins -/
def lenD : List D → Option D
  | [.lst l] => some (.int l.length)
  | [.tup l] => some (.int l.length)
  | [.str x] => if lineOk x.length then some (.int x.length) else none
  | _ => none
def absD : List D → Option D
  | [.int i] => some (.int (if i < 0 then -i else i))
  | _ => none
def intD : List D → Option D
  | [.int i] => some (.int i)
  | [.str a] => if a.length ≤ 640 then (PySem.intText? a).map .int else none
  | _ => none
def strD : List D → Option D
  | [.int i] => if bits i < 1920 then some (.str (toString i)) else none
  | [.str a] => some (.str a)
  | _ => none
def tupleD : List D → Option D
  | [.lst l] => some (.tup l)
  | [.tup l] => some (.tup l)
  | _ => none
def listO : List D → Option Sl
  | [.lst l] => some (.ol (l.map .d))
  | [.tup l] => some (.ol (l.map .d))
  | _ => none
def bools : List D → Option (List Bool)
  | [] => some []
  | .bl b :: r => (bools r).map (b :: ·)
  | _ => none
def allD : List D → Option D
  | [.lst l] => (bools l).map fun bs => .bl (bs.all id)
  | _ => none
def anyD : List D → Option D
  | [.lst l] => (bools l).map fun bs => .bl (bs.any id)
  | _ => none
def max2D : List D → Option D
  | [.int i, .int j] => some (.int (if j > i then j else i))
  | _ => none
def min2D : List D → Option D
  | [.int i, .int j] => some (.int (if j < i then j else i))
  | _ => none
def isSeqD : List D → Option D
  | [.lst _, .tup [.ty "tuple", .ty "list"]] => some (.bl true)
  | _ => none
section
variable {X : Cx} {K : PySem.W.Frag} {B H : Hp}
theorem c_len : CallD X (.builtin "len") lenD := by
  intro pins s σ H xs us Q I r ⟨ds, z, B, ex, nt, i, eo, k⟩
  cases i with
  | nil => cases eo
  | cons i1 i2 =>
    cases i2 with
    | cons _ _ => cases i1 <;> cases eo
    | nil =>
      cases i1 with
      | lst h1 h2 => cases eo; exact call_len_seq pins s σ H _ us Q I r ⟨_, _, rfl, .inl (.of (ex _ _ h1)), by rw [h2.length]; exact k.at ex nt (.int _)⟩
      | tup h1 h2 => cases eo; exact call_len_seq pins s σ H _ us Q I r ⟨_, _, rfl, .inr (ex.t h1), by rw [h2.length]; exact k.at ex nt (.int _)⟩
      | str x =>
        dsimp only [lenD] at eo
        split at eo
        · rename_i hl; cases eo; exact call_len_str pins s σ H _ us Q I r ⟨x, rfl, lineOk_le hl, k.at ex nt (.int _)⟩
        · cases eo
      | _ => cases eo
theorem c_abs : CallD X (.builtin "abs") absD := by
  intro pins s σ H xs us Q I r ⟨ds, z, B, ex, nt, i, eo, k⟩
  cases i with
  | nil => cases eo
  | cons i1 i2 =>
    cases i2 with
    | cons _ _ => cases i1 <;> cases eo
    | nil =>
      cases i1 with
      | int i => cases eo; exact call_abs pins s σ H _ us Q I r ⟨i, rfl, k.at ex nt (.int _)⟩
      | _ => cases eo
theorem c_int : CallD X (.type "int") intD := by
  intro pins s σ H xs us Q I r ⟨ds, z, B, ex, nt, i, eo, k⟩
  cases i with
  | nil => cases eo
  | cons i1 i2 =>
    cases i2 with
    | cons _ _ => cases i1 <;> cases eo
    | nil =>
      cases i1 with
      | int i => cases eo; exact call_int1 pins s σ H _ us Q I r (.inl ⟨i, rfl, k.at ex nt (.int _)⟩)
      | str a =>
        dsimp only [intD] at eo
        split at eo
        · rename_i hl
          obtain ⟨n, h1, h2⟩ := Option.map_eq_some_iff.mp eo
          subst h2
          exact call_int_str pins s σ H _ us Q I r ⟨a, n, rfl, h1, hl, k.at ex nt (.int _)⟩
        · cases eo
      | _ => cases eo
theorem c_str : CallD X (.type "str") strD := by
  intro pins s σ H xs us Q I r ⟨ds, z, B, ex, nt, i, eo, k⟩
  cases i with
  | nil => cases eo
  | cons i1 i2 =>
    cases i2 with
    | cons _ _ => cases i1 <;> cases eo
    | nil =>
      cases i1 with
      | int i =>
        dsimp only [strD] at eo
        split at eo
        · rename_i hl; cases eo; exact call_str_int pins s σ H _ us Q I r ⟨i, rfl, hl, k.at ex nt (.str _)⟩
        · cases eo
      | str a => cases eo; exact SkE.call_str_str pins s σ H _ us Q I r ⟨a, rfl, k.at ex nt (.str _)⟩
      | _ => cases eo
theorem c_tuple : CallD X (.type "tuple") tupleD := by
  intro pins s σ H xs us Q I r ⟨ds, z, B, ex, nt, i, eo, k⟩
  cases i with
  | nil => cases eo
  | cons i1 i2 =>
    cases i2 with
    | cons _ _ => cases i1 <;> cases eo
    | nil =>
      cases i1 with
      | lst h1 h2 => cases eo; exact call_tuple_of pins s σ H _ us Q I r ⟨_, _, rfl, .inl ⟨.of (ex _ _ h1), fun p hp => k.tup ex nt h2 hp⟩⟩
      | tup h1 h2 => cases eo; exact call_tuple_of pins s σ H _ us Q I r ⟨_, _, rfl, .inr ⟨ex.t h1, k.at ex nt (.tup h1 h2)⟩⟩
      | _ => cases eo
theorem c_list : CallO X (.type "list") listO := by
  intro pins s σ H xs us Q I r ⟨ds, z, B, ex, nt, i, eo, k⟩
  cases i with
  | nil => cases eo
  | cons i1 i2 =>
    cases i2 with
    | cons _ _ => cases i1 <;> cases eo
    | nil =>
      cases i1 with
      | lst h1 h2 => cases eo; exact call_list_of pins s σ H _ us Q I r ⟨_, _, rfl, .inl (.of (ex _ _ h1)), fun p hp => k.lst' ex nt h2 hp⟩
      | tup h1 h2 => cases eo; exact call_list_of pins s σ H _ us Q I r ⟨_, _, rfl, .inr (ex.t h1), fun p hp => k.lst' ex nt h2 hp⟩
      | _ => cases eo
theorem bools_ok : ∀ {l : List D} {bs : List Bool} {xs : List V}, IsAll K B xs l → bools l = some bs → xs = bs.map V.bl
  | [], bs, _, .nil, h => by cases h; rfl
  | d :: r, bs, _, .cons h1 h2, h => by
    cases h1 with
    | bl b =>
      unfold bools at h
      obtain ⟨cs, e1, e2⟩ := Option.map_eq_some_iff.mp h
      subst e2
      rw [bools_ok h2 e1]; rfl
    | _ => cases h
theorem c_all (hc : X.calm = true) : CallD X (.builtin "all") allD := by
  intro pins s σ H xs us Q I r ⟨ds, z, B, ex, nt, i, eo, k⟩
  cases i with
  | nil => cases eo
  | cons i1 i2 =>
    cases i2 with
    | cons _ _ => cases i1 <;> cases eo
    | nil =>
      cases i1 with
      | lst h1 h2 =>
        obtain ⟨bs, e1, e2⟩ := Option.map_eq_some_iff.mp eo
        subst e2
        have := bools_ok h2 e1
        subst this
        exact cr_all hc pins s σ H _ us Q I r ⟨_, bs, rfl, .of (ex _ _ h1), k.at ex nt (.bl _)⟩
      | _ => cases eo
theorem c_any (hc : X.calm = true) : CallD X (.builtin "any") anyD := by
  intro pins s σ H xs us Q I r ⟨ds, z, B, ex, nt, i, eo, k⟩
  cases i with
  | nil => cases eo
  | cons i1 i2 =>
    cases i2 with
    | cons _ _ => cases i1 <;> cases eo
    | nil =>
      cases i1 with
      | lst h1 h2 =>
        obtain ⟨bs, e1, e2⟩ := Option.map_eq_some_iff.mp eo
        subst e2
        have := bools_ok h2 e1
        subst this
        exact cr_any hc pins s σ H _ us Q I r ⟨_, bs, rfl, .of (ex _ _ h1), k.at ex nt (.bl _)⟩
      | _ => cases eo
theorem c_max (hc : X.calm = true) : CallD X (.builtin "max") max2D := by
  intro pins s σ H xs us Q I r ⟨ds, z, B, ex, nt, i, eo, k⟩
  unfold max2D at eo
  split at eo
  · rename_i a b
    cases eo
    cases i with
    | cons i1 i2 =>
      cases i2 with
      | cons i2 i3 =>
        cases i3; cases i1; cases i2
        exact call_max2 hc pins s σ H _ us Q I r ⟨a, b, rfl, k.at ex nt (.int _)⟩
  · cases eo
theorem c_min (hc : X.calm = true) : CallD X (.builtin "min") min2D := by
  intro pins s σ H xs us Q I r ⟨ds, z, B, ex, nt, i, eo, k⟩
  unfold min2D at eo
  split at eo
  · rename_i a b
    cases eo
    cases i with
    | cons i1 i2 =>
      cases i2 with
      | cons i2 i3 =>
        cases i3; cases i1; cases i2
        exact call_min2 hc pins s σ H _ us Q I r ⟨a, b, rfl, k.at ex nt (.int _)⟩
  · cases eo
end
end DL

end
section
set_option Elab.async false
set_option linter.all false
set_option autoImplicit false
set_option maxRecDepth 100000
set_option maxHeartbeats 4000000
/-! The data layer, part 12: enumerate over a tuple. -/
namespace DL
open PySem PySem.Spec L2 NdefX
open PyProof.Rows (boot_enumerate Call_)
section
set_option maxHeartbeats 1000000 in
theorem meets_enum_begun {v : Value} {o : Obj} {H : Heap → Prop} (B : Begins v o H) :
    Meets (Builtin.«enumerate.__new__» ⟨[.type "enumerate", v], []⟩) (fun _ R s => H s.heap ∧
      R (.ok (.ret (.ref (s.heap.push o).objs.size))) { s with heap := (s.heap.push o).push { cls := .type "enumerate", data := .fields #[.none, .bool false, .ref s.heap.objs.size, rawInt 0, .none, .none] } }) :=
  .of_wp fun prog w A R s h => by
    obtain ⟨hp, g, d, tk, os⟩ := s; obtain ⟨h1, h⟩ := h
    have hsub := sub_enumerate
    have q1 : ∀ {A' : Around} {E : Value → Shared → Prop} {Q : Value → Shared → Prop}, Q (.ref hp.objs.size) ⟨hp.push o, g, d, tk, os⟩ → wpAny (model prog w) A' (pyIter v) Q E ⟨hp, g, d, tk, os⟩ :=
      fun q => B.iter prog w _ _ ⟨hp, g, d, tk, os⟩ _ h1 q
    wp_walk using q1
    refine wpAny_stack_any fun st => wpAny_pure ?_
    split
    · rename_i c _ _ _ _ _
      cases (c == Value.type "enumerate")
      · wp_walk using q1
        exact ⟨_, rfl, h⟩
      · wp_walk using q1
        exact ⟨_, rfl, h⟩
    · wp_walk using q1
      exact ⟨_, rfl, h⟩
variable {prog : Program} {w : World} {A : Around} {E : Value → Shared → Prop} {s : Shared}
theorem call_enum_begun {v : Value} {o : Obj} {H : Heap → Prop} {Q : Value → Shared → Prop} (B : Begins v o H) (h1 : H s.heap)
    (h : ∀ h', IsEnum h' (s.heap.objs.size + 1) s.heap.objs.size 0 .none → h'.get? s.heap.objs.size = some o →
      (∀ b o, s.heap.get? b = some o → h'.get? b = some o) → Q (.ref (s.heap.objs.size + 1)) { s with heap := h' }) :
    wpAny (model prog w) A (call (.type "enumerate") [v]) Q E s := by
  refine callType_new F.called_enumerate (by decide) (F.typeCall_enumerate_1 _) (F.newCall_enumerate_1 _) (fun obj => F.args_object_init_2 obj _) F.entry_enumerate_new
    (meets_enum_begun B) ⟨h1, ?_⟩
  have hz : (s.heap.push o).objs.size = s.heap.objs.size + 1 := Heap.size_push ..
  show _ ∧ _
  rw [hz]
  have he : IsEnum ((s.heap.push o).push { cls := .type "enumerate", data := .fields #[.none, .bool false, .ref s.heap.objs.size, rawInt 0, .none, .none] }) (s.heap.objs.size + 1) s.heap.objs.size 0 .none := by
    have := Heap.get?_push_size (s.heap.push o) (o := { cls := .type "enumerate", data := .fields #[.none, .bool false, .ref s.heap.objs.size, rawInt 0, .none, .none] }) rfl
    rw [hz] at this; exact this
  exact ⟨⟨_, he, rfl⟩, h _ he (Heap.get?_push_of_some _ (Heap.get?_push_size _ B.free)) fun b o x => Heap.get?_push_of_some _ (Heap.get?_push_of_some _ x)⟩
end
/-- the tuple at a, each item in a new pair -/
def Itet (K : PySem.W.Frag) (a : Addr) : It :=
  ⟨fun i H => ∃ (xs : List V) (x : V), SqT K H a xs ∧ xs[i]? = some x, fun i H v H' => ∃ T x, v = .ref T ∧ H T = none ∧ H' = upd H T (.tup [.int (i : Nat), x]) ∧ ∀ xs, SqT K H a xs → xs[i]? = some x, fun i H => ∃ xs : List V, SqT K H a xs ∧ xs.length ≤ i⟩
theorem iter_apart {h : Heap} {it a e : Addr} {i : Nat} {k : Int} {its : Array Value} {old : Value} (h1 : h.IsTupleIter it a i) (h2 : h.IsTuple a its) (h3 : IsEnum h e it k old) : a ≠ it ∧ e ∉ [it, a] := by
  obtain ⟨o, ho, hc, _⟩ := h1
  obtain ⟨p, hp, pc, _⟩ := h2
  have e1 : a ≠ it := fun z => by rw [z, ho] at hp; cases hp; rw [hc] at pc; injection pc with z2; exact absurd z2 (by decide)
  have e2 : e ≠ it := fun z => by
    have h3' : h.get? e = some _ := h3
    rw [z, ho] at h3'; cases h3'; injection hc with z2; exact absurd z2 (by decide)
  have e3 : e ≠ a := fun z => by
    have h3' : h.get? e = some _ := h3
    rw [z, hp] at h3'; cases h3'; injection pc with z2; exact absurd z2 (by decide)
  exact ⟨e1, by simp [e2, e3]⟩
theorem turn_enumT {P : Program} {w : World} {K : PySem.W.Frag} {elts : List Expr} {kk : Nat} {tpos : Pos} (a e it : Addr) :
    Turn P w K (.Tuple elts kk tpos) (Itet K a) [e, it] e (fun i h => (∃ old, IsEnum h e it ((i : Nat) : Int) old) ∧ h.IsTupleIter it a i ∧ e ≠ it) where
  mem := by simp
  obj := fun i h st b hb => by
    obtain ⟨⟨old, he⟩, ⟨o, ho, hc, hd⟩, _⟩ := st
    have e' : b = e ∨ b = it := by simpa using hb
    rcases e' with z | z
    · rw [z]; exact ⟨_, he, fun v q => nomatch q⟩
    · rw [z]; exact ⟨o, ho, fun v q => by rw [hd] at q; cases q⟩
  keep := fun i h h' st k => let ⟨⟨old, he⟩, hi, hne⟩ := st; ⟨⟨old, k e (by simp) _ he⟩, hi.at fun o q => k it (by simp) o q, hne⟩
  item := by
    intro X hP hw hK hc i pins s σ H E I hf st hg
    subst hP hw hK
    obtain ⟨⟨old, he⟩, hit, hne⟩ := st
    obtain ⟨xs, x, hq, hx⟩ := hg
    obtain ⟨its, rv, p, hz⟩ := I.tuple hq
    obtain ⟨u, hu, ru⟩ := rv.get hx
    have hel : e < s.heap.objs.size := Heap.lt_size he
    have hil : it < s.heap.objs.size := by obtain ⟨_, q, _⟩ := hit; exact Heap.lt_size q
    have pt : s.heap.IsTuple a its.toArray := p
    obtain ⟨d1, d2⟩ := iter_apart hit pt he
    have lt : i < its.toArray.size := by
      have := (List.getElem?_eq_some_iff.mp hu).1
      simpa using this
    refine wpAny_pyNext_enum_itemD (Draws.tuple (A := X.A.in1) (by have := I.ok.hd hc; exact this) it a d1 its.toArray) he ⟨hit, pt⟩ lt hne d2 fun y h' tk hy ho hit' hT hsz hk => ?_
    have ey : y = u := by
      have hu' : its.toArray[i]? = some u := by simpa using hu
      rw [hu'] at hy; cases hy; rfl
    subst ey
    refine ⟨_, rfl, wpAny_letOwnedTupleGo_enum (s := { s with heap := h', toks := tk + 1 }) ho fun h'' he' sb => ?_⟩
    have hT2 : h''.get? s.heap.objs.size = some { cls := .type "tuple", data := .seq #[.int i tk, y] } := (sb.2 _ (Nat.ne_of_gt hel)).trans hT
    have new : ObjOk X.prog X.w (upd H s.heap.objs.size (.tup [.int (i : Nat), x])) h'' s.heap.objs.size (.tup [.int (i : Nat), x]) :=
      ⟨by show 2 ≤ sizeLine; decide, [.int i tk, y], .cons ⟨_, rfl⟩ (.cons ru .nil), ⟨_, hT2, rfl, _, rfl⟩⟩
    have I1 : Inv X pins σ (upd H s.heap.objs.size (.tup [.int (i : Nat), x])) { s with heap := h'', toks := tk + 1 } :=
      I.turnedNew (ch := [e, it]) (fun b ob hb q => (sb.2 b (fun z => hb (by simp [z]))).trans (hk b ob (fun z => hb (by simp [z])) (fun z => hb (by simp [z])) q)) hf (Nat.le_refl _) new
    refine ⟨.ref s.heap.objs.size, _, I1, rfl, ⟨_, x, rfl, I.hok.fresh (Nat.le_refl _), rfl, fun ys hy => by rw [I.tuple_inj hy hq]; exact hx⟩, ⟨⟨y, ?_⟩, hit'.1.at fun o q => (sb.2 it (Ne.symm hne)).trans q, hne⟩, fun b hb => ?_⟩
    · have e1 : ((i + 1 : Nat) : Int) = (i : Int) + 1 := by omega
      rw [e1]; exact he'
    · have hb' : b < s.heap.objs.size := by
        have e' : b = e ∨ b = it := by simpa using hb
        rcases e' with z | z
        · rw [z]; exact hel
        · rw [z]; exact hil
      rw [upd_ne (Nat.ne_of_lt hb')]
      exact (hf b hb).1
  done := by
    intro X hP hw hK hc i pins s σ H E I hf st hg
    subst hP hw hK
    obtain ⟨⟨old, he⟩, hit, hne⟩ := st
    obtain ⟨xs, hq, hx⟩ := hg
    obtain ⟨its, rv, p, hz⟩ := I.tuple hq
    obtain ⟨f0, f1, f2, f3, f4, f5⟩ := hf it (by simp)
    have pt : s.heap.IsTuple a its.toArray := p
    have hl := rv.length
    have hh : X.A.handled = none := I.ok.hd hc
    exact wpAny_pyNext_enum_endD (n := i) (fp := [it, a]) (P := fun i v => its.toArray[i]? = some v) (St := fun j h => j = i ∧ h.IsTupleIter it a i ∧ h.IsTuple a its.toArray)
      ⟨fun _ _ st => (by obtain ⟨_, ⟨o, ho, _⟩, _⟩ := st; exact ⟨o, ho⟩), fun _ _ _ st hk => ⟨st.1, st.2.1.at fun o e => hk it (by simp) o e, st.2.2.at fun o e => hk a (by simp) o e⟩, fun j s Q E hj st _ => absurd st.1 (Nat.ne_of_lt hj), fun s Q E st hE => wpAny_nextOf_tuple_end hh st.2.1 st.2.2 (by simp; omega) hE⟩
      he ⟨rfl, hit, pt⟩ fun h' eb => ⟨rfl, I.turned (t' := s.toks) (fun b o hb q => eb b o hb q) f0 f1 f3 f4 f5⟩
  self := fun A i s Q E st h => let ⟨⟨_, he⟩, _⟩ := st; wpAny_pyIter_enum he h
def iEnumT (K : PySem.W.Frag) (ta : TA) : TI := fun σ H R => ta σ H fun vs H1 => ∃ a xs, vs = [.ref a] ∧ SqT K H1 a xs ∧ R (Itet K a) H1
theorem pi_enumT {X : Cx} {e : Expr} {ta : TA} {p pos tpos : Pos} {elts : List Expr} {kk : Nat} (hg : Gl X "enumerate") (hm : X.mg "enumerate" = none) (ha : PA X [e] ta) (hs : starEach [e] X.env = [(false, eval e X.env)] := by rfl) :
    PI X (.Tuple elts kk tpos) (.Call (.Name "enumerate" p) [e] [] pos) (iEnumT X.K ta) := by
  refine ⟨fun pins s σ H R I h => ?_⟩
  refine Call_ (ld_blt I hg hm boot_enumerate (PyProof.Rows.callWith_type1 (thn (ha.run pos pins s σ H _ I h) fun us s1 ⟨vs, H1, I1, r1, q1⟩ => ?_) hs rfl))
  obtain ⟨a, xs, ex, hq, q⟩ := q1
  subst ex
  cases r1 with
  | cons r rr =>
    cases rr
    cases r
    obtain ⟨its, rv, p', hz⟩ := I1.tuple hq
    refine call_enum_begun (begins_tuple a its.toArray) (show s1.heap.IsTuple a its.toArray from p') fun h' he ho hk => wpAny_pyIter_enum he ?_
    have I2 : Inv X pins σ H1 { s1 with heap := h' } := I1.kept (t' := s1.toks) hk
    refine ⟨s1.heap.objs.size + 1, [s1.heap.objs.size + 1, s1.heap.objs.size], _, _, H1, rfl, I2, turn_enumT a (s1.heap.objs.size + 1) s1.heap.objs.size, ⟨⟨.none, he⟩, ⟨_, ho, rfl, rfl⟩, Nat.succ_ne_self _⟩, fun b hb => ?_, q⟩
    have e' : b = s1.heap.objs.size + 1 ∨ b = s1.heap.objs.size := by simpa using hb
    have hle : s1.heap.objs.size ≤ b := by
      rcases e' with z | z
      · rw [z]; exact Nat.le_add_right _ _
      · rw [z]; exact Nat.le_refl _
    exact I1.fpOk hle (I1.hok.fresh hle)
theorem walks_enumT {K : PySem.W.Frag} {B : Hp} {a : Addr} {xs : List V} {l : List D} (h : SqT K B a xs) (i : IsAll K B xs l) : Walks K (Itet K a) B ((List.range l.length).zipWith (fun i d => .tup [.int (i : Nat), d]) l) where
  go := fun j H' e h1 => by
    have q : j < xs.length := by rw [i.length]; simpa using h1
    exact ⟨xs, xs[j], e.t h, by simp [q]⟩
  stop := fun H' e => ⟨xs, e.t h, by rw [i.length]; simp⟩
  yld := fun j H' B' x H'' d h1 h2 h3 y e => by
    obtain ⟨T, x0, rfl, hT, rfl, y⟩ := y
    have hl : ∃ d0, l[j]? = some d0 ∧ d = .tup [.int (j : Nat), d0] := by
      rw [List.getElem?_zipWith] at e
      cases q : l[j]? with
      | none => rw [q] at e; cases q2 : (List.range l.length)[j]? <;> rw [q2] at e <;> cases e
      | some d0 =>
        have lt := (List.getElem?_eq_some_iff.mp q).1
        rw [q, List.getElem?_range lt] at e
        cases e
        exact ⟨d0, rfl, rfl⟩
    obtain ⟨d0, hd, rfl⟩ := hl
    obtain ⟨v, hv, iv⟩ := i.get hd
    have q := y xs ((h1.trans h2).t h)
    rw [hv] at q; cases q
    exact ⟨_, .new h2 h3 hT (fun _ q => nomatch q), .tup (.of upd_same) (.cons (.int _) (.cons ((iv.mono h1).mono (exUpd h2 hT)) .nil))⟩
def enumT : List D → Option (List D)
  | [.tup l] => some ((List.range l.length).zipWith (fun i d => .tup [.int (i : Nat), d]) l)
  | _ => none
section
variable {T : List NTab} {W : St → XK} {X : Cx} {p pos tpos : Pos}
theorem ei_enumT {a : Expr} {elts : List Expr} {kk : Nat} {g : M (List D)} (hm : X.mg "enumerate" = none) (ha : EAD T W X [a] g) (hg : Gl X "enumerate" := by rfl) (hs : starEach [a] X.env = [(false, eval a X.env)] := by rfl) : EI T W X (.Tuple elts kk tpos) (.Call (.Name "enumerate" p) [a] [] pos) (mItemsN enumT g) :=
  pi_imp (pi_enumT hg hm ha hs) fun σ H R ⟨ρ, B, Fs, s, q⟩ => ibAD s q fun vs ds ρ1 H1 B1 Fs1 l s1 i1 el k => by
    unfold enumT at el
    split at el
    · rename_i m
      cases el
      cases i1 with
      | cons i1 i2 =>
        cases i2
        cases i1 with
        | tup h1 h2 => exact ⟨_, _, rfl, s1.ex.t h1, k _ (walks_enumT h1 h2)⟩
    · cases el
end
end DL

end
section
set_option Elab.async false
set_option linter.all false
set_option autoImplicit false
set_option maxRecDepth 100000
set_option maxHeartbeats 4000000
/-! The data layer, part 13: calls of built-ins, methods of texts, subscripts, f-strings, chains, displays. -/
namespace DL
open PySem PySem.Spec L2 NdefX
section
variable {T : List NTab} {IO : List Nat} {W : St → XK} {X : Cx} {a b c e o lo hi : Expr} {es rest : List Expr} {pos p p2 apos py : Pos} {ga gb gc : M D} {go_ : M Sl} {x m fl y : Str}
theorem ed_callB {id : String} {op : List D → Option D} {g : M (List D)} (hc : CallD X (.builtin id) op) (hm : X.mg x = none) (hv : bootBuiltins x = some (.builtin id)) (ha : EAD T W X (e :: es) g) (hg : Gl X x := by rfl) (hn : x ≠ "__name__" := by decide) (hdb : (x == ("__debug__" : Str)) = false := by decide)
    (he : starEach (e :: es) X.env = (false, eval e X.env) :: starEach es X.env := by rfl) (hpl : (backTo pos (starEach es X.env)).any (·.1) = false := by rfl) : ED T W X (.Call (.Name x p) (e :: es) [] pos) (mOpN op g) :=
  pe_imp (pe_callB hc hg hm hv ha hn hdb he hpl) fun σ H Q ⟨ρ, B, Fs, s, h⟩ => bindAD pl_D s h fun vs ds ρ1 H1 B1 Fs1 s1 i1 st h =>
    let ⟨z, e, k⟩ := PCt.of s1 h
    ⟨ds, z, B1, s1.ex, s1.noT, i1, e, k⟩
theorem ed_callTy {n : String} {op : List D → Option D} {g : M (List D)} (hc : CallD X (.type n) op) (hm : X.mg x = none) (hv : bootBuiltins x = some (.type n)) (ha : EAD T W X (e :: es) g) (hg : Gl X x := by rfl) (hn : x ≠ "__name__" := by decide) (hdb : (x == ("__debug__" : Str)) = false := by decide)
    (he : starEach (e :: es) X.env = (false, eval e X.env) :: starEach es X.env := by rfl) (hpl : (backTo pos (starEach es X.env)).any (·.1) = false := by rfl) : ED T W X (.Call (.Name x p) (e :: es) [] pos) (mOpN op g) :=
  pe_imp (pe_callTy hc hg hm hv ha hn hdb he hpl) fun σ H Q ⟨ρ, B, Fs, s, h⟩ => bindAD pl_D s h fun vs ds ρ1 H1 B1 Fs1 s1 i1 st h =>
    let ⟨z, e, k⟩ := PCt.of s1 h
    ⟨ds, z, B1, s1.ex, s1.noT, i1, e, k⟩
theorem eo_callTy {n : String} {op : List D → Option Sl} {g : M (List D)} (hc : CallO X (.type n) op) (hm : X.mg x = none) (hv : bootBuiltins x = some (.type n)) (ha : EAD T W X (e :: es) g) (hg : Gl X x := by rfl) (hn : x ≠ "__name__" := by decide) (hdb : (x == ("__debug__" : Str)) = false := by decide)
    (he : starEach (e :: es) X.env = (false, eval e X.env) :: starEach es X.env := by rfl) (hpl : (backTo pos (starEach es X.env)).any (·.1) = false := by rfl) : EO T W X (.Call (.Name x p) (e :: es) [] pos) (mOpNO op g) :=
  pe_imp (pe_callTy hc hg hm hv ha hn hdb he hpl) fun σ H Q ⟨ρ, B, Fs, s, h⟩ => bindAD pl_O s h fun vs ds ρ1 H1 B1 Fs1 s1 i1 st h =>
    let ⟨z, e, k⟩ := POt.of s1 h
    ⟨ds, z, B1, s1.ex, s1.noT, i1, e, k⟩
/-- x[i] -/
theorem ed_ix {f : D → D → Option D} (hr : IxD X f) (ha : ED T W X a ga) (hb : ED T W X b gb) (hs : PlainIx b) : ED T W X (.Subscript a b pos) (mOp2 f ga gb) :=
  pe_imp (pe_ix hr ha hb hs) fun σ H Q ⟨ρ, B, Fs, s, h⟩ => bindD pl_D s h fun v d ρ1 H1 B1 Fs1 s1 i1 st1 h => bindD pl_D s1 h fun w d2 ρ2 H2 B2 Fs2 s2 i2 st2 h =>
    let ⟨z, e, k⟩ := PCt.of s2 h
    ⟨d, d2, z, B2, s2.ex, s2.noT, i1.mono st2.ex, i2, e, k⟩
def ixD : D → D → Option D
  | .lst l, .int i => atI l i
  | .tup l, .int i => atI l i
  | .str z, .int i => if lineOk z.length then (atI z.cps.toList i).map fun c => .str ⟨#[c]⟩ else none
  | _, _ => none
theorem atI_get {K : PySem.W.Frag} {B : Hp} {xs : List V} {l : List D} {i : Int} {d : D} (h : IsAll K B xs l) (e : atI l i = some d) : ∃ v, atI xs i = some v ∧ Is K B v d := by
  unfold atI at e ⊢
  rw [h.length]
  cases q : ixN l.length i with
  | none => rw [q] at e; cases e
  | some j =>
    rw [q] at e
    obtain ⟨v, h1, h2⟩ := h.get (show l[j]? = some d from e)
    exact ⟨v, h1, h2⟩
theorem i_seq : IxD X ixD := by
  intro value slice pins s σ H x y v u Q I rx ry ⟨d, e, z, B, ex, nt, i1, i2, eo, k⟩ hs
  cases i2 with
  | int i =>
    cases i1 with
    | lst h1 h2 =>
      obtain ⟨w, e1, e2⟩ := atI_get h2 eo
      exact ix_seq value slice pins s σ H _ _ v u Q I rx ry (.inl ⟨_, _, i, w, rfl, rfl, .of (ex _ _ h1), e1, k.at ex nt e2⟩) hs
    | tup h1 h2 =>
      obtain ⟨w, e1, e2⟩ := atI_get h2 eo
      exact ix_seq value slice pins s σ H _ _ v u Q I rx ry (.inr (.inl ⟨_, _, i, w, rfl, rfl, ex.t h1, e1, k.at ex nt e2⟩)) hs
    | str zz =>
      dsimp only [ixD] at eo
      split at eo
      · rename_i hl
        obtain ⟨c, e1, e2⟩ := Option.map_eq_some_iff.mp eo
        subst e2
        exact ix_seq value slice pins s σ H _ _ v u Q I rx ry (.inr (.inr ⟨zz, i, c, rfl, rfl, lineOk_le hl, e1, k.at ex nt (.str _)⟩)) hs
      · cases eo
    | _ => cases eo
  | _ => cases i1 <;> cases eo
/-- x[lo:hi] -/
abbrev POm (T : List NTab) (W : St → XK) (X : Cx) (e : Option Expr) (g : M (Option Int)) : Prop := PO X e (fun σ H Q => ∃ ρ B Fs, SR T X.K ρ σ H B Fs ∧ match g ρ with
  | .ok i ρ' => ∀ H' B' Fs', SR T X.K ρ' σ H' B' Fs' → Step H B (Own Fs) H' B' (Own Fs') → Q i H'
  | .exc c fs ρ' => postX T X.K (W σ) c fs ρ' σ H B (Own Fs)
  | .fail => False)
def asI : D → Option Int
  | .int i => some i
  | _ => none
def mNoPart : M (Option Int) := M.pure none
def mPart (g : M D) : M (Option Int) := M.bind g fun d => M.bind (M.of (asI d)) fun i => M.pure (some i)
theorem po_imp {eo : Option Expr} {t t' : TO} (h : PO X eo t) (i : ∀ σ H Q, t' σ H Q → t σ H Q) : PO X eo t' := ⟨fun pins s σ H Q I q => h.run pins s σ H Q I (i _ _ _ q)⟩
theorem pom_none : POm T W X none mNoPart := po_imp po_none fun σ H Q ⟨ρ, B, Fs, s, h⟩ => h H B Fs s .refl
theorem pom_some (h : ED T W X e ga) : POm T W X (some e) (mPart ga) := po_imp (po_some h) fun σ H Q ⟨ρ, B, Fs, s, q⟩ => by
  refine ⟨ρ, B, Fs, s, ?_⟩
  unfold mPart M.bind at q
  cases eg : ga ρ with
  | fail => rw [eg] at q; exact q.elim
  | exc c fs ρ' => rw [eg] at q; exact q
  | ok d ρ1 =>
    rw [eg] at q
    intro v H' B' Fs' s1 i1 st
    cases i1 with
    | int i => exact ⟨i, rfl, q H' B' Fs' s1 st⟩
    | _ => exact q.elim
def mSl (f : D → Option Int → Option Int → Option D) (g : M D) (l h : M (Option Int)) : M D := M.bind g fun d => M.bind l fun i => M.bind h fun j => M.of (f d i j)
def cutD (xs : List D) (lo hi : Option Int) : List D := (xs.drop (HT.sIx xs.length 0 lo)).take (HT.sIx xs.length xs.length hi - HT.sIx xs.length 0 lo)
def slD : D → Option Int → Option Int → Option D
  | .lst l, i, j => some (.lst (cutD l i j))
  | .sq l, i, j => some (.lst (cutD l i j))
  | .tup l, i, j => some (.tup (cutD l i j))
  | .str z, i, j => if lineOk z.length then some (.str (cutS z i j)) else none
  | _, _, _ => none
def slO : D → Option Int → Option Int → Option Sl
  | .lst l, i, j => some (.ol ((cutD l i j).map .d))
  | _, _, _ => none
theorem cut_is {K : PySem.W.Frag} {B : Hp} {xs : List V} {l : List D} (h : IsAll K B xs l) (i j : Option Int) : IsAll K B (cutV xs i j) (cutD l i j) := by
  unfold cutV cutD
  rw [h.length]
  exact (h.drop _).take _
theorem cut_whole {l : List D} {i j : Option Int} (h : HT.sIx l.length 0 i = 0 ∧ HT.sIx l.length l.length j = l.length) : cutD l i j = l := by
  unfold cutD
  rw [h.1, h.2]; simp
theorem bindP {β : Type} {K : PySem.W.Frag} {ρ : DL.Env} {σ : St} {H B : Hp} {Fs : Nat → List Addr} {P : Res β → Hp → Hp → (Addr → Prop) → Prop} (p : PostLike T K (W σ) σ P) {g : M (Option Int)} {k : Option Int → M β} {Q : Option Int → Hp → Prop} (s : SR T K ρ σ H B Fs) (h : P (M.bind g k ρ) H B (Own Fs))
    (go : ∀ i ρ1 H1 B1 Fs1, SR T K ρ1 σ H1 B1 Fs1 → Step H B (Own Fs) H1 B1 (Own Fs1) → P (k i ρ1) H1 B1 (Own Fs1) → Q i H1) : ∃ ρ B Fs, SR T K ρ σ H B Fs ∧ match g ρ with
  | .ok i ρ' => ∀ H' B' Fs', SR T K ρ' σ H' B' Fs' → Step H B (Own Fs) H' B' (Own Fs') → Q i H'
  | .exc c fs ρ' => postX T K (W σ) c fs ρ' σ H B (Own Fs)
  | .fail => False := by
  refine ⟨ρ, B, Fs, s, ?_⟩
  unfold M.bind at h
  cases e : g ρ with
  | ok i ρ1 =>
    rw [e] at h
    exact fun H' B' Fs' h1 h3 => go i ρ1 H' B' Fs' h1 h3 (p.from_ h3 h)
  | exc c fs ρ1 => rw [e] at h; exact p.exc h
  | fail => rw [e] at h; exact (p.fail h).elim
theorem sl_all : SlR X (fun x lo hi H Q => rSlL X.K x lo hi H Q ∨ rSlA X.K x lo hi H Q ∨ rSlS x lo hi H Q) := SlR.or sl_list (SlR.or sl_tupA sl_str)
theorem ed_slice {gl gh : M (Option Int)} {elo ehi : Option Expr} (he : ED T W X e ga) (hl : POm T W X elo gl) (hu : POm T W X ehi gh) : ED T W X (.Subscript e (.Slice elo ehi none p2) pos) (mSl slD ga gl gh) :=
  pe_imp (pe_slice sl_all he hl hu) fun σ H Q ⟨ρ, B, Fs, s, h⟩ => bindD pl_D s h fun v d ρ1 H1 B1 Fs1 s1 i1 st1 h => bindP pl_D s1 h fun i ρ2 H2 B2 Fs2 s2 st2 h => bindP pl_D s2 h fun j ρ3 H3 B3 Fs3 s3 st3 h => by
    obtain ⟨z, eo, k⟩ := PCt.of s3 h
    have i3 := (i1.mono st2.ex).mono st3.ex
    cases i3 with
    | lst h1 h2 => cases eo; exact .inl ⟨_, _, rfl, .of (s3.ex _ _ h1), fun p hp => k.lst s3.ex s3.noT (cut_is h2 i j) hp⟩
    | sq h1 h2 => cases eo; exact .inl ⟨_, _, rfl, s3.ex.l h1, fun p hp => k.lst s3.ex s3.noT (cut_is h2 i j) hp⟩
    | tup h1 h2 =>
      cases eo
      refine .inr (.inl ⟨_, _, rfl, s3.ex.t h1, fun w => ?_, fun _ p hp => k.tup s3.ex s3.noT (cut_is h2 i j) hp⟩)
      rw [h2.length] at w
      rw [cut_whole w] at k
      exact k.at s3.ex s3.noT (.tup h1 h2)
    | str zz =>
      dsimp only [slD] at eo
      split at eo
      · rename_i hl; cases eo; exact .inr (.inr ⟨zz, rfl, lineOk_le hl, k.at s3.ex s3.noT (.str _)⟩)
      · cases eo
    | _ => cases eo
theorem eo_slice {gl gh : M (Option Int)} {elo ehi : Option Expr} (he : ED T W X e ga) (hl : POm T W X elo gl) (hu : POm T W X ehi gh) : EO T W X (.Subscript e (.Slice elo ehi none p2) pos) (M.bind ga fun d => M.bind gl fun i => M.bind gh fun j => M.of (slO d i j)) :=
  pe_imp (pe_slice sl_all he hl hu) fun σ H Q ⟨ρ, B, Fs, s, h⟩ => bindD pl_O s h fun v d ρ1 H1 B1 Fs1 s1 i1 st1 h => bindP pl_O s1 h fun i ρ2 H2 B2 Fs2 s2 st2 h => bindP pl_O s2 h fun j ρ3 H3 B3 Fs3 s3 st3 h => by
    obtain ⟨z, eo, k⟩ := POt.of s3 h
    have i3 := (i1.mono st2.ex).mono st3.ex
    cases i3 with
    | lst h1 h2 => cases eo; exact .inl ⟨_, _, rfl, .of (s3.ex _ _ h1), fun p hp => k.lst' s3.ex s3.noT (cut_is h2 i j) hp⟩
    | _ => cases eo
/-! ### methods of texts -/
def MtD1 (X : Cx) (id : String) (op : D → D → Option D) : Prop := MtR X id fun x xs H Q => ∃ y d e z B, xs = [y] ∧ Ex B H ∧ NoT B ∧ Is X.K B x d ∧ Is X.K B y e ∧ op d e = some z ∧ PCt X.K B H z Q
def textsOf : List D → Option (List Str)
  | [] => some []
  | .str x :: r => (textsOf r).map (x :: ·)
  | _ => none
theorem textsOf_ok {K : PySem.W.Frag} {B : Hp} : ∀ {l : List D} {ys : List Str} {xs : List V}, IsAll K B xs l → textsOf l = some ys → xs = ys.map V.str
  | [], ys, _, .nil, h => by cases h; rfl
  | d :: r, ys, _, .cons h1 h2, h => by
    cases h1 with
    | str b =>
      unfold textsOf at h
      obtain ⟨cs, e1, e2⟩ := Option.map_eq_some_iff.mp h
      subst e2
      rw [textsOf_ok h2 e1]; rfl
    | _ => cases h
def joinD : D → D → Option D
  | .str a, .lst l => (textsOf l).bind fun ys => if (ys.map (·.length)).sum + ys.length * a.length ≤ 16777216 then some (.str (Txt.join a ys)) else none
  | _, _ => none
def splitD : D → D → Option D
  | .str a, .str b => if (b.length == 0) = false ∧ lineOk (a.length + 2) then some (.lst ((Txt.split a b).map .str)) else none
  | _, _ => none
theorem t_join : MtD1 X "str.join" joinD := by
  intro pins s σ H x xs v us Q I rx rs ⟨y, d, e, z, B, ex, ee, nt, i1, i2, eo, k⟩
  subst ex
  cases i1 with
  | str a =>
    cases i2 with
    | lst h1 h2 =>
      dsimp only [joinD] at eo
      obtain ⟨ys, e1, e2⟩ := Option.bind_eq_some_iff.mp eo
      split at e2
      · rename_i hz
        cases e2
        have := textsOf_ok h2 e1
        subst this
        exact mt_join pins s σ H _ _ v us Q I rx rs ⟨a, _, ys, rfl, rfl, .inl (.of (ee _ _ h1)), hz, k.at ee nt (.str _)⟩
      · cases e2
    | _ => cases eo
  | _ => cases eo
theorem t_split : MtD1 X "str.split" splitD := by
  intro pins s σ H x xs v us Q I rx rs ⟨y, d, e, z, B, ex, ee, nt, i1, i2, eo, k⟩
  subst ex
  cases i1 with
  | str a =>
    cases i2 with
    | str b =>
      dsimp only [splitD] at eo
      split at eo
      · rename_i hz
        cases eo
        exact mt_split pins s σ H _ _ v us Q I rx rs ⟨a, b, rfl, rfl, hz.1, lineOk_le hz.2, fun p hp => k.lst ee nt IsAll.texts hp⟩
      · cases eo
    | _ => cases eo
  | _ => cases eo
def mMt1 (f : D → D → Option D) (ga gb : M D) : M D := M.bind ga fun d => match d with
  | .str _ => M.bind gb fun e => M.of (f d e)
  | _ => fun _ => .fail
theorem ed_mt1 {id : String} {f : D → D → Option D} (slot : Slot "str" m id) (ty : typeOf (.builtin id) = pure (.type "method_descriptor")) (rule : MtD1 X id f) (ho : ED T W X o ga) (he : ED T W X e gb)
    (hs : starEach [e] X.env = [(false, eval e X.env)] := by rfl) (hbase : attributeBase o m X.env (eval o X.env) = eval o X.env := by rfl) (hline : (apos.endLine == pos.line) = true := by rfl) :
    ED T W X (.Call (.Attribute o m apos) [e] [] pos) (mMt1 f ga gb) :=
  pe_imp (pe_m1 slot ty rule ho he hs hbase hline) fun σ H Q ⟨ρ, B, Fs, s, h⟩ => bindD pl_D s h fun v d ρ1 H1 B1 Fs1 s1 i1 st1 h => by
    cases i1 with
    | str a =>
      exact ⟨⟨a, rfl⟩, bindD pl_D s1 h fun w d2 ρ2 H2 B2 Fs2 s2 i2 st2 h =>
        let ⟨z, e, k⟩ := PCt.of s2 h
        ⟨w, .str a, d2, z, B2, rfl, s2.ex, s2.noT, .str a, i2, e, k⟩⟩
    | _ => exact h.elim
/-! ### chains of comparisons -/
def mChain (f f' : D → D → Option D) (ga gb gc : M D) : M D := M.bind ga fun x => M.bind gb fun y => M.bind (M.of (f x y)) fun z => M.bind (M.of (asB z)) fun k => if k = true then M.bind gc fun w => M.of (f' y w) else M.pure (.bl false)
def pureCmp (f : D → D → Option D) : Prop := ∀ x y z, f x y = some z → ∃ b, z = .bl b
theorem ed_chain {op op' : CmpOp} {f f' : D → D → Option D} (h1 : OpD X (compareOp op) f) (h2 : OpD X (compareOp op') f') (ha : ED T W X a ga) (hb : ED T W X b gb) (hc : ED T W X c gc)
    (hm : lastMarks [op, op'] [b, c] = false := by with_unfolding_all rfl) : ED T W X (.Compare a [op, op'] [b, c] pos) (mChain f f' ga gb gc) :=
  pe_imp (pe_chain h1 h2 ha hb hc hm) fun σ H Q ⟨ρ, B, Fs, s, h⟩ => bindD pl_D s h fun v d ρ1 H1 B1 Fs1 s1 i1 st1 h => bindD pl_D s1 h fun w d2 ρ2 H2 B2 Fs2 s2 i2 st2 h => by
    cases q : f d d2 with
    | none => rw [q] at h; exact h.elim
    | some z =>
      rw [q] at h
      refine ⟨d, d2, z, B2, s2.ex, s2.noT, i1.mono st2.ex, i2, q, fun v2 H' B' g i => ?_⟩
      cases i with
      | bl k =>
        refine ⟨k, rfl, ?_⟩
        have s3 := s2.grow g
        have h3 := postD.from (F1 := Own Fs2) (g.step (F := Own Fs2)) h
        cases k with
        | true =>
          rw [if_pos rfl]
          refine bindD pl_D s3 (show postD T X.K (W σ) (M.bind gc (fun w => M.of (f' d2 w)) ρ2) σ H' B' (Own Fs2) Q from h3) fun u d3 ρ4 H4 B4 Fs4 s4 i4 st4 h => ?_
          obtain ⟨z, e, kk⟩ := PCt.of s4 h
          exact ⟨d2, d3, z, B4, s4.ex, s4.noT, (i2.mono g.exB).mono st4.ex, i4, e, kk⟩
        | false =>
          rw [if_neg Bool.false_ne_true]
          exact h3 (.bl false) H' B' Fs2 s3 (.bl _) .refl
      | _ => exact h.elim
theorem et_chain {op op' : CmpOp} {f f' : D → D → Option D} (h1 : OpD X (compareOp op) f) (h2 : OpD X (compareOp op') f') (ha : ED T W X a ga) (hb : ED T W X b gb) (hc : ED T W X c gc)
    (hm : lastMarks [op, op'] [b, c] = false := by with_unfolding_all rfl) : ET T W X (.Compare a [op, op'] [b, c] pos) (mTest (mChain f f' ga gb gc)) := by
  refine pt_imp (pt_chain h1 h2 ha hb hc hm) fun σ H Q ⟨ρ, B, Fs, s, h⟩ => ?_
  have key : tD T X.K W (mChain f f' ga gb gc) σ H fun v H1 => ∃ k, v = .bl k ∧ Q k H1 := bindD pl_T s h fun v d ρ1 H1 B1 Fs1 s1 i1 st1 h => by
    cases d with
    | bl k => cases i1; exact ⟨k, rfl, h H1 B1 Fs1 s1 .refl⟩
    | _ => exact (show False from h).elim
  obtain ⟨ρ, B, Fs, s, h⟩ := key
  exact bindD pl_D s h fun v d ρ1 H1 B1 Fs1 s1 i1 st1 h => bindD pl_D s1 h fun w d2 ρ2 H2 B2 Fs2 s2 i2 st2 h => by
    cases q : f d d2 with
    | none => rw [q] at h; exact h.elim
    | some z =>
      rw [q] at h
      refine ⟨d, d2, z, B2, s2.ex, s2.noT, i1.mono st2.ex, i2, q, fun v2 H' B' g i => ?_⟩
      cases i with
      | bl k =>
        refine ⟨k, rfl, ?_⟩
        have s3 := s2.grow g
        have h3 := postD.from (F1 := Own Fs2) (g.step (F := Own Fs2)) h
        cases k with
        | true =>
          rw [if_pos rfl]
          refine bindD pl_D s3 (show postD T X.K (W σ) (M.bind gc (fun w => M.of (f' d2 w)) ρ2) σ H' B' (Own Fs2) _ from h3) fun u d3 ρ4 H4 B4 Fs4 s4 i4 st4 h => ?_
          obtain ⟨z, e, kk⟩ := PCt.of s4 h
          exact ⟨d2, d3, z, B4, s4.ex, s4.noT, (i2.mono g.exB).mono st4.ex, i4, e, kk⟩
        | false =>
          rw [if_neg Bool.false_ne_true]
          exact h3 (.bl false) H' B' Fs2 s3 (.bl _) .refl
      | _ => exact h.elim
end
end DL

end
section
set_option Elab.async false
set_option linter.all false
set_option autoImplicit false
set_option maxRecDepth 100000
set_option maxHeartbeats 4000000
/-! The data layer, part 14: f-strings, starred displays, dict displays, isinstance, comprehensions that are assigned. -/
namespace DL
open PySem PySem.Spec L2 NdefX
section
variable {T : List NTab} {IO : List Nat} {W : St → XK} {X : Cx} {a b c e o lo hi : Expr} {es rest : List Expr} {pos p p2 apos py : Pos} {ga gb gc : M D} {go_ : M Sl} {x m fl y : Str}
/-! ### f-strings -/
def fmtD : D → Option D
  | .str y => if lineOk y.length then some (.str y) else none
  | .int i => if bits i < 1920 then some (.str (toString i)) else none
  | _ => none
theorem ed_fmt (h : ED T W X e ga) : ED T W X (.FormattedValue e (-1) none pos) (mOp1 fmtD ga) :=
  pe_imp (pe_fmt h) fun σ H Q ⟨ρ, B, Fs, s, h⟩ => bindD pl_D s h fun v d ρ1 H1 B1 Fs1 s1 i1 st1 h => by
    obtain ⟨z, eo, k⟩ := PCt.of s1 h
    cases i1 with
    | str y =>
      dsimp only [fmtD] at eo
      split at eo
      · rename_i hl; cases eo; exact .inl ⟨y, rfl, lineOk_le hl, k.at s1.ex s1.noT (.str _)⟩
      · cases eo
    | int i =>
      dsimp only [fmtD] at eo
      split at eo
      · rename_i hl; cases eo; exact .inr ⟨i, rfl, hl, k.at s1.ex s1.noT (.str _)⟩
      · cases eo
    | _ => cases eo
def mJs : List (M D) → Str → M D
  | [], acc => M.pure (.str acc)
  | g :: r, acc => M.bind g fun d => match d with
    | .str y => if lineOk (acc ++ y).length then mJs r (acc ++ y) else fun _ => .fail
    | _ => fun _ => .fail
abbrev EJ (T : List NTab) (W : St → XK) (X : Cx) (es : List Expr) (gs : List (M D)) : Prop := PJ X es (gs.map (tD T X.K W))
theorem ej_nil : EJ T W X [] [] := .nil
theorem ej_cons {gs : List (M D)} (h : ED T W X e ga) (r : EJ T W X es gs) : EJ T W X (e :: es) (ga :: gs) := .cons h r
theorem tjs_of : ∀ (gs : List (M D)) (acc : Str) {σ : St} {H : Hp} {Q : VK} {ρ : DL.Env} {B : Hp} {Fs : Nat → List Addr}, SR T X.K ρ σ H B Fs → postD T X.K (W σ) (mJs gs acc ρ) σ H B (Own Fs) Q →
    tJs (gs.map (tD T X.K W)) acc σ H fun out H1 => Q (.str out) H1
  | [], acc, σ, H, Q, ρ, B, Fs, s, h => h (.str acc) H B Fs s (.str _) .refl
  | g :: r, acc, σ, H, Q, ρ, B, Fs, s, h => bindD pl_D s h fun v d ρ1 H1 B1 Fs1 s1 i1 st1 h => by
    cases i1 with
    | str y =>
      dsimp only at h
      split at h
      · rename_i hl; exact ⟨y, rfl, lineOk_le hl, tjs_of r _ s1 h⟩
      · exact h.elim
    | _ => exact h.elim
theorem ed_joined {v1 v2 : Expr} {gs : List (M D)} (h : EJ T W X (v1 :: v2 :: rest) gs) : ED T W X (.JoinedStr (v1 :: v2 :: rest) pos) (mJs gs Str.empty) :=
  pe_imp (pe_joined h) fun σ H Q ⟨ρ, B, Fs, s, h⟩ => tjs_of gs _ s h
/-! ### starred items in a display -/
def seqItems : D → Option (List D)
  | .lst l => some l
  | .tup l => some l
  | _ => none
def mStar (ga : M D) (g : M (List Sl)) : M (List Sl) := M.bind ga fun d => M.bind (M.of (seqItems d)) fun l => M.bind g fun ss => M.pure (l.map .d ++ ss)
theorem ea_star {g : M (List Sl)} (he : ED T W X e ga) (hr : EA T W X es g) (hs : starEach (.Starred e p :: es) X.env = (true, eval e X.env) :: starEach es X.env := by rfl) : EA T W X (.Starred e p :: es) (mStar ga g) :=
  pa_imp (StX.pa_star he hr hs) fun σ H Q ⟨ρ, B, Fs, s, h⟩ => bindD pl_A s h fun v d ρ1 H1 B1 Fs1 s1 i1 st1 h => by
    cases hq : seqItems d with
    | none => rw [hq] at h; exact h.elim
    | some l =>
      rw [hq] at h
      have key : ∀ {xs : List V}, IsAll X.K B1 xs l → tA T X.K W g σ H1 fun ys H2 => Q (xs ++ ys) H2 := fun {xs} hx => bindA pl_A s1 h fun vs t ρ2 H2 B2 Fs2 Fr s2 i2 o2 st2 h => by
        have z := owAll_d (H := H2) (hx.mono st2.ex)
        obtain ⟨F', w1, w2⟩ := OwAll.append i2 z fun _ q => by cases q
        refine h (xs ++ vs) H2 B2 Fs2 F' s2 w1 (fun a ha => ?_) ⟨fun _ _ _ _ q => q, fun _ q => q, Ex.refl _, fun _ q => .inl q, fun a q => .inl ?_⟩
        · rcases (w2 a).mp ha with q | q
          · cases q
          · exact o2 a q
        · rcases q with q | q
          · exact .inl q
          · rcases (w2 a).mp q with q | q
            · cases q
            · exact .inr q
      cases i1 with
      | lst h1 h2 => cases hq; exact ⟨_, _, rfl, .inr (.of (s1.ex _ _ h1)), key h2⟩
      | tup h1 h2 => cases hq; exact ⟨_, _, rfl, .inl (s1.ex.t h1), key h2⟩
      | _ => cases hq
/-! ### a display of a dict: keys constants, values data -/
def mDisp (ks : List Key) (g : M (List D)) : M Sl := M.bind g fun ds => M.of (if ds.length = ks.length ∧ noDup ks = true ∧ ks.length ≤ 15 then some (.od (ks.zip (ds.map .d))) else none)
theorem merge_nodup : ∀ (more kvs : List (Key × V)), ((kvs ++ more).map Prod.fst).Nodup → mergeK kvs more = kvs ++ more
  | [], kvs, _ => by rw [List.append_nil]; rfl
  | p :: r, kvs, nd => by
    have e : L2.putK kvs p.1 p.2 = kvs ++ [p] := by
      unfold L2.putK
      rw [if_neg]
      intro z
      obtain ⟨q, hq, hk⟩ := List.any_eq_true.mp z
      have hk := of_decide_eq_true hk
      rw [List.map_append, List.nodup_append] at nd
      exact nd.2.2 _ (List.mem_map.mpr ⟨q, hq, rfl⟩) _ (List.mem_map.mpr ⟨p, List.mem_cons_self, rfl⟩) hk
    show mergeK (L2.putK kvs p.1 p.2) r = _
    rw [e, merge_nodup r (kvs ++ [p]) (by rw [List.append_assoc]; exact nd), List.append_assoc]; rfl
/-- the pairs, one behind the other -/
def tPr (ks : List Key) (gs : List TE) : List (TE × TE) := (ks.map fun k => tC (kV k)).zip gs
def mAllD : List (M D) → M (List D)
  | [] => mNil
  | g :: r => mCons g (mAllD r)
theorem tpairs_of : ∀ (ks : List Key) (gs : List (M D)) {σ : St} {H : Hp} {Q : List (V × V) → Hp → Prop} {ρ : DL.Env} {B : Hp} {Fs : Nat → List Addr}, ks.length = gs.length → SR T X.K ρ σ H B Fs →
    postAD T X.K (W σ) (mAllD gs ρ) σ H B (Own Fs) (fun vs H1 => Q ((ks.map kV).zip vs) H1) → tPairs (tPr ks (gs.map (tD T X.K W))) σ H Q
  | [], [], σ, H, Q, ρ, B, Fs, _, s, h => h [] H B Fs s .nil .refl
  | [], _ :: _, _, _, _, _, _, _, e, _, _ => by cases e
  | _ :: _, [], _, _, _, _, _, _, e, _, _ => by cases e
  | k :: ks, g :: gs, σ, H, Q, ρ, B, Fs, e, s, h => bindD pl_AD s h fun v d ρ1 H1 B1 Fs1 s1 i1 st1 h => by
    refine tpairs_of ks gs (Nat.succ.inj e) s1 ?_
    have h : postAD T X.K (W σ) (M.bind (mAllD gs) (fun xs => M.pure (d :: xs)) ρ1) σ H1 B1 (Own Fs1) (fun vs H1 => Q (((k :: ks).map kV).zip vs) H1) := h
    unfold M.bind at h
    cases eg : mAllD gs ρ1 with
    | fail => rw [eg] at h; exact h
    | exc c fs ρ2 => rw [eg] at h; exact h
    | ok ds ρ2 =>
      rw [eg] at h
      intro vs H2 B2 Fs2 s2 i2 st2
      exact h (v :: vs) H2 B2 Fs2 s2 (.cons (i1.mono st2.ex) i2) st2
theorem zip_fst {α β : Type} : ∀ (ks : List α) (vs : List β), ks.length = vs.length → (ks.zip vs).map Prod.fst = ks
  | [], [], _ => rfl
  | [], _ :: _, e => by cases e
  | _ :: _, [], e => by cases e
  | k :: ks, v :: vs, e => by show k :: (ks.zip vs).map Prod.fst = _; rw [zip_fst ks vs (Nat.succ.inj e)]
theorem zip_snd {α β : Type} : ∀ (ks : List α) (vs : List β), ks.length = vs.length → (ks.zip vs).map Prod.snd = vs
  | [], [], _ => rfl
  | [], _ :: _, e => by cases e
  | _ :: _, [], e => by cases e
  | k :: ks, v :: vs, e => by show v :: (ks.zip vs).map Prod.snd = _; rw [zip_snd ks vs (Nat.succ.inj e)]
theorem zip_map1 {α β γ : Type} (f : α → γ) : ∀ (ks : List α) (vs : List β), (ks.map f).zip vs = (ks.zip vs).map fun p => (f p.1, p.2)
  | [], _ => rfl
  | _ :: _, [] => rfl
  | k :: ks, v :: vs => by show (f k, v) :: ((ks.map f).zip vs) = _; rw [zip_map1 f ks vs]; rfl
theorem eo_disp {keys : List (Option Expr)} {values : List Expr} {ks : List Key} {gs : List (M D)} (h : PPs X pos keys values (tPr ks (gs.map (tD T X.K W)))) (hk : ks.length = gs.length) (hall : keys.all (·.isSome) = true) (hl : keys.length = values.length) (h0 : keys ≠ []) (h15 : keys.length ≤ 15) :
    EO T W X (.Dict keys values pos) (mDisp ks (mAllD gs)) :=
  pe_imp (pe_disp h hall hl h0 h15) fun σ H Q ⟨ρ, B, Fs, s, h⟩ p hp => by
    have g1 : Grow H B (upd H p (.dK [])) B := Grow.own s.ex s.noT hp
    have hB : B p = none := by
      cases q : B p with
      | none => rfl
      | some u => rw [s.ex _ _ q] at hp; cases hp
    have s1 := s.grow g1
    refine tpairs_of ks gs hk s1 ?_
    unfold mDisp M.bind at h
    have hd : upd H p (.dK []) p = some (.dK []) := upd_same
    have o1 : Off B Fs [p] := fun a ha => by
      have : a = p := by simpa using ha
      subst this
      refine ⟨fun i hi => ?_, hB⟩
      obtain ⟨u, q, _⟩ := s.alive hi
      rw [hp] at q; cases q
    cases eg : mAllD gs ρ with
    | fail => rw [eg] at h; exact h
    | exc c fs ρ2 => rw [eg] at h; exact h.from (g1.step (F := Own Fs))
    | ok ds ρ2 =>
      rw [eg] at h
      intro vs H2 B2 Fs2 s2 i2 st2
      dsimp only at h
      unfold M.of at h
      split at h
      case h_2 => exact h.elim
      case h_1 z ez =>
        split at ez
        case isFalse => cases ez
        case isTrue hc =>
          cases ez
          obtain ⟨c1, c2, c3⟩ := hc
          obtain ⟨o2, k2⟩ := o1.stay (fun a ha => (by
            have : a = p := by simpa using ha
            subst this; exact ⟨_, hd, trivial⟩)) st2
          have hd2 : H2 p = some (.dK []) := k2 p _ (by simp) hd
          have e1 : ks.length = vs.length := by rw [i2.length, c1]
          have nd := noDup_ok c2
          have ef := zip_fst ks vs e1
          refine ⟨hd2, ks.zip vs, zip_map1 kV ks vs, by rw [List.length_zip]; omega, ?_⟩
          rw [merge_nodup (ks.zip vs) [] (by rw [List.nil_append, ef]; exact nd), List.nil_append]
          have pB : B2 p = none := (o2 p (by simp)).2
          have pF : ∀ i, p ∉ Fs2 i := (o2 p (by simp)).1
          have s3 : SR T X.K ρ2 σ (upd H2 p (.dK (ks.zip vs))) B2 Fs2 := ⟨fun a o q => by rw [upd_ne (fun z => by rw [z, pB] at q; cases q)]; exact s2.ex a o q, tabs_upd s2.tabs hd2 trivial, s2.noT, fun j u q => (by
            obtain ⟨w, q1, q2⟩ := s2.slot j u q
            exact ⟨w, q1, q2.mono (Ex.refl _) fun a o ha q => by rw [upd_ne (fun z => pF j (by rw [← z]; exact ha))]; exact q⟩), s2.off, s2.apart, s2.offB⟩
          refine h (.ref p) _ B2 Fs2 [p] s3 (.od (F := []) upd_same (by simp) ?_ ?_) o2 ?_
          · rw [ef, zip_fst ks _ (by rw [List.length_map, c1])]
          · rw [zip_snd ks vs e1, zip_snd ks _ (by rw [List.length_map, c1])]
            exact owAll_d i2
          · have z := (g1.step (F := Own Fs)).trans st2
            refine ⟨fun a o nF nt q => ?_, fun a q => q, z.ex, z.newB, fun a q => q.elim (fun q => z.newF a q) fun q => .inr (by
              have : a = p := by simpa using q
              subst this; exact DL.nt hp)⟩
            · rw [upd_ne (fun w => by rw [w, hp] at q; cases q)]; exact z.keep a o nF nt q
/-! ### isinstance -/
def tyName : D → Option String
  | .non => some "NoneType"
  | .bl _ => some "bool"
  | .int _ => some "int"
  | .str _ => some "str"
  | .lst _ => some "list"
  | .tup _ => some "tuple"
  | .dic _ => some "dict"
  | _ => none
def kitAnyS (t : String) : List String → Option Bool
  | [] => some false
  | n :: r => match kitB t n with
    | some true => some true
    | some false => kitAnyS t r
    | none => none
def isiD (cs : List Str) : List D → Option D
  | [.ins c _, .glo g] => if c = g ∧ cs.contains c then some (.bl true) else none
  | [d, .ty n] => (tyName d).bind fun t => (kitB t n).map .bl
  | _ => none
theorem tyName_ok {K : PySem.W.Frag} {B H : Hp} {v : V} {d : D} {t : String} (ex : Ex B H) (i : Is K B v d) (h : tyName d = some t) : TyX K H v (.type t) := by
  cases i with
  | non => cases h; exact .base .non
  | bl b => cases h; exact .base (.bl b)
  | int b => cases h; exact .base (.int b)
  | str b => cases h; exact .base (.str b)
  | lst h1 h2 => cases h; exact .base (.lst (ex _ _ h1))
  | dic h1 h2 h3 => cases h; exact .base (.dK (ex _ _ h1))
  | tup h1 h2 =>
    cases h
    rcases h1 with (h1 | ⟨o, h1⟩) | ⟨o, its, n, h1, h2, _⟩
    · exact .base (.tup (ex _ _ h1))
    · exact .fTuple (ex _ _ h1)
    · exact .kTuple h1 h2
  | _ => cases h
theorem kitAnyS_ok {K : PySem.W.Frag} {t : String} : ∀ {l : List String} {b : Bool}, kitAnyS t l = some b → PySem.W.kitAny K (.type t) (l.map Value.type) = some b
  | [], b, h => by cases h; rfl
  | n :: r, b, h => by
    unfold kitAnyS at h
    show PySem.W.kitAny K (.type t) (.type n :: r.map Value.type) = _
    unfold PySem.W.kitAny
    split at h
    · rename_i hk; cases h; rw [kit_ty hk]
    · rename_i hk; rw [kit_ty hk]; exact kitAnyS_ok h
    · cases h
theorem tys_paired : ∀ ns : List String, Paired ClsV (ns.map V.ty) (ns.map Value.type)
  | [] => .nil
  | n :: r => .cons (.ty n) (tys_paired r)
theorem c_isi {cs : List Str} (ok : ∀ c ∈ cs, C8.InsC X.K (He.ga X.K c)) : CallD X (.builtin "isinstance") (isiD cs) := by
  intro pins s σ H xs us Q I r ⟨ds, z, B, ex, nt, i, eo, k⟩
  unfold isiD at eo
  split at eo
  · split at eo
    · rename_i hc
      cases eo
      obtain ⟨rfl, hc⟩ := hc
      cases i with
      | cons i1 i2 =>
        cases i2 with
        | cons i2 i3 =>
          cases i3
          cases i2
          cases i1 with
          | ins h1 h2 h3 h4 => exact C8.call_isC (ok _ (by simpa using hc)) pins s σ H _ us Q I r ⟨_, _, _, rfl, ex _ _ h1, k.at ex nt (.bl _)⟩
    · cases eo
  · rename_i d n
    obtain ⟨t, e1, e2⟩ := Option.bind_eq_some_iff.mp eo
    obtain ⟨b, e3, e4⟩ := Option.map_eq_some_iff.mp e2
    subst e4
    cases i with
    | cons i1 i2 =>
      cases i2 with
      | cons i2 i3 =>
        cases i3
        cases i2
        exact call_isi pins s σ H _ us Q I r ⟨_, _, _, _, b, rfl, .ty _, tyName_ok ex i1 e1, kit_ty e3, k.at ex nt (.bl _)⟩
  · cases eo
/-- isinstance(e, (A, B)) with built-in classes -/
def mIsiT (ns : List String) (ga : M D) : M D := M.bind ga fun d => M.of ((tyName d).bind fun t => (kitAnyS t ns).map .bl)
theorem ed_isiT {ns : List String} {kk : Nat} {pt : Pos} (hm : X.mg "isinstance" = none) (he : ED T W X e ga) (ht : PA X es (fun σ H Q => Q (ns.map V.ty) H)) (hl : ns.length ≤ 1000) (hg : Gl X "isinstance" := by rfl)
    (hs1 : starEach [e, .Tuple es kk pt] X.env = (false, eval e X.env) :: starEach [.Tuple es kk pt] X.env := by rfl) (hs2 : starEach [.Tuple es kk pt] X.env = (false, eval (.Tuple es kk pt) X.env) :: starEach [] X.env := by rfl) (hpl : (backTo pos (starEach [.Tuple es kk pt] X.env)).any (·.1) = false := by rfl) :
    ED T W X (.Call (.Name "isinstance" p) [e, .Tuple es kk pt] [] pos) (mIsiT ns ga) :=
  pe_imp (pe_callB call_isiT hg hm (by decide +kernel) (pa_cons he (pa_cons (pe_tup (pos := pt) ht) pa_nil hs2) hs1) (by decide) (by decide) hs1 hpl) fun σ H Q ⟨ρ, B, Fs, s, h⟩ => bindD pl_D s h fun v d ρ1 H1 B1 Fs1 s1 i1 st1 h => by
    obtain ⟨z, eo, k⟩ := PCt.of s1 h
    obtain ⟨t, e1, e2⟩ := Option.bind_eq_some_iff.mp eo
    obtain ⟨b, e3, e4⟩ := Option.map_eq_some_iff.mp e2
    subst e4
    refine ⟨by rw [List.length_map]; exact Nat.le_trans hl (by decide), fun q hq => ?_⟩
    have g : Grow H1 B1 (upd H1 q (.tup (ns.map V.ty))) (upd B1 q (.tup (ns.map V.ty))) := .new s1.ex s1.noT hq (fun _ z => nomatch z)
    refine ⟨v, q, ns.map V.ty, _, ns.map Value.type, b, rfl, upd_same, tys_paired ns, tyName_ok (g.le) (i1.mono g.exB) e1, kitAnyS_ok e3, k (.bl b) _ _ g (.bl b)⟩
/-! ### name = [..] on one line -/
theorem es_of_asg {st : Stmt} {i : Nat} {te : TE} (h : PS X st (tAsg te (gName i))) (hi : i < X.N.length) (hio : i ∉ IO) (ht : ∀ σ H Q, σ.length = X.N.length → tO T X.K W go_ σ H Q → te σ H Q) : ES T IO W X st (sAsg i go_) :=
  ps_len h fun D_ σ H len ⟨ρ, B, Fs, s, h⟩ => ht σ H _ len (sbO s h fun v t ρ1 H1 B1 Fs1 Fr q1 q2 q3 q4 h => by
    show D_.nx (σ.set i (some v)) H1
    cases e : DL.setV i t ρ1 with
    | none => rw [e] at h; exact h.elim
    | some ρ2 =>
      rw [e] at h
      have il : i < σ.length := by rw [len]; exact hi
      obtain ⟨z1, z2⟩ := q1.setV e il q2 q3
      exact h _ _ _ _ z1 z2 (ioSet hio))
theorem es_setLc {i : Nat} {elt tg iter : Expr} {ifs : List Expr} {scope : Scope} {own : List (Str × Nat)} {spos : Pos} {gi : M (List D)} {t : TgM} {tt : M Bool} {te : M Sl} (hc : X.calm = true) (hN : X.N.Nodup) (hy : X.N[i]? = some y) (hyl : X.env.scope.names.lookup y = some .local)
    (hsw : swapsWith (.ListComp elt [⟨tg, iter, ifs, 0⟩] scope pos) (some (.Name y py)) spos.line X.env = pure true) (hi : EI T W X tg iter gi) (ok : BlkOk X.N X.env.scope scope own) (hio : i ∉ IO)
    (hg : ∀ (s : Shared) (H : Hp) (C : Addr) (cl : List (Str × Addr)) (fp : List Addr), EG T ((List.range X.N.length).filter fun i => !(own.map Prod.snd).contains i) (X.blk s H scope (compEnvC scope cl C X.env) fp) tg t)
    (ht : ∀ (s : Shared) (H : Hp) (C : Addr) (cl : List (Str × Addr)) (fp : List Addr), ETs T W (X.blk s H scope (compEnvC scope cl C X.env) fp) ifs tt)
    (he : ∀ (s : Shared) (H : Hp) (C : Addr) (cl : List (Str × Addr)) (fp : List Addr), EO T W (X.blk s H scope (compEnvC scope cl C X.env) fp) elt te) (hs : ∀ x, foldedSetIterable iter X.env x = pure x := by intro _; rfl) :
    ES T IO W X (.Assign [.Name y py] (.ListComp elt [⟨tg, iter, ifs, 0⟩] scope pos) spos) (sAsg i (mLc (own.map Prod.snd) gi t tt te)) :=
  es_of_asg (ps_setLc hc hN hy hyl hsw hi ok hg ht he hs) (List.getElem?_eq_some_iff.mp hy).1 hio fun σ H Q hn h => tlc_of (X := X) hn h
end
end DL

end
section
set_option Elab.async false
set_option linter.all false
set_option autoImplicit false
set_option maxRecDepth 100000
set_option maxHeartbeats 4000000
/-! The data layer, part 15: != by an own __eq__. -/
namespace DL
open PySem PySem.Spec L2 NdefX
section
variable {prog : Program} {w : World} {A : Around} {E : Value → Shared → Prop} {s : Shared} {K : PySem.W.Frag} {x C f : Addr} {ox : Obj} {od : Option Obj} {b tb : Value}
theorem entry_ne {Q : Fin → Shared → Prop} (hu : A.units < cLine) (X : K.In s.heap) (I : PySem.W.InstAt s.heap x ox C od) (hs : PySem.W.findIn K (.ref C) "__eq__" = some (some (.ref f))) (hf : PySem.W.isFn K (.ref f) = true)
    (h : wpAny (model prog w) A (call (.ref f) [.ref x, b]) (fun v s' => ∃ r, v = .bool r ∧ Q (.done (.ret (.bool (!r)))) s') E s) : wpAny (model prog w) A (Builtin.«object.__ne__» ⟨[.ref x, b], []⟩) Q E s := by
  unfold Builtin.«object.__ne__»
  refine wpAny_bind (m := slotArgs "__ne__" 1 _) (wpAny_pure ?_)
  refine wpAny_bind (m := cRoomFor _ _) (wpAny_cRoomFor hu ?_)
  refine wpAny_bind (m := callSpecialIfBound? (.ref x) (Str.ofString "__eq__") _) (PySem.W.ifBound_K X I hs hf (wpAny_mono h (fun v s' hr => ?_) fun _ _ e => e))
  obtain ⟨r, rfl, hq⟩ := hr
  exact wpAny_bind (m := truthy (.bool _)) (wpAny_truthy_bool (wpAny_pure hq))
theorem bound_ne {M : Model} {args : List Value} {Q : Option Value → Shared → Prop} (X : K.In s.heap) (I : PySem.W.InstAt s.heap x ox C od) (hs : PySem.W.findIn K (.ref C) "__ne__" = some (some (.builtin "object.__ne__")))
    (h : wpAny M A (call (.builtin "object.__ne__") (.ref x :: args)) (fun v => Q (some v)) E s) : wpAny M A (callSpecialIfBound? (.ref x) "__ne__" args) Q E s := by
  simp only [callSpecialIfBound?, bindSpecialIfBound?]
  refine wpAny_holding (wpAny_bind (wpAny_bind (wpAny_bind (I.type.here ((PySem.W.looks_findIn X hs).here ?_)))))
  refine wpAny_bind (wpAny_askSetting (wpAny_ite ?_))
  have fin : wpAny M A (call (.builtin "object.__ne__") ([.ref x] ++ args) >>= fun v => pure (some v)) Q E s := wpAny_bind (wpAny_mono h (fun v s' h' => wpAny_pure h') fun _ _ h' => h')
  split
  · exact wpAny_bind (wpAny_of_eq (F.cmp_object.ne.bind _) (wpAny_pure (by exact fin)))
  · exact wpAny_tryCatch (wpAny_bind (wpAny_of_eq (F.cmp_object.ne.bind _) (wpAny_pure (by exact fin))))
theorem ne_own {Q : Value → Shared → Prop} (hu : A.units + 1 < cLine) (X : K.In s.heap) (I : PySem.W.InstAt s.heap x ox C od) (hb : PySem.W.Looks (model prog w) s.heap (typeOf b) tb) (hn : PySem.W.notFirst K C tb = true)
    (hm : PySem.W.mroIn K C (.type "object") = some true) (hne : PySem.W.findIn K (.ref C) "__ne__" = some (some (.builtin "object.__ne__"))) (hs : PySem.W.findIn K (.ref C) "__eq__" = some (some (.ref f))) (hf : PySem.W.isFn K (.ref f) = true)
    (h : wpAny (model prog w) A.in1 (call (.ref f) [.ref x, b]) (fun v s' => ∃ r, v = .bool r ∧ Q (.bool (!r)) s') E s) : wpAny (model prog w) A (compareOp .NotEq (.ref x) b) Q E s := by
  unfold compareOp
  have one : wpAny (model prog w) A (tryCompare (.ref x) (cmpInfo .NotEq).2.1 b) (fun r s' => ∃ v, r = some v ∧ Q v s') E s := by
    rw [cmpInfo_NotEq]
    unfold tryCompare
    refine wpAny_bind (bound_ne X I hne (wpAny_call (codeAny_call_builtin F.cmp_object.ne.plain F.cmpEntry_ne (PySem.W.check_slot F.cmpKind_ne F.cmpSplit_ne (I.type.andThen (PySem.W.looks_mroIn X hm)) (F.cmpArgs_ne _ _)
      (entry_ne (A := A.in1) hu X I hs hf (wpAny_mono h (fun v s' hv => ?_) fun _ _ e => e))))))
    obtain ⟨r, rfl, hq⟩ := hv
    exact ⟨r, rfl, wpAny_pure ⟨_, rfl, hq⟩⟩
  unfold richCompare
  simp only [oneThing_ref]
  refine wpAny_holding (wpAny_bind (wpAny_cRoomFor (Nat.lt_of_succ_lt hu) ?_))
  refine wpAny_bind (I.type.here (wpAny_bind (hb.here ?_)))
  split
  · rename_i q
    have e : PySem.W.subIn K tb (.ref C) = some false := by
      rcases Bool.or_eq_true_iff.mp hn with e | e
      · rw [beq_iff_eq.mp e] at q; simp at q
      · exact beq_iff_eq.mp e
    refine wpAny_bind ((PySem.W.looks_subIn X e).here ?_)
    simp only [Bool.false_eq_true, if_false]
    refine wpAny_bind (wpAny_mono one (fun r s' z => ?_) fun _ _ e => e)
    obtain ⟨v, rfl, hq⟩ := z
    exact wpAny_pure hq
  · refine wpAny_bind (wpAny_pure ?_)
    simp only [Bool.false_eq_true, if_false]
    refine wpAny_bind (wpAny_mono one (fun r s' z => ?_) fun _ _ e => e)
    obtain ⟨v, rfl, hq⟩ := z
    exact wpAny_pure hq
end
/-- what != asks of an own class with an == of its own -/
structure NeOf (K : PySem.W.Frag) (C f : Addr) : Prop where
  ob : PySem.W.mroIn K C (.type "object") = some true
  ne : PySem.W.findIn K (.ref C) "__ne__" = some (some (.builtin "object.__ne__"))
  eq : PySem.W.findIn K (.ref C) "__eq__" = some (some (.ref f))
  fn : PySem.W.isFn K (.ref f) = true
section
variable {T : List NTab} {W : St → XK} {X : Cx} {a b c e o : Expr} {es rest : List Expr} {pos p apos : Pos} {ga gb : M D} {x m fl : Str} {k : Nat} {f : Addr} {fd : FuncData} {ps : List Str} {g : M Sl}
theorem op_neOwn {C : Addr} (N : NeOf X.K C f) (G : GF T X k f fd ps 2 g) (hr : Room (k + 1) X.A) (hb : Binds X.K fd ps []) (hu : X.A.units + 1 < cLine) :
    OpR X (compareOp .NotEq) (fun x y H Q => ∃ a dx fs b dy gs, x = .ref a ∧ y = .ref b ∧ H a = some (.ins C dx fs) ∧ H b = some (.ins C dy gs) ∧ spD T X.K 2 g [.ref a, .ref b] H (fun v H' => ∃ r, v = .bl r ∧ Q (.bl (!r)) H') E0) := by
  intro pins s σ H x y v u Q I rx ry ⟨a, dx, fs, b, dy, gs, ex, ey, ha, hb', hsp⟩
  subst ex; subst ey
  cases rx
  cases ry
  obtain ⟨mA, J, _⟩ := ins_get I.hok ha
  obtain ⟨mB, J', _⟩ := ins_get I.hok hb'
  obtain ⟨od, J, _⟩ := J.look
  obtain ⟨od', J', _⟩ := J'.look
  have hl := G.len _ _ _ _ hsp
  refine ne_own hu I.kIn J J'.type (by simp [PySem.W.notFirst]) N.ob N.ne N.eq N.fn (wpAny_call (codeAny_mono (G.run X.A.in1 X.stack s H ⟨[.ref a, .ref b], []⟩ [.ref a, .ref b] [.ref a, .ref b] _ E0 hr.in1 I.env0.in1 (by
    have := hb s [.ref a, .ref b] I.kIn (by simpa using hl)
    simpa using this) (.cons rfl (.cons rfl .nil)) hsp) fun r s' hq => ?_))
  cases r with
  | error er => exact pass0 pins σ H s er s' I hq
  | ok fl =>
    cases fl with
    | ret w =>
      obtain ⟨z, H', I', rz, r, ez, q⟩ := I.after hq
      subst ez
      cases rz
      exact ⟨r, rfl, .bl (!r), H', I', rfl, q⟩
    | next => exact False.elim hq
    | brk => exact False.elim hq
    | cont => exact False.elim hq
def isInsD (c : Str) : D → Bool
  | .ins c' _ => decide (c' = c)
  | _ => false
def notB : Sl → Option D
  | .d (.bl r) => some (.bl !r)
  | _ => none
def mNeOwn (c : Str) (g : M Sl) (ga gb : M D) : M D := M.bind ga fun x => M.bind gb fun y => if isInsD c x = true ∧ isInsD c y = true then (fun ρ => match g [some (.d x), some (.d y)] with
  | .ok t _ => (match notB t with
    | some z => .ok z ρ
    | none => .fail)
  | _ => .fail) else fun _ => .fail
abbrev rNeOwn (T : List NTab) (K : PySem.W.Frag) (C : Addr) (g : M Sl) : R2 := fun x y H Q => ∃ a dx fs b dy gs, x = .ref a ∧ y = .ref b ∧ H a = some (.ins C dx fs) ∧ H b = some (.ins C dy gs) ∧ spD T K 2 g [.ref a, .ref b] H (fun v H' => ∃ r, v = .bl r ∧ Q (.bl (!r)) H') E0
theorem ne_read {σ : St} {H : Hp} {Q : VK} (h : tD T X.K W (mNeOwn x g ga gb) σ H Q) : tOp (rNeOwn T X.K (He.ga X.K x) g) (tD T X.K W ga) (tD T X.K W gb) σ H Q := by
  obtain ⟨ρ, B, Fs, s, h⟩ := h
  exact bindD pl_D s h fun v d ρ1 H1 B1 Fs1 s1 i1 st1 h => bindD pl_D s1 h fun w d2 ρ2 H2 B2 Fs2 s2 i2 st2 hh => by
    split at hh
    case isFalse => exact hh.elim
    case isTrue hi =>
      have i1' := i1.mono st2.ex
      cases i1' with
      | ins q1 q2 q3 q4 =>
        cases i2 with
        | ins r1 r2 r3 r4 =>
          have e1 := of_decide_eq_true hi.1
          have e2 := of_decide_eq_true hi.2
          subst e1
          subst e2
          refine ⟨_, _, _, _, _, _, rfl, rfl, s2.ex _ _ q1, s2.ex _ _ r1, ?_⟩
          have ow : OwAll X.K B2 H2 [V.ref _, V.ref _] [.d (.ins _ _), .d (.ins _ _)] [] := .cons (F := []) (.d (.ins q1 q2 q3 q4)) (.cons (F := []) (.d (.ins r1 r2 r3 r4)) .nil (fun _ z => by cases z)) (fun _ z => by cases z)
          refine call_post (ios := []) (W := W σ) s2 ow .nil (fun p hp => by cases hp) (by decide) ?_
          have h' : postD T X.K (W σ) (match g [some (.d (.ins _ _)), some (.d (.ins _ _))] with
            | .ok t _ => (match notB t with
              | some z => .ok z ρ2
              | none => .fail)
            | _ => .fail) σ H2 B2 (Own Fs2) Q := hh
          show postO T X.K (W σ) (match g [some (.d (.ins _ _)), some (.d (.ins _ _))] with
            | .ok r ρf => .ok r (putBack [] ρf ρ2)
            | _ => .fail) σ H2 B2 _ _
          split at h'
          case h_2 => exact h'.elim
          case h_1 t ρf eg =>
            split at h'
            case h_2 => exact h'.elim
            case h_1 z ez =>
              intro v H3 B3 Fs3 Fr s3 o3 of st3
              cases t with
              | d y =>
                cases y with
                | bl r =>
                  cases ez
                  have iv := o3.isD.1
                  cases iv
                  exact ⟨r, rfl, h' (.bl (!r)) H3 B3 Fs3 s3 (.bl _) (Step.tmp.trans st3).drop⟩
                | _ => cases ez
              | _ => cases ez
        | _ => cases hi.2
      | _ => cases hi.1
theorem ed_neOwn (N : NeOf X.K (He.ga X.K x) f) (G : GF T X k f fd ps 2 g) (hr : Room (k + 1) X.A) (hb : Binds X.K fd ps []) (hu : X.A.units + 1 < cLine) (h1 : ED T W X a ga) (h2 : ED T W X b gb) : ED T W X (.Compare a [.NotEq] [b] pos) (mNeOwn x g ga gb) :=
  pe_imp (pe_cmpR (op_neOwn N G hr hb hu) h1 h2 (nomark _)) fun σ H Q h => ne_read h
theorem et_cmpOwn (N : NeOf X.K (He.ga X.K x) f) (G : GF T X k f fd ps 2 g) (hr : Room (k + 1) X.A) (hb : Binds X.K fd ps []) (hu : X.A.units + 1 < cLine) (h1 : ED T W X a ga) (h2 : ED T W X b gb) : ET T W X (.Compare a [.NotEq] [b] pos) (mTest (mNeOwn x g ga gb)) :=
  pt_imp (pt_cmpR (op_neOwn N G hr hb hu) h1 h2 (nomark _)) fun σ H Q ⟨ρ, B, Fs, s, h⟩ => ne_read (W := W) (bindD pl_T s h fun v d ρ1 H1 B1 Fs1 s1 i1 st1 h => by
    cases d with
    | bl k => cases i1; exact ⟨k, rfl, h H1 B1 Fs1 s1 .refl⟩
    | _ => exact (show False from h).elim)
end
end DL

end
section
set_option Elab.async false
set_option linter.all false
set_option autoImplicit false
set_option maxRecDepth 100000
set_option maxHeartbeats 4000000
/-! The data layer, part 16: walks over a list, a tuple or a text as it comes; enumerate over a list or a tuple; -x. -/
namespace DL
open PySem PySem.Spec L2 NdefX
open PyProof.Rows (boot_enumerate Call_)
def iSeq (K : PySem.W.Frag) (te : TE) : TI := fun σ H R => te σ H fun v H1 => (∃ a xs, v = .ref a ∧ SqL K H1 a xs ∧ R (Itl K a) H1) ∨ (∃ a xs, v = .ref a ∧ SqT K H1 a xs ∧ R (Itt K a) H1) ∨ ∃ x, v = .str x ∧ R (Its x) H1
theorem pi_seq {X : Cx} {tg e : Expr} {te : TE} (he : PE X e te) : PI X tg e (iSeq X.K te) := ⟨fun pins s σ H R I h => thn (he.run pins s σ H _ I h) fun v s1 ⟨y, H1, I1, r1, q⟩ => by
  rcases q with ⟨a, xs, ey, hq, q⟩ | ⟨a, xs, ey, hq, q⟩ | ⟨x, ey, q⟩ <;> subst ey
  · cases r1
    obtain ⟨its, rv, pl, hz⟩ := I1.list hq
    exact wpAny_pyIter_list pl.isList (pi_one (tk := s1.toks) I1 _ (turn_list a _) ⟨_, Heap.get?_push_size _ rfl, rfl, rfl⟩ q)
  · cases r1
    obtain ⟨its, rv, pl, hz⟩ := I1.tuple hq
    exact wpAny_pyIter_tuple (show s1.heap.IsTuple a its.toArray from pl) (pi_one (tk := s1.toks) I1 _ (turn_tuple a _) ⟨_, Heap.get?_push_size _ rfl, rfl, rfl⟩ q)
  · obtain ⟨t, rfl⟩ := r1
    cases ha : x.cps.all (· < 128) with
    | false => exact wpAny_pyIter_wide ha (pi_one (tk := s1.toks) I1 _ (turn_str _ x t "str_iterator" (.inr rfl)) ⟨_, Heap.get?_push_size _ rfl, rfl, rfl⟩ q)
    | true => exact wpAny_pyIter_ascii ha (pi_one (tk := s1.toks) I1 _ (turn_str _ x t "str_ascii_iterator" (.inl rfl)) ⟨_, Heap.get?_push_size _ rfl, rfl, rfl⟩ q)⟩
def charsD (x : Str) : List D := x.cps.toList.map fun c => .str ⟨#[c]⟩
def itemsS : D → Option (List D)
  | .lst l => some l
  | .tup l => some l
  | .str x => some (charsD x)
  | _ => none
theorem walks_str {K : PySem.W.Frag} {B : Hp} {x : Str} : Walks K (Its x) B (charsD x) where
  go := fun j H' e h1 => by
    have q : j < x.cps.size := by unfold charsD at h1; simpa using h1
    exact q
  stop := fun H' e => by
    show x.cps.size ≤ (charsD x).length
    unfold charsD; simp
  yld := fun j H' B' y H'' d h1 h2 h3 z e => by
    obtain ⟨rfl, c, hc, rfl⟩ := z
    refine ⟨B', .refl h2 h3, ?_⟩
    unfold charsD at e
    rw [List.getElem?_map] at e
    have hc' : x.cps.toList[j]? = some c := by simpa using hc
    rw [hc'] at e
    cases e
    exact .str _
theorem walks_lst {K : PySem.W.Frag} {B : Hp} {a : Addr} {xs : List V} {l : List D} (h1 : B a = some (.lst xs)) (h2 : IsAll K B xs l) : Walks K (Itl K a) B l where
  go := fun j H' e h => by
    have q : j < xs.length := by rw [h2.length]; exact h
    exact ⟨xs, xs[j], .of (e _ _ h1), List.getElem?_eq_getElem q⟩
  stop := fun H' e => ⟨xs, .of (e _ _ h1), by rw [h2.length]; exact Nat.le_refl _⟩
  yld := fun j H' B' x H'' d e1 e2 e3 y e => by
    obtain ⟨rfl, y⟩ := y
    obtain ⟨v, hv, iv⟩ := h2.get e
    have q := y xs (.of ((e1.trans e2) _ _ h1))
    rw [hv] at q; cases q
    exact ⟨B', .refl e2 e3, iv.mono e1⟩
section
variable {T : List NTab} {IO : List Nat} {W : St → XK} {X : Cx} {e iter tg : Expr} {es body : List Expr} {pos p tpos : Pos} {x : Str}
theorem ei_seq {ga : M D} (h : ED T W X iter ga) : EI T W X tg iter (mItems itemsS ga) :=
  pi_imp (pi_seq h) fun σ H R ⟨ρ, B, Fs, s, q⟩ => ibD s q (fun v d ρ1 H1 B1 Fs1 s1 i1 k ⟨l, el⟩ => by
    cases i1 with
    | lst h1 h2 => exact .inl ⟨_, _, rfl, .of (s1.ex _ _ h1), k _ rfl _ (walks_lst h1 h2)⟩
    | tup h1 h2 => exact .inr (.inl ⟨_, _, rfl, s1.ex.t h1, k _ rfl _ (walks_tup h1 h2)⟩)
    | str x => exact .inr (.inr ⟨x, rfl, k _ rfl _ walks_str⟩)
    | _ => cases el) (of_or (f := itemsS))
end
def iEnumS (K : PySem.W.Frag) (ta : TA) : TI := fun σ H R => ta σ H fun vs H1 => ∃ a xs, vs = [.ref a] ∧ ((SqL K H1 a xs ∧ R (Ite K a) H1) ∨ (SqT K H1 a xs ∧ R (Itet K a) H1))
theorem pi_enumS {X : Cx} {e : Expr} {ta : TA} {p pos tpos : Pos} {elts : List Expr} {kk : Nat} (hg : Gl X "enumerate") (hm : X.mg "enumerate" = none) (ha : PA X [e] ta) (hs : starEach [e] X.env = [(false, eval e X.env)] := by rfl) :
    PI X (.Tuple elts kk tpos) (.Call (.Name "enumerate" p) [e] [] pos) (iEnumS X.K ta) := ⟨fun pins s σ H R I h =>
  Call_ (ld_blt I hg hm boot_enumerate (PyProof.Rows.callWith_type1 (thn (ha.run pos pins s σ H _ I h) fun us s1 ⟨vs, H1, I1, r1, a, xs, ex, q⟩ => by
    subst ex
    cases r1 with
    | cons r rr =>
      cases rr
      cases r
      have ge : ∀ b, b ∈ [s1.heap.objs.size + 1, s1.heap.objs.size] → FpOk X pins H1 b := fun b hb => by
        have hle : s1.heap.objs.size ≤ b := by
          have e' : b = s1.heap.objs.size + 1 ∨ b = s1.heap.objs.size := by simpa using hb
          omega
        exact I1.fpOk hle (I1.hok.fresh hle)
      rcases q with ⟨hq, q⟩ | ⟨hq, q⟩
      · obtain ⟨its, rv, pl, hz⟩ := I1.list hq
        exact call_enumerate_list pl.isList fun h' he hit hsz hk => wpAny_pyIter_enum he
          ⟨_, _, _, _, H1, rfl, I1.kept (t' := s1.toks) hk, turn_enum a (s1.heap.objs.size + 1) s1.heap.objs.size, ⟨⟨.none, he⟩, hit, Nat.succ_ne_self _⟩, ge, q⟩
      · obtain ⟨its, rv, pl, hz⟩ := I1.tuple hq
        exact call_enum_begun (begins_tuple a its.toArray) (show s1.heap.IsTuple a its.toArray from pl) fun h' he ho hk => wpAny_pyIter_enum he
          ⟨_, _, _, _, H1, rfl, I1.kept (t' := s1.toks) hk, turn_enumT a (s1.heap.objs.size + 1) s1.heap.objs.size, ⟨⟨.none, he⟩, ⟨_, ho, rfl, rfl⟩, Nat.succ_ne_self _⟩, ge, q⟩) hs rfl))⟩
def enumOf (l : List D) : List D := (List.range l.length).zipWith (fun i d => .tup [.int (i : Nat), d]) l
def enumS : List D → Option (List D)
  | [.lst l] => some (enumOf l)
  | [.tup l] => some (enumOf l)
  | _ => none
section
variable {T : List NTab} {IO : List Nat} {W : St → XK} {X : Cx} {e iter tg a : Expr} {es body : List Expr} {pos p tpos : Pos} {x : Str}
theorem ei_enumS {elts : List Expr} {kk : Nat} {g : M (List D)} (hm : X.mg "enumerate" = none) (ha : EAD T W X [a] g) (hg : Gl X "enumerate" := by rfl) (hs : starEach [a] X.env = [(false, eval a X.env)] := by rfl) : EI T W X (.Tuple elts kk tpos) (.Call (.Name "enumerate" p) [a] [] pos) (mItemsN enumS g) :=
  pi_imp (pi_enumS hg hm ha hs) fun σ H R ⟨ρ, B, Fs, s, q⟩ => ibAD s q fun vs ds ρ1 H1 B1 Fs1 l s1 i1 el k => by
    unfold enumS at el
    split at el
    · cases el
      cases i1 with
      | cons i1 i2 =>
        cases i2
        cases i1 with
        | lst h1 h2 => exact ⟨_, _, rfl, .inl ⟨s1.ex.l (.of h1), k _ (walks_enum (.of h1) h2)⟩⟩
    · cases el
      cases i1 with
      | cons i1 i2 =>
        cases i2
        cases i1 with
        | tup h1 h2 => exact ⟨_, _, rfl, .inr ⟨s1.ex.t h1, k _ (walks_enumT h1 h2)⟩⟩
    · cases el
/-! ### -x -/
def negD : D → Option D
  | .int i => some (.int (-i))
  | _ => none
theorem o_neg : UnD X (unaryOp .USub) negD := by
  intro pins s σ H x v Q I rx ⟨d, z, B, ex, nt, i1, eo, k⟩
  cases i1 with
  | int i => cases eo; exact un_neg pins s σ H _ v Q I rx ⟨i, rfl, k.at ex nt (.int _)⟩
  | _ => cases eo
end
end DL

end
section
set_option Elab.async false
set_option linter.all false
set_option autoImplicit false
set_option maxRecDepth 100000
set_option maxHeartbeats 4000000
/-! The data layer, part 17: tests that look without freezing; truth; the list in a list. -/
namespace DL
open PySem PySem.Spec L2 NdefX
/-- a test read with everything as data; nothing stays frozen -/
def mPeekT (g : M Bool) : M Bool := fun ρ => match g (frzE ρ) with
  | .ok b _ => .ok b ρ
  | _ => .fail
def truD : D → Option Bool
  | .lst l => some !l.isEmpty
  | .tup l => some !l.isEmpty
  | .bl b => some b
  | .int i => some (i != 0)
  | .non => some false
  | .str x => if lineOk x.length then some ((x.length : Int) != 0) else none
  | _ => none
theorem isAll_empty {K : PySem.W.Frag} {B : Hp} {xs : List V} {l : List D} (h : IsAll K B xs l) : xs.isEmpty = l.isEmpty := by cases h <;> rfl
theorem truD_ok : ∀ K B H x d b, Ex B H → Is K B x d → truD d = some b → TruV K x H b := by
  intro K B H x d b e i h
  cases i with
  | lst h1 h2 => cases h; exact .inl ⟨_, .of (e _ _ h1), by rw [isAll_empty h2]⟩
  | tup h1 h2 => cases h; exact .inr (.inl ⟨_, e.t h1, by rw [isAll_empty h2]⟩)
  | bl k => cases h; rfl
  | int k => cases h; rfl
  | non => cases h; rfl
  | str z =>
    dsimp only [truD] at h
    split at h
    · rename_i hl; cases h; exact ⟨lineOk_le hl, rfl⟩
    · cases h
  | _ => cases h
section
variable {K : PySem.W.Frag} {B H H' : Hp}
theorem OwAll.swap : ∀ {vs : List V} {ss : List Sl} {F : List Addr} {k : Nat} {v : V} {t : Sl}, OwAll K B H vs ss F → vs[k]? = some v → ss[k]? = some t → ∃ G, Ow K B H v t G ∧ (∀ a, a ∈ G → a ∈ F) ∧
    ∀ (w : V) (u : Sl) (G2 : List Addr), Ow K B H' w u G2 → (∀ a o, a ∈ F → a ∉ G → H a = some o → H' a = some o) → (∀ a, a ∈ G2 → a ∈ G ∨ a ∉ F) → ∃ F', OwAll K B H' (vs.set k w) (ss.set k u) F' ∧ ∀ a, a ∈ F' → a ∈ F ∨ a ∈ G2
  | _, _, _, k, _, _, .nil, e, _ => by simp at e
  | _, _, _, 0, v, t, .cons (F := F1) (G := F2) h1 h2 h3, e1, e2 => by
    simp at e1 e2
    subst e1; subst e2
    refine ⟨F1, h1, fun a z => List.mem_append_left _ z, fun w u G2 o k q => ⟨G2 ++ F2, .cons o (h2.mono (Ex.refl B) fun a o ha z => k a o (List.mem_append_right _ ha) (fun y => h3 a y ha) z) fun a z1 z2 => ?_, fun a z => (List.mem_append.mp z).elim .inr fun z => .inl (List.mem_append_right _ z)⟩⟩
    rcases q a z1 with z | z
    · exact h3 a z z2
    · exact z (List.mem_append_right _ z2)
  | _, _, _, k + 1, v, t, .cons (F := F1) (G := F2) h1 h2 h3, e1, e2 => by
    obtain ⟨G, q1, q2, q3⟩ := OwAll.swap (k := k) (v := v) (t := t) h2 (by simpa using e1) (by simpa using e2)
    refine ⟨G, q1, fun a z => List.mem_append_right _ (q2 a z), fun w u G2 o k q => ?_⟩
    obtain ⟨F', w1, w2⟩ := q3 w u G2 o (fun a o ha n z => k a o (List.mem_append_right _ ha) n z) fun a ha => (q a ha).elim .inl fun z => .inr fun y => z (List.mem_append_right _ y)
    refine ⟨F1 ++ F', .cons (h1.mono (Ex.refl B) fun a o ha z => k a o (List.mem_append_left _ ha) (fun y => h3 a ha (q2 a y)) z) w1 fun a z1 z2 => ?_, fun a z => ?_⟩
    · rcases w2 a z2 with z | z
      · exact h3 a z1 z
      · rcases q a z with y | y
        · exact h3 a z1 (q2 a y)
        · exact y (List.mem_append_left _ z1)
    · rcases List.mem_append.mp z with z | z
      · exact .inl (List.mem_append_left _ z)
      · exact (w2 a z).elim (fun z => .inl (List.mem_append_right _ z)) .inr
end
section
variable {T : List NTab} {IO : List Nat} {W : St → XK} {X : Cx} {a b c e o k : Expr} {es rest : List Expr} {pos p apos py pz ps_ : Pos} {ga gb : M D} {go_ : M Sl} {x m fl y z : Str}
theorem et_peek {g : M Bool} (h : ET T W X e g) : ET T W X e (mPeekT g) := pt_imp h fun σ H Q ⟨ρ, B, Fs, s, q⟩ => by
  unfold mPeekT at q
  have sB : ∀ a o, B a = some o → noTab H a = some o := fun a o e => noTab_some (s.ex a o e) fun ps z => s.noT a ps (by rw [e, z])
  have s0 : SR T X.K (frzE ρ) σ H (noTab H) (fun _ => []) := by
    refine ⟨fun a o e => (of_noTab e).1, s.tabs, fun a ps e => (of_noTab e).2 ps rfl, fun i t e => ?_, fun _ _ => rfl, (fun _ _ _ _ h => by cases h), (fun _ _ h => by cases h)⟩
    obtain ⟨u, e1, rfl⟩ := frzE_get e
    obtain ⟨v, q1, q2⟩ := s.slot i u e1
    exact ⟨v, q1, .d (q2.frz sB fun a o ha ho => noTab_some ho fun ps z => by
      obtain ⟨w, hw, own⟩ := q2.there a ha
      rw [ho] at hw; cases hw
      rw [z] at own; exact own)⟩
  refine ⟨frzE ρ, noTab H, fun _ => [], s0, ?_⟩
  cases e : g (frzE ρ) with
  | fail => rw [e] at q; exact q.elim
  | exc c fs ρ' => rw [e] at q; exact q.elim
  | ok d ρ' =>
    rw [e] at q
    intro H' B' Fs' s' st
    have keep : ∀ a o, (∀ ps, o ≠ .tbl ps) → H a = some o → H' a = some o := fun a o n e => st.keep a o (fun ⟨i, z⟩ => by cases z) n e
    have exB : Ex B H' := fun a o e => keep a o (fun ps z => s.noT a ps (by rw [e, z])) (s.ex a o e)
    refine q H' B Fs ⟨exB, s'.tabs, s.noT, fun i t e => ?_, s.off, s.apart, s.offB⟩ ⟨fun a o _ n e => keep a o n e, st.there, Ex.refl _, fun a z => .inl z, fun a z => .inl z⟩
    obtain ⟨v, q1, q2⟩ := s.slot i t e
    exact ⟨v, q1, q2.mono (Ex.refl _) fun a o ha ho => by
      obtain ⟨w, hw, own⟩ := q2.there a ha
      rw [ho] at hw; cases hw
      exact keep a o (fun ps z => by rw [z] at own; exact own) ho⟩
/-- x[k].append(z): the list in a list, the item a variable's data -/
def mAppIxV (i : Nat) (g : M D) (j : Nat) : M Sl := guard (isOl i) (M.bind g fun d ρ => match d, ρ[i]?, ρ[j]? with
  | .int k, some (some (.ol l)), some (some (.d x)) => if 0 ≤ k ∧ k < (l.length : Int) then (match l[k.toNat]? with
    | some (.ol m) => if lineOk (m.length + 1) = true then .ok (.d .non) (ρ.set i (some (.ol (l.set k.toNat (.ol (m ++ [.d x])))))) else .fail
    | _ => .fail) else .fail
  | _, _, _ => .fail)
theorem atI_nat {α : Type} {xs : List α} {k : Int} {v : α} (h1 : 0 ≤ k) (h2 : k < (xs.length : Int)) (e : xs[k.toNat]? = some v) : atI xs k = some v := by
  unfold atI ixN
  rw [if_pos h1, if_pos h2]
  exact e
theorem eo_appIxV (i j : Nat) (hn : NameOk X i y) (hk : ED T W X k ga) (hj : NameOk X j z) (hix : PlainIx k)
    (hbase : attributeBase (.Subscript (.Name y py) k ps_) "append" X.env (eval (.Subscript (.Name y py) k ps_) X.env) = eval (.Subscript (.Name y py) k ps_) X.env := by rfl)
    (hfew : ((backTo pos (starEach [.Name z pz] X.env)).all (fun x => !x.1) && (backToKw pos (keywordEach [] X.env)).all (fun x => x.1.isSome) && decide (([.Name z pz] : List Expr).length + ([] : List Keyword).length + (if ([] : List Keyword).isEmpty then 0 else 1) < 30)) = true := by rfl)
    (hline : (apos.endLine == pos.line) = true := by rfl) (hs : starEach [.Name z pz] X.env = (false, eval (.Name z pz) X.env) :: starEach [] X.env := by rfl) (hplain : (backTo pos (starEach [] X.env)).any (·.1) = false := by rfl) :
    EO T W X (.Call (.Attribute (.Subscript (.Name y py) k ps_) "append" apos) [.Name z pz] [] pos) (mAppIxV i ga j) :=
  pe_imp (pe_bm PySem.F.plainAttrs_list PySem.F.slot_list_append PySem.F.type_list_append mt_append (pe_ix ix_seq (hn.pe (py := py)) hk hix) (pa_cons (hj.pe (py := pz)) pa_nil hs) hbase hfew hline hs hplain) fun σ H Q ⟨ρ, B, Fs, s, h⟩ => by
    unfold mAppIxV guard at h
    split at h
    case isFalse => exact h.elim
    case isTrue hi =>
      obtain ⟨l, el⟩ := isOl_of hi
      obtain ⟨a, xs, F, q1, q2, _⟩ := s.list el
      refine ⟨.ref a, q1, bindD pl_O s h fun v d ρ1 H1 B1 Fs1 s1 i1 st1 hh => ?_⟩
      split at hh
      case h_2 => exact hh.elim
      case h_1 k0 l1 x1 e1 e2 =>
        split at hh
        case isFalse => exact hh.elim
        case isTrue hk0 =>
          split at hh
          case h_2 => exact hh.elim
          case h_1 m em =>
            split at hh
            case isFalse => exact hh.elim
            case isTrue hl =>
              cases i1
              obtain ⟨a1, xs1, F1, r1, r2, r3, r4, r5⟩ := s1.list e1
              rw [q1] at r1; cases r1
              obtain ⟨vk, Gk, w1, w2, w3⟩ := r3.get em
              obtain ⟨vj, j1, j2⟩ := s1.slot j _ e2
              have ij := j2.isD.1
              cases w2 with
              | @ol b zs _ Gz g1 g2 g3 =>
                refine .inl ⟨a, xs1, k0, .ref b, rfl, rfl, .of r2, atI_nat hk0.1 (by rw [r3.length]; exact hk0.2) w1, .inl ⟨rfl, zs, .of g1⟩, vj, j1, b, zs, vj, rfl, rfl, g1, by rw [g3.length]; exact lt_line hl, ?_⟩
                obtain ⟨G, o1, o2, o3⟩ := OwAll.swap (H' := upd H1 b (.lst (zs ++ [vj]))) r3 w1 em
                have hG : ∃ Gz', G = b :: Gz' ∧ b ∉ Gz' ∧ OwAll X.K B1 H1 zs m Gz' := by
                  generalize hv : V.ref b = vb at o1
                  cases o1 with
                  | ol y1 y2 y3 => cases hv; rw [g1] at y1; cases y1; exact ⟨_, rfl, y2, y3⟩
                obtain ⟨Gz', rfl, nb, oz⟩ := hG
                have ab : a ≠ b := fun z => r4 (by rw [z]; exact o2 b List.mem_cons_self)
                obtain ⟨F2, t1, t2⟩ := OwAll.snoc (.d ij : Ow X.K B1 H1 vj (.d x1) []) oz fun _ _ z => by cases z
                have sub2 : ∀ x, x ∈ F2 → x ∈ Gz' := fun x hx => ((t2 x).mp hx).elim id fun z => by cases z
                have new : Ow X.K B1 (upd H1 b (.lst (zs ++ [vj]))) (.ref b) (.ol (m ++ [.d x1])) (b :: F2) := .ol upd_same (fun z => nb (sub2 b z)) (t1.mono (Ex.refl _) fun x o hx e => by
                  rw [upd_ne (fun z => nb (by rw [← z]; exact sub2 x hx))]; exact e)
                obtain ⟨F3, u1, u2⟩ := o3 _ _ _ new (fun x o hx nx e => by rw [upd_ne (fun z => nx (by rw [z]; exact List.mem_cons_self))]; exact e) (fun x hx => .inl ((List.mem_cons.mp hx).elim (fun z => by rw [z]; exact List.mem_cons_self) fun z => List.mem_cons_of_mem _ (sub2 x z)))
                have subF : ∀ x, x ∈ F3 → x ∈ F1 := fun x hx => (u2 x hx).elim id fun z => o2 x ((List.mem_cons.mp z).elim (fun z => by rw [z]; exact List.mem_cons_self) fun z => List.mem_cons_of_mem _ (sub2 x z))
                have ex0 : xs1.set k0.toNat (.ref b) = xs1 := by
                  refine List.ext_getElem? fun n => ?_
                  by_cases hn : k0.toNat = n
                  · subst hn
                    rw [List.getElem?_set_self (List.getElem?_eq_some_iff.mp w1).1, w1]
                  · rw [List.getElem?_set_ne hn]
                rw [ex0] at u1
                obtain ⟨z1, z2⟩ := s1.write (i := i) (t' := .ol (l1.set k0.toNat (.ol (m ++ [.d x1])))) (G := a :: F3) (Fr := []) e1 q1 (a := b) (by rw [r5]; exact List.mem_cons_of_mem _ (o2 b List.mem_cons_self))
                  (.ol (by rw [upd_ne ab]; exact r2) (fun z => r4 (subF a z)) u1) (fun x hx => .inl (by
                    rw [r5]
                    rcases List.mem_cons.mp hx with z | z
                    · rw [z]; exact List.mem_cons_self
                    · exact List.mem_cons_of_mem _ (subF x z))) .nil
                exact hh .non _ B1 _ [] z1 (.d .non) .nil (Step.tmp.trans z2).toTmp
end
end DL

end
section
set_option Elab.async false
set_option linter.all false
set_option autoImplicit false
set_option maxRecDepth 100000
set_option maxHeartbeats 4000000
/-! The data layer, part 18: what the printed texts lean on. -/
namespace DL
open PySem PySem.Spec L2 NdefX
def fuel : Nat := 1000000
theorem units1 {k : Nat} {A : Around} (r : Room k A) : A.units + 1 < cLine := by have := r.un; omega
theorem nok {X : Cx} {y : Str} (i : Nat) (hN : X.N[i]? = some y := by rfl) (hv : Vis X.env.scope y := by first | exact Or.inl rfl | exact Or.inr (Or.inl rfl) | exact Or.inr (Or.inr rfl)) (hd : (y == ("__debug__" : Str)) = false := by decide)
    (hcd : (y == ("__classdict__" : Str)) = false := by decide) : NameOk X i y := ⟨hN, hv, hd, hcd⟩
theorem pty {X : Cx} {x : Str} {p : Pos} {n : String} (hm : X.mg x = none) (hv : bootBuiltins x = some (.type n) := by decide +kernel) (hg : Gl X x := by rfl) (hn : x ≠ "__name__" := by decide) (hd : (x == ("__debug__" : Str)) = false := by decide) : PE X (.Name x p) (tC (.ty n)) :=
  pe_bltn (v := .ty n) hg hm hv rfl hn hd
/-- the def's own data at an address -/
def fdOf (K : PySem.W.Frag) (f : Addr) : FuncData := match K.lookup f with
  | some ⟨_, _, .func fd, _⟩ => fd
  | _ => PySem.W.fnOf "" "" ⟨[], [], none, [], [], none, []⟩ [] ⟨.function, [], false, false, []⟩ .none .none .none .none none .none .none
theorem fdOf_eq {K : PySem.W.Frag} {x qual : Str} {params : Arguments} {body : List Stmt} {scope : Scope} {dvs : List V} {kws : List (Str × V)} {f : Addr} {fd : FuncData} (F : FunD K x qual params body scope dvs kws f fd) : FunD K x qual params body scope dvs kws f (fdOf K f) := by
  have e : fd = fdOf K f := by
    obtain ⟨oc, od, dV, kV, doc, pm, an, cdv, ct, osl, _, lk, _⟩ := F.ex
    unfold fdOf
    rw [lk]
  rw [← e]
  exact F
/-- a property's getter -/
def propOf (K : PySem.W.Frag) (C m : Str) : Addr := He.ma K (He.ga K C) m
def getterOf (K : PySem.W.Frag) (C m : Str) : Addr := match PySem.W.recIn K (propOf K C m) "property" with
  | some (.ref g :: _) => g
  | _ => 0
/-- a name of the module that stands for data -/
def ConstG (K : PySem.W.Frag) (mg : Str → Option Value) (x : Str) (d : D) : Prop := ∃ v u, mg x = some u ∧ RelV v u ∧ ∀ B, Is K B v d
theorem ConstG.ed {T : List NTab} {W : St → XK} {X : Cx} {x : Str} {d : D} {pos : Pos} (c : ConstG X.K X.mg x d) (hg : Gl X x := by rfl) (hd : (x == ("__debug__" : Str)) = false := by decide) : ED T W X (.Name x pos) (mC d) := by
  obtain ⟨v, u, hm, r, i⟩ := c
  exact ed_glob hm r i hg hd
theorem noCls {K : PySem.W.Frag} : ∀ c ∈ ([] : List Str), C8.InsC K (He.ga K c) := fun _ h => by cases h
theorem nin {IO : List Nat} {i : Nat} (h : IO.contains i = false) : i ∉ IO := fun z => by simp [z] at h
theorem ed_gl {T : List NTab} {W : St → XK} {X : Cx} {x : Str} {pos : Pos} (hm : X.mg x = some (.ref (He.ga X.K x))) (hg : Gl X x := by rfl) (hd : (x == ("__debug__" : Str)) = false := by decide) : ED T W X (.Name x pos) (mC (.glo x)) :=
  ed_glob (v := .ref (He.ga X.K x)) hm rfl (fun _ => .glo x) hg hd
end DL

end
section
set_option Elab.async false
set_option linter.all false
set_option autoImplicit false
set_option maxRecDepth 100000
set_option maxHeartbeats 4000000
/-! The data layer, part 19: tests that are handed on: what is asked of them, and a statement that asks one. -/
namespace DL
open PySem PySem.Spec L2 NdefX
/-- the objects of Z stand in H, and nobody who runs owns them -/
def ZOk (Z : Hp) (F : Addr → Prop) (H : Hp) : Prop := ∀ a o, Z a = some o → H a = some o ∧ ¬ F a ∧ ∀ ps, o ≠ .tbl ps
theorem ZOk.step {Z H B H' B' : Hp} {F F' : Addr → Prop} (z : ZOk Z F H) (s : Step H B F H' B' F') : ZOk Z F' H' := fun a o e => by
  obtain ⟨h1, h2, h3⟩ := z a o e
  refine ⟨s.keep a o h2 h3 h1, fun f => ?_, h3⟩
  rcases s.newF a f with q | q
  · exact h2 q
  · exact q.not h1 h3
/-- what is known behind a call that owns nothing -/
structure Still (T : List NTab) (H H' : Hp) : Prop where
  keep : ∀ a o, (∀ ps, o ≠ .tbl ps) → H a = some o → H' a = some o
  tabs : TabsN T H'
theorem SR.still {T : List NTab} {K : PySem.W.Frag} {ρ : Env} {σ : St} {H B H' : Hp} {Fs : Nat → List Addr} (s : SR T K ρ σ H B Fs) (q : Still T H H') : SR T K ρ σ H' B Fs ∧ ∀ F, Step H B F H' B F := by
  refine ⟨⟨fun a o e => q.keep a o (fun ps z => s.noT a ps (by rw [e, z])) (s.ex a o e), q.tabs, s.noT, fun i t e => ?_, s.off, s.apart, s.offB⟩, fun F => ⟨fun a o _ n e => q.keep a o n e, fun _ e => e, Ex.refl _, fun _ e => .inl e, fun _ e => .inl e⟩⟩
  obtain ⟨v, q1, q2⟩ := s.slot i t e
  exact ⟨v, q1, q2.mono (Ex.refl _) fun a o ha ho => by
    obtain ⟨w, hw, own⟩ := q2.there a ha
    rw [ho] at hw; cases hw
    exact q.keep a o (fun ps z => by rw [z] at own; exact own) ho⟩
/-- the function at f, called in the frame of X with data, is a test: it says φ; it leans on the objects of Z -/
structure Clo (T : List NTab) (X : Cx) (f : Addr) (Z : Hp) (φ : D → Option Bool) : Prop where
  fn : ∀ (pins : List (Addr × Obj)) (s : Shared) (σ : St) (H : Hp), Inv X pins σ H s → ZOk Z (fun _ => False) H → PySem.W.FnAt f s.heap
  run : ∀ (pins : List (Addr × Obj)) (s : Shared) (σ : St) (H B : Hp) (v : V) (u : Value) (d : D) (b : Bool) (Q : VK), Inv X pins σ H s → ZOk Z (fun _ => False) H → Ex B H → NoT B → TabsN T H → RelV v u → Is X.K B v d → φ d = some b →
    (∀ H', Still T H H' → Q (.bl b) H') → wpAny (model X.prog X.w) X.A (call (.ref f) [u]) (EP X pins σ Q) X.xe s
theorem ZOk.free {Z H : Hp} {F : Addr → Prop} (z : ZOk Z F H) : ZOk Z (fun _ => False) H := fun a o e => ⟨(z a o e).1, id, (z a o e).2.2⟩
def mAsk (φ : D → Option Bool) (ga : M D) : M D := M.bind ga fun d => M.of ((φ d).map .bl)
section
variable {T : List NTab} {IO : List Nat} {W : St → XK} {X : Cx} {f : Addr} {Z : Hp} {φ : D → Option Bool} {e1 ea : Expr} {z : Str} {p pc pn po pos : Pos} {rs : Stmt} {g1 : M Bool} {ga : M D} {j : Nat}
def tAskE (T : List NTab) (K : PySem.W.Frag) (W : St → XK) (f : Addr) (Z : Hp) (φ : D → Option Bool) (j : Nat) (ga : M D) : TE := fun σ H Q => σ[j]? = some (some (.ref f)) ∧ ∃ ρ B Fs, SR T K ρ σ H B Fs ∧ ZOk Z (Own Fs) H ∧ postD T K (W σ) (mAsk φ ga ρ) σ H B (Own Fs) Q
/-- z(ea), z the test -/
theorem pe_ask (c : Clo T X f Z φ) (hz : NameOk X j z) (ha : ED T W X ea ga) (hs : starEach [ea] X.env = (false, eval ea X.env) :: starEach [] X.env := by rfl) (hpl : (backTo pc (starEach [] X.env)).any (·.1) = false := by rfl) :
    PE X (.Call (.Name z p) [ea] [] pc) (tAskE T X.K W f Z φ j ga) := by
  refine ⟨fun pins s σ H Q I ⟨hσ, ρ, B, Fs, sr, zo, h⟩ => ?_⟩
  refine wpAny_Call_Name_kw (thn ((hz.pe (py := p)).run pins s σ H (fun v H1 => v = .ref f ∧ H1 = H) I ⟨.ref f, hσ, rfl, rfl⟩) fun u s1 ⟨v, H1, I1, r1, ev, eH⟩ => ?_)
  subst ev
  rw [eH] at I1
  obtain rfl : u = Value.ref f := r1
  have rd : tD T X.K W ga σ H fun v H2 => ∃ ρ2 B2 Fs2 d, SR T X.K ρ2 σ H2 B2 Fs2 ∧ Is X.K B2 v d ∧ ZOk Z (Own Fs2) H2 ∧ postD T X.K (W σ) (M.of ((φ d).map D.bl) ρ2) σ H2 B2 (Own Fs2) Q :=
    bindD pl_D sr h fun v d ρ2 H2 B2 Fs2 s2 i2 st h => ⟨ρ2, B2, Fs2, d, s2, i2, zo.step st, h⟩
  refine PySem.W.callWith_F (first := []) (c.fn _ _ _ _ I1 zo.free) (thn ((pa_cons ha pa_nil hs).run pc pins s1 σ H (fun vs H2 => ∃ v, vs = [v] ∧ ∃ ρ2 B2 Fs2 d, SR T X.K ρ2 σ H2 B2 Fs2 ∧ Is X.K B2 v d ∧ ZOk Z (Own Fs2) H2 ∧ postD T X.K (W σ) (M.of ((φ d).map D.bl) ρ2) σ H2 B2 (Own Fs2) Q) I1 ?_) fun us s2 ⟨vs, H2, I2, r, q⟩ => ?_) hs hpl
  · obtain ⟨ρ', B', Fs', k1, k2⟩ := rd
    refine ⟨ρ', B', Fs', k1, ?_⟩
    cases eg : ga ρ' with
    | fail => rw [eg] at k2; exact k2
    | exc cc fs ρ1 => rw [eg] at k2; exact k2
    | ok d ρ1 =>
      rw [eg] at k2
      exact fun v H' B' Fs' a b cc => ⟨v, rfl, k2 v H' B' Fs' a b cc⟩
  · obtain ⟨v, rfl, ρ2, B2, Fs2, d, s2', i2, zo2, h2⟩ := q
    cases r with
    | cons rv rr =>
      cases rr
      refine ⟨c.fn _ _ _ _ I2 zo2.free, ?_⟩
      cases eφ : φ d with
      | none => rw [eφ] at h2; exact h2.elim
      | some b =>
        rw [eφ] at h2
        refine c.run pins s2 σ H2 B2 v _ d b Q I2 zo2.free s2'.ex s2'.noT s2'.tabs rv i2 eφ fun H' st => ?_
        obtain ⟨s3, st3⟩ := s2'.still st
        exact h2 (.bl b) H' B2 Fs2 s3 (.bl b) (st3 _)
/-- the first statement of what asks: if e1 or not z(ea): raise -/
def tAsk1 (T : List NTab) (K : PySem.W.Frag) (IO : List Nat) (W : St → XK) (f : Addr) (Z : Hp) (φ : D → Option Bool) (j : Nat) (g1 : M Bool) (ga : M D) (k : SM) : TS := fun D σ H => σ[j]? = some (some (.ref f)) ∧ ∃ ρ B Fs, SR T K ρ σ H B Fs ∧ ZOk Z (Own Fs) H ∧
  postS T K IO W (sSeq (sIf (mOr g1 (mNot (mTest (mAsk φ ga)))) sFail sNext) k ρ) D σ H B (Own Fs)
theorem pss_ask {rest : List Stmt} {k : SM} (c : Clo T X f Z φ) (h1 : ET T W X e1 g1) (hz : NameOk X j z) (ha : ED T W X ea ga) (hk : ESs T IO W X rest k)
    (hs : starEach [ea] X.env = (false, eval ea X.env) :: starEach [] X.env := by rfl) (hpl : (backTo pc (starEach [] X.env)).any (·.1) = false := by rfl) :
    PSs X (.If (.BoolOp .Or [e1, .UnaryOp .Not (.Call (.Name z p) [ea] [] pc) pn] po) [rs] [] pos :: rest) (tAsk1 T X.K IO W f Z φ j g1 ga k) := by
  have never : PSs X [rs] (fun _ _ _ => False) := pss_one ⟨fun _ _ _ _ _ _ h => h.elim⟩
  refine pss_imp (pss_cons (ps_if (pw_or h1 (pw_or1 (pt_not (pt_val (pe_ask (p := p) (pc := pc) c hz ha hs hpl))))).pt never pss_nil) hk) fun D_ σ H ⟨hσ, ρ, B, Fs, s, zo, h⟩ => ?_
  refine ⟨ρ, B, Fs, s, ?_⟩
  unfold sSeq sIf bindS mOr M.bind at h
  cases eg : g1 ρ with
  | fail => rw [eg] at h; exact h.elim
  | exc cc fs ρ1 => rw [eg] at h; exact h.x
  | ok b ρ1 =>
    rw [eg] at h
    intro H1 B1 Fs1 s1 st1
    have h := h.from st1 .refl
    cases b with
    | true => exact h.elim
    | false =>
      have zo1 := zo.step st1
      refine ⟨hσ, ρ1, B1, Fs1, s1, zo1, ?_⟩
      have h2 : postS T X.K IO W (match (match (match (mAsk φ ga ρ1 : Res D) with
        | .ok d ρ2 => (match asB d with
          | some a => (Res.ok a ρ2 : Res Bool)
          | none => .fail)
        | .exc c fs ρ2 => .exc c fs ρ2
        | .fail => .fail) with
        | .ok x ρ2 => (if (!x) = true then (sFail ρ2) else .nx ρ2 : Fl)
        | .exc c fs ρ2 => .exc c fs ρ2
        | .fail => .fail) with
        | .nx ρ2 => k ρ2
        | r => r) D_ σ H1 B1 (Own Fs1) := by
        have e : ∀ ρ, mNot (mTest (mAsk φ ga)) ρ = (match (match (mAsk φ ga ρ : Res D) with
          | .ok d ρ2 => (match asB d with
            | some a => (Res.ok a ρ2 : Res Bool)
            | none => .fail)
          | .exc c fs ρ2 => .exc c fs ρ2
          | .fail => .fail) with
          | .ok x ρ2 => .ok (!x) ρ2
          | .exc c fs ρ2 => .exc c fs ρ2
          | .fail => .fail) := fun ρ => by
          unfold mNot mTest M.bind
          cases mAsk φ ga ρ with
          | ok d ρ2 =>
            dsimp only
            unfold M.of
            cases asB d <;> rfl
          | _ => rfl
        dsimp only at h
        rw [if_neg Bool.false_ne_true, e] at h
        revert h
        cases mAsk φ ga ρ1 with
        | ok d ρ2 =>
          dsimp only
          cases asB d with
          | none => exact id
          | some x => cases x <;> exact id
        | _ => exact id
      cases ek : mAsk φ ga ρ1 with
      | fail => rw [ek] at h2; exact h2.elim
      | exc cc fs ρ2 => rw [ek] at h2; exact h2.x
      | ok d ρ2 =>
        rw [ek] at h2
        intro v H2 B2 Fs2 s2 i2 st2
        have h3 := h2.from st2 .refl
        cases d with
        | bl x =>
          cases i2
          refine ⟨x, rfl, ?_⟩
          cases x with
          | true => exact ⟨ρ2, B2, Fs2, s2, h3⟩
          | false => exact h3.elim
        | _ => exact h3.elim
/-- a def of the module as a test -/
theorem Clo.of_fn {k : Nat} {fd : FuncData} {ps : List Str} {g : M Sl} (G : GF T X k f fd ps 1 g) (hr : Room k X.A) {x qual : Str} {params : Arguments} {body : List Stmt} {scope : Scope} {dvs : List V} {kws : List (Str × V)} (F : FunD X.K x qual params body scope dvs kws f fd) (b : Binds X.K fd ps []) (hφ : ∀ d x, φ d = some x → ∃ ρ, g [some (.d d)] = .ok (.d (.bl x)) ρ) : Clo T X f Z φ where
  fn := fun pins s σ H I _ => by
    obtain ⟨oc, od, dV, kV, doc, pm, an, cdv, ct, osl, _, lk, _⟩ := F.ex
    exact ⟨oc, od, fd, osl, I.kIn _ _ lk⟩
  run := fun pins s σ H B v u d x Q I _ ex nt tb rv i e q => by
    obtain ⟨ρf, eg⟩ := hφ d x e
    refine run_fn (us := [u]) (vs := [v]) G hr b .nil pass0 I (.cons rv .nil) ?_
    have s0 : SR T X.K [some (.d d)] [some v] H B (fun _ => []) := ⟨ex, tb, nt, fun n t e => (by
      cases n with
      | zero => cases e; exact ⟨v, rfl, .d i⟩
      | succ n => cases e), fun _ _ => rfl, fun _ _ _ _ h => (by cases h), fun _ _ h => (by cases h)⟩
    refine ⟨rfl, [some (.d d)], B, fun _ => [], s0, ?_⟩
    rw [eg]
    intro w H' B' Fs' Fr s' o' of st
    have iw := o'.isD.1
    cases iw
    exact q H' ⟨fun a o n e => st.keep a o (fun ⟨_, z⟩ => by cases z) n e, s'.tabs⟩
end
end DL

end
section
set_option Elab.async false
set_option linter.all false
set_option autoImplicit false
set_option maxRecDepth 100000
set_option maxHeartbeats 4000000
/-! The data layer, part 20: lambdas with parameters, as tests. -/
namespace DL
open PySem PySem.Spec L2 NdefX
/-- the lambda's words (F.body is not looked at) and its body -/
abbrev lamO (F : NF) (body : Expr) (pm ctv : Value) : Obj := PySem.W.kla_obj "<lambda>" F.qual F.params body F.scope F.cl pm F.c ctv
section
variable {P : Program} {w : World} {K : PySem.W.Frag} {mg : Str → Option Value} {base : Heap} {N ps fr : List Str} {F : NF} {f : Addr} {k : Nat} {body : Expr} {sp : List (Option V) → Sp}
/-- a lambda's promise: like a nested def's -/
theorem lam_run (S : NScope N ps fr F.scope) (hb : ∀ (pm ctv : Value) (us : List Value), us.length = ps.length → bindArgs (PySem.W.kla_fn "<lambda>" F.qual F.params body F.scope F.cl pm (.ref F.c) ctv) ⟨us, []⟩ = pure (ps.zip us))
    {A : Around} {outer : List PySem.Env} {s : Shared} {H : Hp} {us : List Value} {vs : List V} {ws : List (Option V)} {Q : VK} {pm ctv : Value} (hr : Room (k + 1) A) (e0 : Env0 P w K mg base A outer s H) (ho : s.heap.get? f = some (lamO F body pm ctv)) (hc : H F.c = some (LamX.CodeO F.c F.qual))
    (C : CellsAt F.cl fr ws s.heap H) (r : Vals vs us) (hl : vs.length = ps.length) {t : TE} (ht : Room k (A.deeper (envF F f s.heap.objs.size)) → PE (ncx CX0 P w K mg base N F f A outer s H E0).nox body t) (hq : t (startF N vs ws) H Q) :
    codeAny (model P w) A (.call (.ref f) ⟨us, []⟩) (CR CX0 outer P w H s Q E0) s := by
  have lim : s.heap.NoLimit := e0.mod.nolimit.keeps fun b o e => (e0.bs b o e).1
  refine PySem.W.kla_callFunE hr.depth ho rfl S.co S.gen rfl (codeO_at e0.hok hc) ?_
  rw [hb pm ctv us (by rw [← r.length]; exact hl)]
  refine wpAny_pure (wpAny_newFunctionEnv S.nocell (fun ⟨n, _⟩ hy => S.par n (List.of_mem_zip hy).1) (fun h₁ hns hsb => ⟨lim.fresh _ hsb, ?_⟩) S.kind)
  show codeAny _ _ (.expr body (envF F f s.heap.objs.size)) _ _
  have kp : ∀ b o, s.heap.get? b = some o → h₁.get? b = some o := fun b o e => hsb.extBut b o (Nat.ne_of_lt (Heap.lt_size e)) (Heap.get?_push_of_some _ e)
  have I : Inv (ncx CX0 P w K mg base N F f A outer s H E0) [] (startF N vs ws) H { s with heap := h₁, toks := s.toks + (ps.zip us).length } := inv_startN S hr.hd e0 hl r C hns kp
  have ht' := ht (hr.deeper _)
  refine PySem.W.kla_codeExpr (wpAny_mono ((PE.nox ht').run [] _ (startF N vs ws) H Q I hq) (fun v s' q => ?_) fun e s' q => q)
  obtain ⟨v', H', J, rv, q⟩ := q
  exact ⟨v', H', J.os, J.bare, J.base, J.hok, rv, q⟩
end
section
variable {T : List NTab} {X : Cx} {N ps fr : List Str} {F : NF} {f : Addr} {k : Nat} {body : Expr} {Z : Hp} {φ : D → Option Bool} {pm ctv : Value} {ws : List (Option V)} {caps : List (Option D)} {x : Str}
theorem cells_later {X : Cx} {cl : List (Str × Addr)} {fr : List Str} {ws : List (Option V)} {pins : List (Addr × Obj)} {σ : L2.St} {H : Hp} {s : Shared} (C : CellsAt cl fr ws X.s_0.heap X.H_0) (hx : ∀ y c, cl.lookup y = some c → c ∉ X.ex) (I : Inv X pins σ H s) : CellsAt cl fr ws s.heap H := by
  have kp : ∀ y c, cl.lookup y = some c → ∀ v, X.s_0.heap.IsCell c v → s.heap.IsCell c v := fun y c e v ⟨o, ho, hd⟩ => by
    obtain ⟨sl, q⟩ := I.base.any ho (C.all y c e).1 (hx y c e)
    exact ⟨_, q, hd⟩
  refine ⟨C.len, fun y c e => ?_, C.inj, fun i y e => ?_⟩
  · obtain ⟨n, v, z⟩ := C.all y c e
    refine ⟨?_, v, kp y c e v z⟩
    obtain ⟨o, ho, _⟩ := z
    exact I.base.free c o ho n (hx y c e)
  · obtain ⟨c, hc, hv⟩ := C.has i y e
    exact ⟨c, hc, fun v ev => (hv v ev).elim fun u z => ⟨u, z.1, kp y c hc _ z.2⟩⟩
/-- the names' data at the lambda's entry -/
def lamEnv0 (m : Nat) (d : D) (caps : List (Option D)) : DL.Env := some (.d d) :: (caps.map fun o => o.map Sl.d) ++ List.replicate m none
theorem Clo.of_lam {g : M D} (S : NScope N [x] fr F.scope) (hb : ∀ (pm ctv : Value) (us : List Value), us.length = ([x] : List Str).length → bindArgs (PySem.W.kla_fn "<lambda>" F.qual F.params body F.scope F.cl pm (.ref F.c) ctv) ⟨us, []⟩ = pure (([x] : List Str).zip us))
    (hr : Room (k + 1) X.A) (h0 : X.s_0.heap.get? f = some (lamO F body pm ctv)) (hn : X.H_0 f = none) (hfr : f ∉ X.fs) (hex : f ∉ X.ex) (hcz : Z F.c = some (LamX.CodeO F.c F.qual)) (C : CellsAt F.cl fr ws X.s_0.heap X.H_0)
    (hx : ∀ y c, F.cl.lookup y = some c → c ∉ X.ex) (hlen : caps.length = fr.length) (hcap : ∀ (i : Nat) (d : D), caps[i]? = some (some d) → ∃ v : V, ws[i]? = some (some v) ∧ Is X.K Z v d)
    (ht : ∀ (A : Around) (outer : List PySem.Env) (s : Shared) (H : Hp), Room k (A.deeper (envF F f s.heap.objs.size)) → ED T W0 (ncx CX0 X.prog X.w X.K X.mg X.base N F f A outer s H E0).nox body g)
    (hφ : ∀ d b, φ d = some b → ∃ ρ', g (lamEnv0 (N.length - 1 - fr.length) d caps) = .ok (.bl b) ρ') : Clo T X f Z φ where
  fn := fun pins s σ H I _ => ⟨_, _, _, _, I.base.keep f _ h0 hn hfr hex⟩
  run := fun pins s σ H B v u d b Q I zo ex nt tb rv i e q => by
    obtain ⟨ρ', eg⟩ := hφ d b e
    have zz : Ex Z (noTab H) := fun a o e => noTab_some (zo a o e).1 (zo a o e).2.2
    have bb : Ex B (noTab H) := fun a o e => noTab_some (ex a o e) fun ps z => nt a ps (by rw [e, z])
    have wl : ws.length = fr.length := C.len
    have hpl : ([x] : List Str).length + fr.length ≤ N.length := by
      have q := congrArg List.length S.pre
      rw [List.length_take, List.length_append] at q
      omega
    have s0 : SR T X.K (lamEnv0 (N.length - 1 - fr.length) d caps) (startF N [v] ws) H (noTab H) (fun _ => []) := by
      refine ⟨fun a o e => (of_noTab e).1, tb, fun a ps e => (of_noTab e).2 ps rfl, fun n t e => ?_, fun _ _ => rfl, (fun _ _ _ _ h => by cases h), (fun _ _ h => by cases h)⟩
      unfold lamEnv0 at e
      unfold startF
      cases n with
      | zero => cases e; exact ⟨v, rfl, .d (i.mono bb)⟩
      | succ n =>
        have e : ((caps.map fun o => o.map Sl.d) ++ List.replicate (N.length - 1 - fr.length) none)[n]? = some (some t) := e
        by_cases lt : n < caps.length
        · rw [List.getElem?_append_left (by rw [List.length_map]; exact lt), List.getElem?_map] at e
          cases ec : caps[n]? with
          | none => rw [ec] at e; cases e
          | some od =>
            rw [ec] at e
            cases od with
            | none => cases e
            | some dd =>
              cases e
              obtain ⟨w, h1, h2⟩ := hcap n dd ec
              refine ⟨w, ?_, .d (h2.mono zz)⟩
              show (ws ++ List.replicate _ none)[n]? = _
              rw [List.getElem?_append_left (by omega)]
              exact h1
        · rw [List.getElem?_append_right (by rw [List.length_map]; omega), List.getElem?_replicate] at e
          split at e <;> cases e
    refine wpAny_call (codeAny_mono (lam_run S hb hr I.env0 (I.base.keep f _ h0 hn hfr hex) (zo _ _ hcz).1 (cells_later C hx I) (.cons rv .nil) rfl (fun hr' => ht X.A X.stack s H hr') (⟨_, noTab H, fun _ => [], s0, ?_⟩ : tD T X.K W0 g (startF N [v] ws) H Q)) fun r s' hq => ?_)
    · rw [eg]
      intro v' H' B' Fs' s' i' st
      cases i'
      exact q H' ⟨fun a o n e => st.keep a o (fun ⟨_, z⟩ => by cases z) n e, s'.tabs⟩
    · cases r with
      | error er => exact (show False from hq).elim
      | ok fl =>
        cases fl with
        | ret u => exact I.after hq
        | next => exact False.elim hq
        | brk => exact False.elim hq
        | cont => exact False.elim hq
end
end DL

end
section
set_option Elab.async false
set_option linter.all false
set_option autoImplicit false
set_option maxRecDepth 100000
set_option maxHeartbeats 4000000
/-! The data layer, part 21: a method that is given a test. -/
namespace DL
open PySem PySem.Spec L2 NdefX
open PyProof.Rows (envOfC)
/-- what a slot holds, as data -/
def capD : Option (Option Sl) → Option D
  | some (some s) => some (frz s)
  | _ => none
def bAsk (g1 : M Bool) (ga : M D) (k : SM) (φ : D → Option Bool) : SM := sSeq (sIf (mOr g1 (mNot (mTest (mAsk φ ga)))) sFail sNext) k
/-- x.m(test), the instance in the variable i: m's meaning mt by the test -/
def mAskM (c m : Str) (mt : (D → Option Bool) → M Sl) (i : Nat) (js : List Nat) (φ : List (Option D) → D → Option Bool) : M Sl := fun ρ => match ρ[i]? with
  | some (some t) => if isIns c m t = true then (match mt (φ (js.map fun j => capD ρ[j]?)) [some t, none] with
    | .ok r ρf => .ok r (putBack [(0, i)] ρf (ρ.set i none))
    | _ => .fail) else .fail
  | _ => .fail
section
variable {T : List NTab} {W : St → XK} {X : Cx} {ft : Addr} {x qual : Str} {params : Arguments} {body : List Stmt} {scope : Scope} {N : List Str} {p0 p1 : Str} {kt : Nat} {fd : FuncData} {g1 : M Bool} {ga : M D} {k : SM}
/-- the call itself: the instance at a, the test at f -/
theorem ask_core {pins : List (Addr × Obj)} {σ : St} {H B : Hp} {s : Shared} {ρ : DL.Env} {Fs : Nat → List Addr} {Q : VK} {i : Nat} {a f : Addr} {t : Sl} {Z : Hp} {φ : D → Option Bool}
    (F : FunD X.K x qual params body scope [] [] ft fd) (S : FnScope N [p0, p1] scope) (hb : Binds X.K fd [p0, p1] []) (hr : Room (kt + 1) X.A)
    (WT : ∀ {cdv : Value}, Room kt (X.A.deeper (envOfC qual scope s.heap.objs.size ft cdv)) → Clo T (cxOf CX0 X.prog X.w X.K X.mg X.base N qual scope ft cdv X.A X.stack s H E0).nox f Z φ → PSs (cxOf CX0 X.prog X.w X.K X.mg X.base N qual scope ft cdv X.A X.stack s H E0).nox body (tAsk1 T X.K [0] W0 f Z φ 1 g1 ga k))
    (c : ∀ {cdv : Value}, Room kt (X.A.deeper (envOfC qual scope s.heap.objs.size ft cdv)) → Clo T (cxOf CX0 X.prog X.w X.K X.mg X.base N qual scope ft cdv X.A X.stack s H E0).nox f Z φ)
    (I : Inv X pins σ H s) (sr : SR T X.K ρ σ H B Fs) (hi : ρ[i]? = some (some t)) (hv : σ[i]? = some (some (.ref a))) (zo : ZOk Z (fun a => a ∈ Fs i) H)
    (h : postO T X.K (W σ) (match runF 2 (N.length - 2) [0] (bAsk g1 ga k φ) [some t, none] with
    | .ok r ρf => .ok r (putBack [(0, i)] ρf (ρ.set i none))
    | _ => .fail) σ H B (Own Fs) Q) :
    wpAny (model X.prog X.w) X.A (call (.ref ft) [.ref a, .ref f]) (EP X pins σ Q) X.xe s := by
  obtain ⟨oc, od, dV, kV, doc, pm, an, cdv, ct, osl, efd, lk, hcd, _, _⟩ := F.ex
  subst efd
  have hN : 2 ≤ N.length := by
    have q := congrArg List.length S.pre
    rw [List.length_take] at q
    have : min 2 N.length = 2 := q
    omega
  have rc : codeAny (model X.prog X.w) X.A (.call (.ref ft) ⟨[.ref a, .ref f], []⟩) (CR CX0 X.stack X.prog X.w H s Q E0) s := by
    refine LamX.run_ofS (N := N) (ps := [p0, p1]) (us := [.ref a, .ref f]) (vs := [.ref a, .ref f]) lk hcd S hr I.env0 (by
      have := hb s [.ref a, .ref f] I.kIn rfl
      simpa using this) (.cons rfl (.cons rfl .nil)) rfl fun hr' => ⟨_, PSs.nox (WT hr' (c hr')), ?_⟩
    obtain ⟨v0, e0, ow⟩ := sr.slot i t hi
    rw [hv] at e0; cases e0
    have s1 : SR T X.K (ρ.set i none) σ H B (setF Fs i []) := sr.put (List.getElem?_eq_some_iff.mp hi).1 (fun _ _ => rfl) (fun t' q => by cases q) (fun _ => rfl) (Ex.refl B) sr.ex sr.tabs sr.noT (fun _ _ _ _ _ q => q) (fun a z => by cases z) fun j a hj ha => sr.offB j a ha
    have o1 : Off B (setF Fs i []) (Fs i) := fun b hb => ⟨fun j hj => by
      by_cases z : j = i
      · subst z; rw [setF_same] at hj; cases hj
      · rw [setF_ne z] at hj; exact sr.apart j i b z hj hb, sr.offB i b hb⟩
    have st1 : Step H B (Own Fs) H B (fun b => Own (setF Fs i []) b ∨ b ∈ Fs i) := ⟨fun _ _ _ _ q => q, fun _ q => q, Ex.refl B, fun a q => .inl q, fun b q => .inl (by
      rcases q with q | q
      · rcases own_setF q with q | q
        · cases q
        · exact q
      · exact ⟨i, q⟩)⟩
    let FA : Nat → List Addr := fun j => match j with
      | 0 => Fs i
      | _ + 1 => []
    have own : ∀ b, Own FA b ↔ b ∈ Fs i := fun b => ⟨fun ⟨j, hj⟩ => (by
      cases j with
      | zero => exact hj
      | succ j => cases hj), fun hb => ⟨0, hb⟩⟩
    have sA : SR T X.K [some t, none] ([V.ref a, V.ref f].map some) H B FA := ⟨sr.ex, sr.tabs, sr.noT, fun n u e => (by
      cases n with
      | zero => cases e; exact ⟨_, rfl, ow⟩
      | succ n => cases n with
        | zero => cases e
        | succ n => cases e), fun n hn => (by
      cases n with
      | zero => exact absurd rfl (hn t)
      | succ n => rfl), fun n m b hnm hb => (by
      cases n with
      | zero => cases m with
        | zero => exact absurd rfl hnm
        | succ m => exact fun z => by cases z
      | succ n => cases hb), fun n b hb => (by
      cases n with
      | zero => exact sr.offB i b hb
      | succ n => cases hb)⟩
    have s0 := sA.start (N := N) rfl hN
    refine ⟨rfl, _, B, FA, s0, fun b o e => ⟨(zo b o e).1, fun z => (zo b o e).2.1 ((own b).mp z), (zo b o e).2.2⟩, ?_⟩
    have iov : IOv [(0, i)] [V.ref a, V.ref f] σ := fun p hp => by
      have : p = (0, i) := by simpa using hp
      subst this
      exact ⟨.ref a, rfl, hv⟩
    unfold runF at h
    rw [if_pos (show ([some t, none] : DL.Env).length = 2 from rfl)] at h
    show postS T X.K [0] W0 (bAsk g1 ga k φ _) _ _ _ _ _
    cases eb : bAsk g1 ga k φ ([some t, none] ++ List.replicate (N.length - 2) none) with
    | fail => rw [eb] at h; exact h.elim
    | bk ρ' => rw [eb] at h; exact h.elim
    | ct ρ' => rw [eb] at h; exact h.elim
    | exc cc fs ρ' => rw [eb] at h; exact h.elim
    | rt r ρ' =>
      rw [eb] at h
      intro v σ' H' B' Fs' Fr s2 ow2 off st io'
      obtain ⟨Fs2, s3, sub⟩ := s2.finish io' rfl
      have st2 : Step H B (Own FA) H' B' (fun b => Own Fs2 b ∨ b ∈ Fr) := st.congr (fun _ => Iff.rfl) fun b q => q.elim (fun ⟨j, hj⟩ => .inl ⟨j, sub j b hj⟩) .inr
      obtain ⟨Fs3, s4, sub3, notF, st3⟩ := after_call (Fr2 := Fr) s1 o1 (fun b z => .inl ((own b).mp z)) (fun b z => (own b).mpr z) iov (List.nodup_cons.mpr ⟨by simp, List.nodup_nil⟩) s3 st2
      refine h v H' B' Fs3 Fr s4 ow2 (fun b hb => ⟨fun j hj => ?_, (off b hb).2⟩) ((st1.trans (st3.congr (fun _ => Iff.rfl) fun b q => q)).congr (fun _ => Iff.rfl) fun b q => ?_)
      · rcases sub3 b ⟨j, hj⟩ with ⟨n, z⟩ | ⟨n, _, z⟩
        · exact notF n b z (.inr hb)
        · exact (off b hb).1 n (sub n b z)
      · rcases q with q | q
        · rcases sub3 b q with q | ⟨n, _, q⟩
          · exact .inl q
          · exact .inr (.inl ⟨n, q⟩)
        · exact .inr (.inr q)
    | nx ρ' =>
      rw [eb] at h
      intro σ' H' B' Fs' s2 st io'
      obtain ⟨Fs2, s3, sub⟩ := s2.finish io' rfl
      have st2 : Step H B (Own FA) H' B' (fun b => Own Fs2 b ∨ b ∈ ([] : List Addr)) := st.congr (fun _ => Iff.rfl) fun b q => q.elim (fun ⟨j, hj⟩ => ⟨j, sub j b hj⟩) fun z => by cases z
      obtain ⟨Fs3, s4, sub3, notF, st3⟩ := after_call (Fr2 := []) s1 o1 (fun b z => .inl ((own b).mp z)) (fun b z => (own b).mpr z) iov (List.nodup_cons.mpr ⟨by simp, List.nodup_nil⟩) s3 st2
      refine h .non H' B' Fs3 [] s4 (.d .non) .nil ((st1.trans (st3.congr (fun _ => Iff.rfl) fun b q => q)).congr (fun _ => Iff.rfl) fun b q => ?_)
      rcases q with q | q
      · rcases sub3 b q with q | ⟨n, _, q⟩
        · exact .inl q
        · exact .inr (.inl ⟨n, q⟩)
      · cases q
  refine wpAny_call (codeAny_mono rc fun r s' hq => ?_)
  cases r with
  | error e => exact (show False from hq).elim
  | ok fl =>
    cases fl with
    | ret u => exact I.after hq
    | next => exact False.elim hq
    | brk => exact False.elim hq
    | cont => exact False.elim hq
end
section
variable {T : List NTab} {W : St → XK} {X : Cx} {ft : Addr} {x qual c m y gx : Str} {params : Arguments} {body : List Stmt} {scope : Scope} {N : List Str} {p0 p1 : Str} {kt : Nat} {fd : FuncData} {g1 : M Bool} {ga : M D} {k : SM} {apos py pos lpos gpos : Pos}
/-- the walk of a method that is given a test -/
abbrev AskWalk (T : List NTab) (X : Cx) (ft : Addr) (qual : Str) (body : List Stmt) (scope : Scope) (N : List Str) (kt : Nat) (g1 : M Bool) (ga : M D) (k : SM) : Prop :=
  ∀ {cdv : Value} {s : Shared} {H : Hp} {f : Addr} {Z : Hp} {φ : D → Option Bool}, Room kt (X.A.deeper (envOfC qual scope s.heap.objs.size ft cdv)) → Clo T (cxOf CX0 X.prog X.w X.K X.mg X.base N qual scope ft cdv X.A X.stack s H E0).nox f Z φ → PSs (cxOf CX0 X.prog X.w X.K X.mg X.base N qual scope ft cdv X.A X.stack s H E0).nox body (tAsk1 T X.K [0] W0 f Z φ 1 g1 ga k)
abbrev mtOf (N : List Str) (g1 : M Bool) (ga : M D) (k : SM) (φ : D → Option Bool) : M Sl := runF 2 (N.length - 2) [0] (bAsk g1 ga k φ)
/-- x.m(g), g a def of the module -/
theorem eo_askG {kg : Nat} {fg : FuncData} {psg : List Str} {g : M Sl} {xg qg : Str} {pg : Arguments} {bg : List Stmt} {sg : Scope} {dg : List V} {kw : List (Str × V)} {φ : D → Option Bool} {pl : Sem Bool} (i : Nat) (cl : Cls X.K (He.ga X.K c)) (hm : Meth X.K (He.ga X.K c) m ft)
    (F : FunD X.K x qual params body scope [] [] ft fd) (S : FnScope N [p0, p1] scope) (hb : Binds X.K fd [p0, p1] []) (hr : Room (kt + 1) X.A) (WT : AskWalk T X ft qual body scope N kt g1 ga k)
    (G : GF T X kg (He.ga X.K gx) fg psg 1 g) (Fg : FunD X.K xg qg pg bg sg dg kw (He.ga X.K gx) fg) (bG : Binds X.K fg psg []) (hkg : kg ≤ kt) (hmg : X.mg gx = some (.ref (He.ga X.K gx))) (hφ : ∀ d b, φ d = some b → ∃ ρ, g [some (.d d)] = .ok (.d (.bl b)) ρ)
    (hn : NameOk X i y) (hgl : Gl X gx := by rfl) (hdb : (gx == ("__debug__" : Str)) = false := by decide)
    (hst : starEach [.Name gx gpos] X.env = (false, eval (.Name gx gpos) X.env) :: starEach [] X.env := by rfl) (hpl : (backTo pos (starEach [] X.env)).any (·.1) = false := by rfl)
    (ht : eval (.Call (.Attribute (.Name y py) m apos) [.Name gx gpos] [] pos) X.env = (do
      let ov ← eval (.Name y py) X.env
      standAt apos.atName
      let (f, first) ← holding [ov] (getMethod ov m pl)
      callWith pos f first (backTo pos (starEach [.Name gx gpos] X.env)) (backToKw pos (keywordEach [] X.env))) := by rfl) :
    EO T W X (.Call (.Attribute (.Name y py) m apos) [.Name gx gpos] [] pos) (mAskM c m (mtOf N g1 ga k) i [] fun _ => φ) := ⟨fun pins s σ H Q I ⟨ρ, B, Fs, sr, h⟩ => by
  unfold mAskM at h
  cases e : ρ[i]? with
  | none => rw [e] at h; exact h.elim
  | some o =>
    cases o with
    | none => rw [e] at h; exact h.elim
    | some t =>
      rw [e] at h
      dsimp only at h
      split at h
      case isFalse => exact h.elim
      case isTrue hi =>
        obtain ⟨v, h1, h2⟩ := sr.slot i t e
        obtain ⟨a, dx, fs, rfl, ea, el⟩ := isIns_ok sr.ex h2 hi
        refine PySem.W.methodCall_KW (pl := pl) (thn ((hn.pe (py := py)).run pins s σ H (fun v H1 => v = .ref a ∧ H1 = H) I ⟨.ref a, h1, rfl, rfl⟩) fun u s1 ⟨v, H1, I1, rx, ev, eH⟩ => ?_) ht
        subst ev
        rw [eH] at I1
        obtain rfl : u = Value.ref a := rx
        refine getmeth_ok I1 ea cl hm el ?_
        refine PySem.W.callWith_K (first := [.ref a]) (h₀ := X.base) I.ok.mod.kin hm.kp (thn ((pa_cons (pe_glob (v := .ref (He.ga X.K gx)) hgl hmg rfl hdb) pa_nil hst).run pos pins s1 σ H (fun vs H2 => vs = [.ref (He.ga X.K gx)] ∧ H2 = H) I1 ⟨rfl, rfl⟩) fun us s2 ⟨vs, H2, I2, r, ev, eH2⟩ => ⟨I2.kIn, ?_⟩) hst hpl
        subst ev
        rw [eH2] at I2
        cases r with
        | cons rv rr =>
          cases rr
          cases rv
          exact ask_core (Z := fun _ => none) F S hb hr WT (fun hr' => Clo.of_fn G (hr'.mono hkg) Fg bG hφ) I2 sr e h1 (fun a o e => by cases e) h⟩
/-- x.m(lambda p: ..) -/
theorem eo_askL {T0 : List (Addr × Str)} {kl : Nat} {cdo P : Addr} {Nl fr : List Str} {p : Str} {lp : Arguments} {lb : Expr} {ls : Scope} {js : List Nat} {gl : M D} {φ : List (Option D) → D → Option Bool} {pl : Sem Bool} (i : Nat) (hT : T = T0.map fun p => (p.1, fun _ _ => p.2)) (cl : Cls X.K (He.ga X.K c)) (hm : Meth X.K (He.ga X.K c) m ft)
    (F : FunD X.K x qual params body scope [] [] ft fd) (S : FnScope N [p0, p1] scope) (hb : Binds X.K fd [p0, p1] []) (hr : Room (kt + 1) X.A) (WT : AskWalk T X ft qual body scope N kt g1 ga k)
    (TB : LamX.TabB X.base X.mg cdo P) (hcode : X.env.code = .ref cdo) (hmT : (P, X.env.qual ++ "<lambda>") ∈ T0) (hu : ∀ p ∈ T0, p.1 = P → p.2 = X.env.qual ++ "<lambda>") (hdef : defaultsOf lp X.env = ([], []))
    (nd : ndefB X.env.scope ls fr = true) (hjs : js.map (fun j => X.N[j]?) = fr.map some) (Sl_ : NScope Nl [p] fr ls)
    (hbl : ∀ (q : Str) (cl : List (Str × Addr)) (pm cv ctv : Value) (us : List Value), us.length = ([p] : List Str).length → bindArgs (PySem.W.kla_fn "<lambda>" q lp lb ls cl pm cv ctv) ⟨us, []⟩ = pure (([p] : List Str).zip us)) (hkl : kl + 1 ≤ kt) (hij : i ∉ js)
    (hl : ∀ (q : Str) (cl : List (Str × Addr)) (c' f : Addr) (A : Around) (outer : List PySem.Env) (s : Shared) (H : Hp), Room kl (A.deeper (envF ⟨"<lambda>", q, lp, [], ls, cl, c'⟩ f s.heap.objs.size)) → ED T W0 (ncx CX0 X.prog X.w X.K X.mg X.base Nl ⟨"<lambda>", q, lp, [], ls, cl, c'⟩ f A outer s H E0).nox lb gl)
    (hφ : ∀ caps d b, φ caps d = some b → ∃ ρ', gl (lamEnv0 (Nl.length - 1 - fr.length) d caps) = .ok (.bl b) ρ')
    (hn : NameOk X i y)
    (hst : starEach [.Lambda lp lb ls lpos] X.env = (false, eval (.Lambda lp lb ls lpos) X.env) :: starEach [] X.env := by rfl) (hpl : (backTo pos (starEach [] X.env)).any (·.1) = false := by rfl)
    (ht : eval (.Call (.Attribute (.Name y py) m apos) [.Lambda lp lb ls lpos] [] pos) X.env = (do
      let ov ← eval (.Name y py) X.env
      standAt apos.atName
      let (f, first) ← holding [ov] (getMethod ov m pl)
      callWith pos f first (backTo pos (starEach [.Lambda lp lb ls lpos] X.env)) (backToKw pos (keywordEach [] X.env))) := by rfl) :
    EO T W X (.Call (.Attribute (.Name y py) m apos) [.Lambda lp lb ls lpos] [] pos) (mAskM c m (mtOf N g1 ga k) i js φ) := ⟨fun pins s σ H Q I ⟨ρ, B, Fs, sr, h⟩ => by
  unfold mAskM at h
  cases e : ρ[i]? with
  | none => rw [e] at h; exact h.elim
  | some o =>
    cases o with
    | none => rw [e] at h; exact h.elim
    | some t =>
      rw [e] at h
      dsimp only at h
      split at h
      case isFalse => exact h.elim
      case isTrue hi =>
        obtain ⟨v, h1, h2⟩ := sr.slot i t e
        obtain ⟨a, dx, fs, rfl, ea, el⟩ := isIns_ok sr.ex h2 hi
        refine PySem.W.methodCall_KW (pl := pl) (thn ((hn.pe (py := py)).run pins s σ H (fun v H1 => v = .ref a ∧ H1 = H) I ⟨.ref a, h1, rfl, rfl⟩) fun u s1 ⟨v, H1, I1, rx, ev, eH⟩ => ?_) ht
        subst ev
        rw [eH] at I1
        obtain rfl : u = Value.ref a := rx
        refine getmeth_ok I1 ea cl hm el ?_
        have hfree : ∀ y ∈ ls.names, y.2 = .free → ∃ c, X.env.cells.lookup y.1 = some c := fun y hy e => (ndef_free nd y hy e).elim (fun z => I.ok.has _ (.inl z)) fun z => I.ok.has _ (.inr z)
        have tb : LamX.Tabs T0 H := fun p hp => (sr.tabs (p.1, fun _ _ => p.2) (by rw [hT]; exact List.mem_map.mpr ⟨p, hp, rfl⟩)).to
        refine PySem.W.callWith_K (first := [.ref a]) (h₀ := X.base) I.ok.mod.kin hm.kp ?_ hst hpl
        rw [hst]
        refine Calls.spliced_cons (LamX.lam_make2 I1 TB hcode hmT hu tb hdef hfree fun f c' pm ctv H1 s' I2 eN T1 hf hfn hfr hco => ?_)
        refine Calls.spliced_nil ⟨I2.kIn, ?_⟩
        have stl : Still T H H1 := ⟨fun a o n e => eN a o e n, fun p hp => by
          rw [hT] at hp
          obtain ⟨p0, hp0, rfl⟩ := List.mem_map.mp hp
          exact TabN.of (T1 p0 hp0)⟩
        obtain ⟨sr1, st1⟩ := sr.still stl
        have hC := cells_of I2 (Caps.made I2.ok (ndef_free nd) (ndef_fr nd) hjs)
        -- what the lambda leans on
        have zo : ZOk (ad B H1 (c' :: js.flatMap Fs)) (fun a => a ∈ Fs i) H1 := fun b o eb => by
          have e1 := ad_le sr1.ex b o eb
          refine ⟨e1, fun z => ?_, fun ps z => ?_⟩
          · obtain ⟨w, hw, own⟩ := sr1.alive z
            rcases ad_some (by rw [eb]; simp : ad B H1 (c' :: js.flatMap Fs) b ≠ none) with q | q
            · exact q (sr1.offB i b z)
            · rcases List.mem_cons.mp q with q | q
              · rw [q, hco] at hw; cases hw; exact own
              · obtain ⟨j, hj, hb⟩ := List.mem_flatMap.mp q
                exact sr1.apart i j b (fun w => hij (by rw [w]; exact hj)) z hb
          · unfold ad at eb
            split at eb
            · rename_i q
              rcases List.mem_cons.mp q with q | q
              · rw [q, hco] at eb; cases eb; exact LamX.codeO_ne ps z
              · obtain ⟨j, hj, hb⟩ := List.mem_flatMap.mp q
                obtain ⟨w, hw, own⟩ := sr1.alive hb
                rw [eb] at hw; cases hw
                rw [z] at own; exact own
            · exact sr1.noT b ps (by rw [eb, z])
        refine ask_core (Z := ad B H1 (c' :: js.flatMap Fs)) F S hb hr WT (fun {cdv} hr' => ?_) I2 sr1 e h1 zo (postO.from (st1 _) h)
        have hq : (⟨"<lambda>", X.env.qual ++ "<lambda>", lp, [], ls, cloFrom X.env.cells ls.names [], c'⟩ : NF).qual = X.env.qual ++ "<lambda>" := rfl
        refine Clo.of_lam (F := ⟨"<lambda>", X.env.qual ++ "<lambda>", lp, [], ls, cloFrom X.env.cells ls.names [], c'⟩) (ws := js.map (slotAt σ)) (caps := js.map fun j => capD ρ[j]?) (pm := pm) (ctv := ctv) (k := kl) Sl_ (fun pm ctv us hus => hbl _ _ pm _ ctv us hus) (hr'.mono hkl) hf hfn hfr (fun z => nomatch (show f ∈ ([] : List Addr) from z)) (ad_in List.mem_cons_self hco) hC (fun _ _ _ z => nomatch (show _ ∈ ([] : List Addr) from z)) ?_ (fun n d en => ?_) (fun A outer s H hr2 => hl _ _ _ f A outer s H hr2) (hφ _)
        · have q := congrArg List.length hjs
          rw [List.length_map, List.length_map] at q
          rw [List.length_map]
          exact q
        · rw [List.getElem?_map] at en
          cases ej : js[n]? with
          | none => rw [ej] at en; cases en
          | some j =>
            rw [ej] at en
            have en : capD ρ[j]? = some d := Option.some.inj en
            cases es : ρ[j]? with
            | none => rw [es] at en; cases en
            | some os =>
              cases os with
              | none => rw [es] at en; cases en
              | some u =>
                rw [es] at en
                cases en
                obtain ⟨w, w1, w2⟩ := sr1.slot j u es
                refine ⟨w, by rw [List.getElem?_map, ej]; show some (slotAt σ j) = _; rw [slotAt_of w1], w2.frz (ad_ex sr1.ex) fun b o hb q => ad_in (List.mem_cons_of_mem _ (List.mem_flatMap.mpr ⟨j, List.mem_of_getElem? ej, hb⟩)) q⟩⟩
end
end DL

end
section
set_option Elab.async false
set_option linter.all false
set_option autoImplicit false
set_option maxRecDepth 100000
set_option maxHeartbeats 4000000
/-! The data layer, part 22: defs that make lambdas. -/
namespace DL
open PySem PySem.Spec L2 NdefX
open PyProof.Rows (envOfC)
def codeAt (K : PySem.W.Frag) (f : Addr) : Addr := match K.lookup f with
  | some ⟨_, _, .func fd, _⟩ => (match fd.code with
    | .ref c => c
    | _ => 0)
  | _ => 0
def tabAt (K : PySem.W.Frag) (f : Addr) : Addr := He.tabOf K (codeAt K f)
/-- tables with one name each -/
def tn (T0 : List (Addr × Str)) : List NTab := T0.map fun p => (p.1, fun _ _ => p.2)
section
variable {T : List NTab} {P : Program} {w : World} {K : PySem.W.Frag} {mg : Str → Option Value} {base : Heap} {x qual : Str} {params : Arguments} {body : List Stmt} {scope : Scope} {dvs : List V} {kws : List (Str × V)} {f : Addr} {fd : FuncData}
theorem fn_okC {N ps : List Str} {k : Nat} {io : List Nat} {b : SM} (F : FunD K x qual params body scope dvs kws f fd) (S : FnScope N ps scope)
    (hb : ∀ (A : Around) (outer : List PySem.Env) (s : Shared) (H : Hp) (E : XK), Room k (A.deeper (envOfC qual scope s.heap.objs.size f (.ref (codeAt K f)))) → ESs T io W0 (cxOf CX0 P w K mg base N qual scope f (.ref (codeAt K f)) A outer s H E).nox body b) :
    FnOk P w K mg base CX0 (k + 1) f fd ps (spD T K ps.length (runF ps.length (N.length - ps.length) io b)) := by
  obtain ⟨oc, od, dV, kV, doc, pm, an, cdv, ct, osl, efd, lk, hcd, hD, hK⟩ := F.ex
  obtain ⟨c, rfl⟩ := He.codeIn_ref hcd
  have ec : codeAt K f = c := by
    unfold codeAt
    rw [lk, efd]
  subst efd
  refine fn_of lk hcd S (fun vs H Q E h => h.1) fun A outer s H vs Q E hr h => ?_

  -- the same as for any code object
  obtain ⟨hl, ρ, B, Fs, sr, hp⟩ := h
  rw [← ec] at hr ⊢
  refine ⟨_, PSs.nox (hb A outer s H E hr), ?_⟩
  have hN : ps.length ≤ N.length := by have := congrArg List.length S.pre; rw [List.length_take] at this; omega
  have e1 : ρ.length = ps.length := by
    by_cases q : ρ.length = ps.length
    · exact q
    · unfold runF at hp
      rw [if_neg q] at hp
      exact hp.elim
  unfold runF at hp
  rw [if_pos e1] at hp
  have s0 := sr.start (N := N) (by rw [hl]; exact e1) (by rw [hl]; exact hN)
  rw [hl] at s0
  refine ⟨_, B, Fs, s0, ?_⟩
  cases q : b (ρ ++ List.replicate (N.length - ps.length) none) with
  | fail => rw [q] at hp; exact hp.elim
  | bk ρ' => rw [q] at hp; exact hp.elim
  | ct ρ' => rw [q] at hp; exact hp.elim
  | exc c fs ρ' => rw [q] at hp; exact hp.elim
  | rt t ρ' =>
    rw [q] at hp
    intro v σ' H' B' Fs' Fr s1 ow off st io'
    obtain ⟨Fs2, s2, sub⟩ := s1.finish io' hl.symm
    exact hp v H' B' Fs2 Fr s2 ow (fun a ha => ⟨fun i hi => (off a ha).1 i (sub i a hi), (off a ha).2⟩) (st.congr (fun a => Iff.rfl) fun a e => e.elim (fun ⟨i, hi⟩ => .inl ⟨i, sub i a hi⟩) .inr)
  | nx ρ' =>
    rw [q] at hp
    intro σ' H' B' Fs' s1 st io'
    obtain ⟨Fs2, s2, sub⟩ := s1.finish io' hl.symm
    exact hp .non H' B' Fs2 [] s2 (.d .non) (fun _ z => by cases z) (st.congr (fun a => Iff.rfl) fun a e => e.elim (fun ⟨i, hi⟩ => ⟨i, sub i a hi⟩) fun z => by cases z)
end
/-- what a lambda says, as a test -/
def phiOf (m : Nat) (g : M D) (caps : List (Option D)) (d : D) : Option Bool := match g (lamEnv0 m d caps) with
  | .ok (.bl b) _ => some b
  | _ => none
theorem phiOf_ok {m : Nat} {g : M D} {caps : List (Option D)} {d : D} {b : Bool} (h : phiOf m g caps d = some b) : ∃ ρ', g (lamEnv0 m d caps) = .ok (.bl b) ρ' := by
  unfold phiOf at h
  split at h
  · rename_i e; cases h; exact ⟨_, e⟩
  · cases h
/-- what a def says, as a test -/
def phiFn (g : M Sl) (d : D) : Option Bool := match g [some (.d d)] with
  | .ok (.d (.bl b)) _ => some b
  | _ => none
theorem phiFn_ok {g : M Sl} : ∀ d b, phiFn g d = some b → ∃ ρ, g [some (.d d)] = .ok (.d (.bl b)) ρ := fun d b h => by
  unfold phiFn at h
  split at h
  · rename_i e; cases h; exact ⟨_, e⟩
  · cases h
end DL

end
section
set_option Elab.async false
set_option linter.all false
set_option autoImplicit false
set_option maxRecDepth 100000
set_option maxHeartbeats 4000000
/-! The data layer, part 23: an argument that the callee may change and that later arguments change, too: it is handed on last. -/
namespace DL
open PySem PySem.Spec L2 NdefX
def mConsL (i : Nat) (g : M (List Sl)) : M (List Sl) := fun ρ0 => match ρ0[i]? with
  | some (some _) => M.bind g (fun ss ρ => match ρ[i]? with
    | some (some s) => .ok (s :: ss) (ρ.set i none)
    | _ => .fail) ρ0
  | _ => .fail
section
variable {T : List NTab} {W : St → XK} {X : Cx} {es : List Expr} {pos : Pos} {x : Str} {ios : List (Nat × Nat)}
theorem eaio_ioL {g : M (List Sl)} (i : Nat) (hr : EAio T W X ios es g) (hN : X.N[i]? = some x := by rfl) (hv : Vis X.env.scope x := by first | exact Or.inl rfl | exact Or.inr (Or.inl rfl) | exact Or.inr (Or.inr rfl)) (hd : (x == ("__debug__" : Str)) = false := by decide)
    (hcd : (x == ("__classdict__" : Str)) = false := by decide) (hs : starEach (.Name x pos :: es) X.env = (false, eval (.Name x pos) X.env) :: starEach es X.env := by rfl) : EAio T W X ((0, i) :: shift ios) (.Name x pos :: es) (mConsL i g) := by
  refine pa_imp (pa_cons (pe_var hN hv hd hcd) hr hs) fun σ H Q ⟨ρ, B, Fs, s, h⟩ => ?_
  unfold mConsL M.bind at h
  cases e : ρ[i]? with
  | none => rw [e] at h; exact h.elim
  | some o =>
    cases o with
    | none => rw [e] at h; exact h.elim
    | some t =>
      obtain ⟨v, h1, h2⟩ := s.slot i t e
      rw [e] at h
      refine ⟨v, h1, ρ, B, Fs, s, ?_⟩
      dsimp only at h
      cases q : g ρ with
      | fail => rw [q] at h; exact h
      | exc c fs ρ2 => rw [q] at h; exact h
      | ok ss ρ2 =>
        rw [q] at h
        dsimp only at h
        intro vs H2 B2 Fs2 Fr2 s2 i2 o2 st2 iov
        cases e2 : ρ2[i]? with
        | none => rw [e2] at h; exact h.elim
        | some o2' =>
          cases o2' with
          | none => rw [e2] at h; exact h.elim
          | some t2 =>
            rw [e2] at h
            obtain ⟨v2, g1, g2⟩ := s2.slot i t2 e2
            rw [h1] at g1
            cases g1
            have ilt : i < ρ2.length := (List.getElem?_eq_some_iff.mp e2).1
            have s1 : SR T X.K (ρ2.set i none) σ H2 B2 (setF Fs2 i []) := s2.put ilt (fun _ _ => rfl) (fun t' q => by cases q) (fun _ => rfl) (Ex.refl B2) s2.ex s2.tabs s2.noT (fun _ _ _ _ _ q => q) (fun a z => by cases z) fun j a hj ha => s2.offB j a ha
            refine h (v :: vs) H2 B2 (setF Fs2 i []) (Fs2 i ++ Fr2) s1 (.cons g2 i2 fun a ha hb => (o2 a hb).1 i ha) (fun a ha => ?_) (st2.congr (fun _ => Iff.rfl) fun a ha => ?_) fun p hp => ?_
            · rcases List.mem_append.mp ha with z | z
              · refine ⟨fun j hj => ?_, s2.offB i a z⟩
                by_cases y : j = i
                · subst y; rw [setF_same] at hj; cases hj
                · rw [setF_ne y] at hj; exact s2.apart j i a y hj z
              · refine ⟨fun j hj => ?_, (o2 a z).2⟩
                by_cases y : j = i
                · subst y; rw [setF_same] at hj; cases hj
                · rw [setF_ne y] at hj; exact (o2 a z).1 j hj
            · rcases ha with ha | ha
              · rcases own_setF ha with z | z
                · cases z
                · exact .inl z
              · rcases List.mem_append.mp ha with z | z
                · exact .inl ⟨i, z⟩
                · exact .inr z
            · rcases List.mem_cons.mp hp with z | z
              · subst z; exact ⟨v, rfl, h1⟩
              · exact iov_shift iov p z
end
end DL

end
section
set_option Elab.async false
set_option linter.all false
set_option autoImplicit false
set_option maxRecDepth 100000
set_option maxHeartbeats 4000000
/-! The data layer, part 24: x[k] = v; len(set(xs)) of unlike texts. -/
namespace DL
open PySem PySem.Spec L2 NdefX
def sIxSet (i : Nat) (gv gk : M D) : SM := bindS gv fun d ρ => if isOl i ρ = true then bindS gk (fun k ρ1 => match k, ρ1[i]? with
  | .int j, some (some (.ol l)) => if 0 ≤ j ∧ j < (l.length : Int) then .nx (ρ1.set i (some (.ol (l.set j.toNat (.d d))))) else .fail
  | _, _ => .fail) ρ else .fail
section
variable {T : List NTab} {IO : List Nat} {W : St → XK} {X : Cx} {e k : Expr} {pos p py : Pos} {y : Str} {gv gk : M D}
theorem es_ixSet (i : Nat) (hn : NameOk X i y) (hv : ED T W X e gv) (hk : ED T W X k gk) (hs : swapsWithSole [.Subscript (.Name y py) k p] e pos.line X.env = pure false := by rfl) (hw : swappedStores [.Subscript (.Name y py) k p] e X.env = pure none := by rfl)
    (h1 : (assignEach [.Subscript (.Name y py) k p] X.env).map (·.2) = [assign (.Subscript (.Name y py) k p) X.env] := by rfl)
    (ha : ∀ v, assign (.Subscript (.Name y py) k p) X.env v = (do
      let ov ← holding [v] (eval (.Name y py) X.env)
      let iv ← holding [v, ov] (eval k X.env)
      standAt p
      holding [v, ov, iv] (setItem ov iv v)
      release [v, ov, iv] []) := by intro _; rfl) : ES T IO W X (.Assign [.Subscript (.Name y py) k p] e pos) (sIxSet i gv gk) :=
  ps_imp (ps_asg hv (pg_sub (hn.pe (py := py)) hk set_list ha) hs hw h1) fun D_ σ H ⟨ρ, B, Fs, s, h⟩ => sbD s h fun v d ρ1 H1 B1 Fs1 s1 i1 st1 h => by
    split at h
    case isFalse => exact h.elim
    case isTrue hi =>
      obtain ⟨l, el⟩ := isOl_of hi
      obtain ⟨a, xs, F, q1, q2, _⟩ := s1.list el
      refine ⟨.ref a, q1, sbD s1 h fun kv kd ρ2 H2 B2 Fs2 s2 i2 st2 h => ?_⟩
      split at h
      case h_2 => exact h.elim
      case h_1 j l1 e1 =>
        split at h
        case isFalse => exact h.elim
        case isTrue hj =>
          cases i2
          obtain ⟨a1, xs1, F1, r1, r2, r3, r4, r5⟩ := s2.list e1
          rw [q1] at r1; cases r1
          obtain ⟨F2, w1, w2⟩ := OwAll.putAt (Ow.d (H := H2) (i1.mono st2.ex)) j.toNat r3 fun _ _ z => by cases z
          obtain ⟨z1, z2⟩ := s2.setList (Fr := []) e1 q1 r5 w1 (fun x hx => .inl ((w2 x hx).elim id fun z => by cases z)) r4 .nil
          have lt : j < (xs1.length : Int) := by rw [r3.length]; exact hj.2
          refine ⟨a, xs1, j, j.toNat, rfl, rfl, r2, ?_, h σ _ B2 _ z1 (Step.trans .tmp z2) .refl⟩
          unfold ixN
          rw [if_pos hj.1, if_pos lt]
end
/-! ### sets of texts -/
namespace TxSet
open PyProof.Rows
theorem take_any {xs : List Str} {i : Nat} {x : Str} (e : xs[i]? = some x) (z : Str) : ((xs.take (i + 1)).any (· == z)) = ((xs.take i).any (· == z) || decide (z = x)) := by
  rw [List.take_add_one, e, List.any_append]
  have h : (x == z) = decide (z = x) := by
    by_cases q : z = x
    · subst q; simp
    · have q2 : (x == z) = false := beq_eq_false_iff_ne.mpr fun w => q w.symm
      rw [q2, decide_eq_false q]
  simp [h]
theorem take_no {xs : List Str} (nd : xs.Nodup) {i : Nat} {x : Str} (e : xs[i]? = some x) : ((xs.take i).any (· == x)) = false := by
  cases q : (xs.take i).any (· == x) with
  | false => rfl
  | true =>
    obtain ⟨z, hz, ez⟩ := List.any_eq_true.mp q
    have ez : z = x := eq_of_beq ez
    subst ez
    obtain ⟨j, hj, ej⟩ := List.mem_iff_getElem.mp hz
    rw [List.length_take] at hj
    obtain ⟨hi, ei⟩ := List.getElem?_eq_some_iff.mp e
    rw [List.getElem_take] at ej
    exact absurd (ej.trans ei.symm) (List.pairwise_iff_getElem.mp nd j i (by omega) hi (by omega))
theorem L2_strs {us : List Value} {xs : List Str} (h : StrsAre us xs) (i : Nat) (v : Value) (e : us[i]? = some v) : ∃ t, v = .str (xs.getD i Str.empty) t := SS.strs_at h i v e
abbrev Has (P : Program) (w : World) (S : Addr) (xs : List Str) (i : Nat) (h : Heap) : Prop := h.SetOf (PySem.strKind P w) S (fun z => (xs.take i).any (· == z)) i
theorem Has.at_ {P : Program} {w : World} {S : Addr} {xs : List Str} {i : Nat} {h h' : Heap} (a : Has P w S xs i h) (k : ∀ o, h.get? S = some o → h'.get? S = some o) : Has P w S xs i h' := by
  obtain ⟨o, es, ep, tb, ho, rest⟩ := a
  exact ⟨o, es, ep, tb, k o ho, rest⟩
variable {P : Program} {w : World} {A : Around} {I S : Addr} {fp wr : List Addr} {G : Array GenState → Array GenState → Prop} {n : Nat} {Pv : Nat → Value → Prop} {St : Nat → Shared → Prop}
/-- the walk of set.update over unlike texts: what is left, from the i-th turn on -/
theorem turns {R : Result → Shared → Prop} (Wk : WalksS P w A.in1 I fp wr G n Pv St) (out : S ∉ fp) (xs : List Str) (nd : xs.Nodup) (len : xs.length = n) (few : n ≤ 1000) (val : ∀ i v, Pv i v → ∃ t, v = .str (xs.getD i Str.empty) t) :
    ∀ (left i : Nat) (s : Shared), i + left = n → St i s → Has P w S xs i s.heap → (∀ s2, Moved (S :: wr) G s s2 → Has P w S xs n s2.heap → R (.ok (.ret .none)) s2) →
      codeAny (model P w) A (.builtin "set.update.loop" ⟨[.ref S, .ref I], []⟩) R s
  | 0, i, s, ei, st, hS, fin => by
    have ei : i = n := by omega
    subst ei
    have notw : S ∉ wr := fun z => out (Wk.sub _ z)
    refine codeAny_builtin PyProof.Rows.F.entry_set_update_loop ?_
    rw [Around.under_plainId PyProof.Rows.F.plain_set_update_loop _]
    refine wpAny_bind (Wk.done s _ _ st fun s2 mv => wpAny_pure (fin s2 (mv.mono fun b hb => .tail _ hb) (hS.at_ fun o => mv.heap S o notw)))
  | left + 1, i, s, ei, st, hS, fin => by
    have lt : i < n := by omega
    have notw : S ∉ wr := fun z => out (Wk.sub _ z)
    obtain ⟨x, ex⟩ : ∃ x, xs[i]? = some x := ⟨xs[i]'(by omega), List.getElem?_eq_getElem _⟩
    have ed : xs.getD i Str.empty = x := by rw [List.getD_eq_getElem?_getD, ex]; rfl
    refine codeAny_builtin PyProof.Rows.F.entry_set_update_loop ?_
    rw [Around.under_plainId PyProof.Rows.F.plain_set_update_loop _]
    refine wpAny_bind (Wk.item i s _ _ lt st fun v s2 hv st2 mv => ?_)
    obtain ⟨t, rfl⟩ := val i v hv
    rw [ed]
    refine wpAny_bind (wpAny_holding ?_)
    unfold setAdd
    refine wpAny_holding (wpAny_bind ((PySem.strKind P w).pyHash (k := x) (strKind_is _ _ _ _) ?_))
    have h2 : Has P w S xs i s2.heap := hS.at_ fun o => mv.heap S o notw
    refine wpAny_setAddHashed_of (knd := PySem.strKind P w) (s := { s2 with toks := s2.toks + 1 }) (strKind_is _ _ _ _) rfl h2 (by unfold scanBound; omega) fun hp same h3 => ?_
    have h4 : Has P w S xs (i + 1) hp := SetOf_congr h3 (fun z => (take_any ex z).symm) (by simp [take_no nd ex])
    refine wpAny_pure ⟨plainId_quiet PyProof.Rows.F.plain_set_update_loop _, turns Wk out xs nd len few val left (i + 1) _ (by omega) (Wk.frame _ s2 _ _ st2 (Nat.le_succ _) fun b hb o eb => ?_) h4 fun s3 mv3 h5 => fin s3 ?_ h5⟩
    · rw [same.2 b fun z => out (z ▸ hb)]; exact eb
    · refine Moved.trans Wk.gtrans ((mv.mono fun b hb => .tail _ hb).then_heap (Nat.le_succ _) fun b o hb eb => ?_) mv3
      rw [same.2 b fun z => hb (z ▸ .head _)]; exact eb
/-- a new, empty set laid down -/
abbrev freshS (led : Bool) : Obj := { cls := .type "set", dict := none, data := .set #[] 0 (.fresh 0 0 led) }
set_option maxHeartbeats 4000000 in
/-- set(xs): the list at l holds unlike texts -/
theorem make {E : Value → Shared → Prop} {s : Shared} {l : Addr} {its : Array Value} {xs : List Str} {Q : Value → Shared → Prop} (calm : A.handled = none) (at_ : s.heap.IsList l its) (are : StrsAre its.toList xs) (nd : xs.Nodup) (few : xs.length ≤ 1000)
    (go : ∀ (hp : Heap) (tk : Nat), Has P w s.heap.objs.size xs its.size hp → (∀ b o, b < s.heap.objs.size → s.heap.get? b = some o → hp.get? b = some o) → Q (.ref s.heap.objs.size) { s with heap := hp, toks := tk }) :
    wpAny (model P w) A (call (.type "set") [.ref l]) Q E s := by
  obtain ⟨c0, tl0, m0⟩ := PySem.F.called_set.mro
  have m1 := PySem.F.called_set.made
  have m2 := PySem.F.called_set.sub
  refine wpAny_call (codeAny_of_tree ?_)
  show wpAny _ _ (callAny (.type "set") _) _ _ _
  refine wpAny_pure ⟨Code.quiet_builtin _ (by decide +kernel), codeAny_builtin PySem.F.entry_type_call ?_⟩
  rw [Around.under_plain (weight_type_call_type "set" [.ref l] []) rfl]
  have m3 := PySem.F.called_set.notType
  have m4 := PySem.F.called_set.canCreate
  have m5 := PySem.F.typeCall_set_1 (.ref l)
  repeat (any_goals (first | assumption | wp_step))
  refine codeAny_mono (code_set_new_1 (.ref l) (E := E) (Q₁ := fun ob s1 => ∃ led : Bool, ob = .ref s.heap.objs.size ∧ s1 = { s with heap := s.heap.push (freshS led) }) fun led => ⟨led, rfl, rfl⟩) fun r s1 hr => ?_
  cases r with
  | error e => exact hr
  | ok fl => cases fl with
    | next => exact hr.elim
    | brk => exact hr.elim
    | cont => exact hr.elim
    | ret ob =>
      obtain ⟨led, rfl, rfl⟩ := hr
      have new : (s.heap.push (freshS led)).get? s.heap.objs.size = some (freshS led) := Heap.get?_push_size _ rfl
      have ty : Shared.TypeIs { s with heap := s.heap.push (freshS led) } (.ref s.heap.objs.size) "set" := ⟨_, new, rfl⟩
      have m6 := PySem.F.called_set.init.lookup
      have m7 := PySem.F.called_set.init.bind (.ref s.heap.objs.size)
      repeat (any_goals (first | assumption | wp_step))
      refine codeAny_mono (codeAny_call_builtin (R := wants (fun r s2 => r = .none ∧ ∃ hp tk, s2 = { s with heap := hp, toks := tk } ∧ Has P w s.heap.objs.size xs its.size hp ∧ (∀ b o, b < s.heap.objs.size → s.heap.get? b = some o → hp.get? b = some o)) E)
        PySem.F.called_set.init.plain PySem.F.entry_set_init (check_set_init_1 ty ?_)) fun r s2 hr => ?_
      case refine_2 =>
        cases r with
        | error e => exact hr
        | ok fl => cases fl with
          | next => exact hr.elim
          | brk => exact hr.elim
          | cont => exact hr.elim
          | ret v =>
            obtain ⟨rfl, hp, tk, rfl, h1, h2⟩ := hr
            repeat (any_goals (first | assumption | wp_step))
            exact go _ _ h1 h2
      case refine_1 =>
        obtain ⟨⟨cl, di, da, sl⟩, ol, ecl, nl, eda⟩ := at_
        simp only at ecl eda
        subst ecl
        subst eda
        have ol2 : (s.heap.push (freshS led)).get? l = some { cls := .type "list", dict := di, data := .seq its nl, slots := sl } := Heap.get?_push_of_some _ ol
        have m8 := PySem.F.sub_list_set
        have m9 := PySem.F.sub_list_frozenset
        have nd1 : (Value.type "list" == Value.type "dict") = false := by decide
        have at2 : (s.heap.push (freshS led)).IsList l its := ⟨_, ol2, rfl, nl, rfl⟩
        unfold Builtin.«set.__init__» noKeywords Builtin.Frozenset.updateFrom
        generalize eIt : pyIter = It0
        wp_walk
        subst eIt
        refine wpAny_pyIter_list at2 (wpAny_bind (wpAny_runValue ?_))
        have lt : l < s.heap.objs.size := Heap.lt_size ol
        have calm3 : A.in1.in1.in1.handled = none := by simp [calm]
        have sz : (s.heap.push (freshS led)).objs.size = s.heap.objs.size + 1 := Heap.size_push ..
        have ne1 : l ≠ (s.heap.push (freshS led)).objs.size := by
          rw [sz]; exact Nat.ne_of_lt (Nat.lt_succ_of_lt lt)
        have ne2 : s.heap.objs.size ∉ [(s.heap.push (freshS led)).objs.size, l] := by
          intro z
          rcases List.mem_cons.mp z with z | z
          · rw [sz] at z; exact absurd z (Nat.ne_of_lt (Nat.lt_succ_self _))
          · rw [List.mem_singleton] at z; exact absurd z.symm (Nat.ne_of_lt lt)
        have len : xs.length = its.size := by rw [← StrsAre.len_eq are, Array.length_toList]
        refine turns ((PySem.Walks.list calm3 _ l ne1 its).toS) ne2 xs nd len (by omega) (fun i v hv => L2_strs are i v (by rw [Array.getElem?_toList]; exact hv)) its.size 0 _ (by omega)
          ⟨⟨_, Heap.get?_push_size _ rfl, rfl, rfl⟩, at2.push _⟩ ?_ fun s3 mv h3 => ?_
        · have g0 : ((s.heap.push (freshS led)).push { cls := .type "list_iterator", data := .fields #[.ref l, .int 0 0] }).get? s.heap.objs.size = some (freshS led) := Heap.get?_push_of_some _ new
          exact SetOf_congr ((PyProof.Rows.setObjOf_fresh (knd := PySem.strKind P w) led).setOf g0 (by unfold scanBound; omega)) (fun _ => rfl) rfl
        · obtain ⟨hp, gs, dr, tk, os⟩ := s3
          have e1 : gs = s.gens := mv.gens
          have e2 : dr = s.drawn := mv.drawn
          have e3 : os = s.os := mv.os
          subst e1 e2 e3
          refine wpAny_pure (wpAny_pure ⟨rfl, hp, tk, rfl, h3, fun b o hb eb => mv.heap b o (fun z => ?_) (Heap.get?_push_of_some _ (Heap.get?_push_of_some _ eb))⟩)
          rcases List.mem_cons.mp z with z | z
          · exact absurd z (Nat.ne_of_lt hb)
          · rw [List.mem_singleton, sz] at z; exact absurd z (Nat.ne_of_lt (Nat.lt_succ_of_lt hb))
end TxSet
end DL

end
section
set_option Elab.async false
set_option linter.all false
set_option autoImplicit false
set_option maxRecDepth 100000
set_option maxHeartbeats 4000000
/-! The data layer, part 25: len(set(xs)) as an expression. -/
namespace DL
open PySem PySem.Spec L2 NdefX PyProof.Rows
def tLenTx (K : PySem.W.Frag) (ta : TE) : TE := fun σ H Q => ta σ H fun x H1 => ∃ (l : Addr) (xs : List Str), x = .ref l ∧ SqL K H1 l (xs.map V.str) ∧ xs.Nodup ∧ xs.length ≤ 1000 ∧ Q (.int (xs.length : Nat)) H1
section
variable {X : Cx} {a : Expr} {ta : TE} {p p2 q pos : Pos}
theorem pe_lenTx (hc : X.calm = true) (hg : Gl X "len") (hm : X.mg "len" = none) (hg2 : Gl X "set") (hm2 : X.mg "set" = none) (ha : PE X a ta)
    (na : starEach [a] X.env = (false, eval a X.env) :: starEach [] X.env := by rfl) : PE X (.Call (.Name "len" p) [.Call (.Name "set" p2) [a] [] q] [] pos) (tLenTx X.K ta) := by
  refine ⟨fun pins s σ H Q I h => Call_ (ld_blt I hg hm boot_len ?_)⟩
  refine callWith_builtin1 (args_cons (Call_ (ld_blt I hg2 hm2 boot_set ?_)) rfl) rfl rfl
  refine callWith_type1 (args_cons (thn (ha.run pins s σ H _ I h) fun v s1 ⟨x, H1, I1, r1, q1⟩ => args_nil ?_) na) na rfl
  obtain ⟨l, xs, rfl, sq, nd, few, q1⟩ := q1
  cases r1
  obtain ⟨its, r, pl, hz⟩ := I1.list sq
  have len : its.toArray.size = xs.length := by rw [List.size_toArray, ← r.length, List.length_map]
  refine TxSet.make (I1.ok.hd hc) pl.isList (by simpa using strsAre_of r) nd few fun hp tk hS keep => args_nil ?_
  rw [len] at hS
  obtain ⟨o, es, ep, t, ho, hex, hd, _, _, _, hf, hn⟩ := hS
  have I2 : Inv X pins σ H1 { s1 with heap := hp, toks := tk } := I1.kept fun b o e => keep b o (Heap.lt_size e) e
  exact call_len_set ho hex hd hf (by rw [hn]; omega) ⟨.int xs.length, H1, I2.tok _, ⟨_, by rw [hn]⟩, q1⟩
end
def lenSetD : D → Option D
  | .lst l => (textsOf l).bind fun ys => if ys.Nodup ∧ ys.length ≤ 1000 then some (.int (ys.length : Nat)) else none
  | _ => none
section
variable {T : List NTab} {W : L2.St → XK} {X : Cx} {a : Expr} {p p2 q pos : Pos} {ga : M D}
theorem ed_lenSet (hm : X.mg "len" = none) (hm2 : X.mg "set" = none) (ha : ED T W X a ga) (hc : X.calm = true := by rfl) (hg : Gl X "len" := by rfl) (hg2 : Gl X "set" := by rfl)
    (na : starEach [a] X.env = (false, eval a X.env) :: starEach [] X.env := by rfl) : ED T W X (.Call (.Name "len" p) [.Call (.Name "set" p2) [a] [] q] [] pos) (mOp1 lenSetD ga) :=
  pe_imp (pe_lenTx hc hg hm hg2 hm2 ha na) fun σ H Q ⟨ρ, B, Fs, s, h⟩ => bindD pl_D s h fun v d ρ1 H1 B1 Fs1 s1 i1 st1 h => by
    obtain ⟨z, e, k⟩ := PCt.of s1 h
    cases i1 with
    | @lst a0 xs ds h0 h2 =>
      dsimp only [lenSetD] at e
      cases q : textsOf ds with
      | none => rw [q] at e; cases e
      | some ys =>
        rw [q] at e
        simp only [Option.bind_some] at e
        split at e
        · rename_i c
          cases e
          have ex := textsOf_ok h2 q
          subst ex
          exact ⟨a0, ys, rfl, s1.ex.l (.of h0), c.1, c.2, k.at s1.ex s1.noT (.int _)⟩
        · cases e
    | _ => cases e
end
end DL

end
section
set_option Elab.async false
set_option linter.all false
set_option autoImplicit false
set_option maxRecDepth 100000
set_option maxHeartbeats 4000000
/-! The data layer, part 26: x, y = a, b by way of a tuple (one of the names is a cell's). -/
namespace DL
open PySem PySem.Spec L2 NdefX
section
variable {T : List NTab} {IO : List Nat} {W : St → XK} {X : Cx} {a b : Expr} {pos : Pos} {x y : Str}
theorem es_parT {i j : Nat} {px py pt : Pos} {kt k2 : Nat} {pt2 : Pos} {g : M (List Sl)} (hc : X.calm = true) (hN : X.N.Nodup) (hi : X.N[i]? = some x) (hj : X.N[j]? = some y)
    (ha : EA T W X [a, b] g) (hio : i ∉ IO) (hjo : j ∉ IO) (hx : Loc X.env.scope x := by first | exact .inl rfl | exact .inr rfl) (hy : Loc X.env.scope y := by first | exact .inl rfl | exact .inr rfl)
    (hfx : X.fn x = true ∨ X.env.scope.names.lookup x = some .local := by first | exact .inl rfl | exact .inr rfl) (hfy : X.fn y = true ∨ X.env.scope.names.lookup y = some .local := by first | exact .inl rfl | exact .inr rfl)
    (hs : swapsWithSole [.Tuple [.Name x px, .Name y py] kt pt] (.Tuple [a, b] k2 pt2) pos.line X.env = pure false := by rfl)
    (hw : swappedStores [.Tuple [.Name x px, .Name y py] kt pt] (.Tuple [a, b] k2 pt2) X.env = pure none := by rfl)
    (h1 : (assignEach [.Tuple [.Name x px, .Name y py] kt pt] X.env).map (·.2) = [assign (.Tuple [.Name x px, .Name y py] kt pt) X.env] := by rfl)
    (hn : (assignEach [.Name x px, .Name y py] X.env).length = 2 := by rfl) (hst : (assignEach [.Name x px, .Name y py] X.env).findIdx? (·.1) = none := by rfl)
    (e1 : (assignEach [.Name x px, .Name y py] X.env).map (·.2) = assign (.Name x px) X.env :: (assignEach [.Name y py] X.env).map (·.2) := by rfl)
    (e2 : (assignEach [.Name y py] X.env).map (·.2) = assign (.Name y py) X.env :: (assignEach [] X.env).map (·.2) := by rfl) :
    ES T IO W X (.Assign [.Tuple [.Name x px, .Name y py] kt pt] (.Tuple [a, b] k2 pt2) pos) (sPar i j g) :=
  ps_len (ps_asg (pe_tup ha) (pg_tup hc (pgs_cons (pg_name hN hi hx hfx) (pgs_cons (pg_name hN hj hy hfy) pgs_nil e2) e1) hn hst) hs hw h1) fun D_ σ H len ⟨ρ, B, Fs, s, h⟩ => sbA s h fun vs ts ρ1 H1 B1 Fs1 Fr q1 q2 q3 q4 h => by
    have il : i < σ.length := by rw [len]; exact (List.getElem?_eq_some_iff.mp hi).1
    have jl : j < σ.length := by rw [len]; exact (List.getElem?_eq_some_iff.mp hj).1
    match ts, q2, h with
    | [], q2, h => exact h.elim
    | [_], q2, h => exact h.elim
    | _ :: _ :: _ :: _, q2, h => exact h.elim
    | [t, u], q2, h =>
      cases q2 with
      | @cons v _ _ _ F G o1 o2 dj =>
        cases o2 with
        | @cons w _ _ _ F2 G2 o2 o3 dj2 =>
          cases o3
          refine ⟨by rw [sizeLine_eq]; simp, fun p hp => ⟨p, [v, w], rfl, .of upd_same, rfl, v, [w], rfl, w, [], rfl, rfl, ?_⟩⟩
          simp only [List.append_nil] at q3 q4 dj h
          have gr : Grow H1 B1 (upd H1 p (.tup [v, w])) B1 := .own q1.ex q1.noT hp
          have r1 := q1.grow gr
          have p1 : Ow X.K B1 (upd H1 p (.tup [v, w])) v t F := o1.mono (Ex.refl _) fun b o _ e => gr.ex b o e
          have p2 : Ow X.K B1 (upd H1 p (.tup [v, w])) w u F2 := o2.mono (Ex.refl _) fun b o _ e => gr.ex b o e
          have h := h.from (F1 := fun b => Own Fs1 b ∨ b ∈ F ++ F2) gr.step .refl
          have h' : postS T X.K IO W (nxO ((DL.setV i t ρ1).bind (DL.setV j u))) D_ σ (upd H1 p (.tup [v, w])) B1 (fun b => Own Fs1 b ∨ b ∈ F ++ F2) := h
          cases e : DL.setV i t ρ1 with
          | none => rw [e] at h'; exact h'.elim
          | some ρ2 =>
            rw [e] at h'
            have h2 : postS T X.K IO W (nxO (DL.setV j u ρ2)) D_ σ (upd H1 p (.tup [v, w])) B1 (fun b => Own Fs1 b ∨ b ∈ F ++ F2) := h'
            cases e3 : DL.setV j u ρ2 with
            | none => rw [e3] at h2; exact h2.elim
            | some ρ3 =>
              rw [e3] at h2
              obtain ⟨z1, z2⟩ := r1.setV e il p1 (fun b hb => q3 b (List.mem_append_left _ hb))
              have of2 : Off B1 (setF Fs1 i F) F2 := fun b hb => by
                refine ⟨fun k hk => ?_, (q3 b (List.mem_append_right _ hb)).2⟩
                by_cases z : k = i
                · subst z; rw [setF_same] at hk; exact dj b hk hb
                · rw [setF_ne z] at hk; exact (q3 b (List.mem_append_right _ hb)).1 k hk
              obtain ⟨z3, z4⟩ := z1.setV e3 (by rw [List.length_set]; exact jl) p2 of2
              refine h2 _ _ _ _ z3 ?_ ((ioSet hio).trans (ioSet hjo))
              have z6 := (z2.temps (R := fun b => b ∈ F2)).trans z4
              refine z6.congr (fun b => ?_) fun b q => q
              rw [List.mem_append]
              exact ⟨fun r => r.elim (fun r => r.elim .inl fun r => .inr (.inl r)) fun r => .inr (.inr r), fun r => r.elim (fun r => .inl (.inl r)) fun r => r.elim (fun r => .inl (.inr r)) .inr⟩
end
end DL

end
section
set_option Elab.async false
set_option linter.all false
set_option autoImplicit false
set_option maxRecDepth 100000
set_option maxHeartbeats 4000000
/-! Plain rules: a mirror comes to an answer, and what holds of it. -/
namespace DL
open PySem PySem.Spec L2 NdefX
def Ok {α : Type} (g : M α) (ρ : Env) (Q : α → Env → Prop) : Prop := match g ρ with
  | .ok a ρ' => Q a ρ'
  | _ => False
def OkS (s : SM) (ρ : Env) (N : Env → Prop) (R : Sl → Env → Prop) : Prop := match s ρ with
  | .nx ρ' => N ρ'
  | .rt t ρ' => R t ρ'
  | _ => False
section
variable {α β : Type} {ρ : Env} {Q Q' : α → Env → Prop} {N N' : Env → Prop} {R R' : Sl → Env → Prop}
theorem Ok.imp {g : M α} (h : Ok g ρ Q) (k : ∀ a ρ', Q a ρ' → Q' a ρ') : Ok g ρ Q' := by
  unfold Ok at *
  cases e : g ρ with
  | ok a ρ' => rw [e] at h; exact k a ρ' h
  | exc c fs ρ' => rw [e] at h; exact h.elim
  | fail => rw [e] at h; exact h.elim
theorem OkS.imp {s : SM} (h : OkS s ρ N R) (k : ∀ ρ', N ρ' → N' ρ') (k2 : ∀ t ρ', R t ρ' → R' t ρ') : OkS s ρ N' R' := by
  unfold OkS at *
  cases e : s ρ with
  | nx ρ' => rw [e] at h; exact k ρ' h
  | rt t ρ' => rw [e] at h; exact k2 t ρ' h
  | _ => rw [e] at h; exact h.elim
theorem Ok.get {g : M α} (h : Ok g ρ Q) : ∃ a ρ', g ρ = .ok a ρ' ∧ Q a ρ' := by
  unfold Ok at h
  cases e : g ρ with
  | ok a ρ' => rw [e] at h; exact ⟨a, ρ', rfl, h⟩
  | exc c fs ρ' => rw [e] at h; exact h.elim
  | fail => rw [e] at h; exact h.elim
theorem Ok.mk {g : M α} {a : α} {ρ' : Env} (e : g ρ = .ok a ρ') (h : Q a ρ') : Ok g ρ Q := by
  unfold Ok; rw [e]; exact h
theorem ok_pure {a : α} : Ok (M.pure a) ρ Q = Q a ρ := rfl
theorem ok_bind {g : M β} {k : β → M α} : Ok (M.bind g k) ρ Q = Ok g ρ fun b ρ' => Ok (k b) ρ' Q := by
  unfold Ok M.bind
  cases g ρ <;> rfl
theorem ok_of {o : Option α} : Ok (M.of o) ρ Q = ∃ a, o = some a ∧ Q a ρ := by
  unfold Ok M.of
  cases o <;> simp
theorem ok_if {c : Prop} [Decidable c] {g h : M α} : Ok (if c then g else h) ρ Q = if c then Ok g ρ Q else Ok h ρ Q := by
  split <;> rfl
theorem ok_var {i : Nat} {Q : D → Env → Prop} {d : D} (h : ρ[i]? = some (some (.d d))) : Ok (mVar i) ρ Q = Q d ρ := by
  unfold Ok mVar; rw [h]
theorem okS_bind {g : M β} {k : β → SM} : OkS (bindS g k) ρ N R = Ok g ρ fun b ρ' => OkS (k b) ρ' N R := by
  unfold OkS Ok bindS
  cases g ρ <;> rfl
theorem okS_seq {a b : SM} : OkS (sSeq a b) ρ N R = OkS a ρ (fun ρ' => OkS b ρ' N R) R := by
  unfold OkS sSeq
  cases a ρ <;> rfl
theorem okS_if {c : Prop} [Decidable c] {g h : SM} : OkS (if c then g else h) ρ N R = if c then OkS g ρ N R else OkS h ρ N R := by
  split <;> rfl
theorem okS_next : OkS sNext ρ N R = N ρ := rfl
theorem ok_runF {n m : Nat} {io : List Nat} {b : SM} {Q : Sl → Env → Prop} (hl : ρ.length = n) (h : OkS b (ρ ++ List.replicate m none) (fun ρ' => Q (.d .non) (keepIO io 0 (ρ'.take n))) (fun t ρ' => Q t (keepIO io 0 (ρ'.take n)))) : Ok (runF n m io b) ρ Q := by
  unfold Ok runF
  unfold OkS at h
  rw [if_pos hl]
  cases e : b (ρ ++ List.replicate m none) with
  | nx ρ' => rw [e] at h; exact h
  | rt t ρ' => rw [e] at h; exact h
  | _ => rw [e] at h; exact h.elim
/-- loops: an invariant over what is left -/
theorem okS_loop {t : TgM} {b : SM} (Inv : List D → Env → Prop) (hb : ∀ d l ρ, Inv (d :: l) ρ → ∃ ρ1, t d ρ = some ρ1 ∧ OkS b ρ1 (Inv l) R) (hN : ∀ ρ, Inv [] ρ → N ρ) : ∀ {l : List D} {ρ : Env}, Inv l ρ → OkS (loopL t b l) ρ N R
  | [], ρ, h => by
    unfold loopL OkS; exact hN ρ h
  | d :: l, ρ, h => by
    obtain ⟨ρ1, e, k⟩ := hb d l ρ h
    unfold OkS at k ⊢
    unfold loopL
    rw [e]
    cases q : b ρ1 with
    | nx ρ' => rw [q] at k; simpa [OkS, q] using okS_loop Inv hb hN k
    | rt u ρ' => rw [q] at k; simpa [q] using k
    | _ => rw [q] at k; exact k.elim
theorem okS_while {c : M Bool} {b : SM} (Inv : Nat → Env → Prop) (hb : ∀ n ρ, Inv n ρ → Ok c ρ fun x ρ' => if x = true then OkS b ρ' (fun ρ2 => ∃ m, m < n ∧ Inv m ρ2) R else N ρ') : ∀ {k n : Nat} {ρ : Env}, n < k → Inv n ρ → OkS (whileN c b k) ρ N R
  | 0, n, ρ, hk, h => by omega
  | k + 1, n, ρ, hk, h => by
    obtain ⟨x, ρ1, e, q⟩ := (hb n ρ h).get
    unfold OkS whileN bindS
    rw [e]
    cases x with
    | false => simpa [sNext] using q
    | true =>
      have q : OkS b ρ1 (fun ρ2 => ∃ m, m < n ∧ Inv m ρ2) R := by simpa using q
      unfold OkS at q
      cases z : b ρ1 with
      | nx ρ2 =>
        rw [z] at q
        obtain ⟨m, hm, hi⟩ := q
        simpa [OkS, z] using okS_while Inv hb (k := k) (n := m) (by omega) hi
      | rt u ρ2 => rw [z] at q; simpa [z] using q
      | _ => rw [z] at q; exact q.elim
theorem ok_C {d : D} {Q : D → Env → Prop} : Ok (mC d) ρ Q = Q d ρ := rfl
theorem ok_op2 {f : D → D → Option D} {a b : M D} {Q : D → Env → Prop} : Ok (mOp2 f a b) ρ Q = Ok a ρ fun x ρ1 => Ok b ρ1 fun y ρ2 => ∃ z, f x y = some z ∧ Q z ρ2 := by
  unfold mOp2; simp only [ok_bind, ok_of]
theorem ok_op1 {f : D → Option D} {a : M D} {Q : D → Env → Prop} : Ok (mOp1 f a) ρ Q = Ok a ρ fun x ρ1 => ∃ z, f x = some z ∧ Q z ρ1 := by
  unfold mOp1; simp only [ok_bind, ok_of]
theorem ok_opN {f : List D → Option D} {a : M (List D)} {Q : D → Env → Prop} : Ok (mOpN f a) ρ Q = Ok a ρ fun x ρ1 => ∃ z, f x = some z ∧ Q z ρ1 := by
  unfold mOpN; simp only [ok_bind, ok_of]
theorem ok_opNO {f : List D → Option Sl} {a : M (List D)} {Q : Sl → Env → Prop} : Ok (mOpNO f a) ρ Q = Ok a ρ fun x ρ1 => ∃ z, f x = some z ∧ Q z ρ1 := by
  unfold mOpNO; simp only [ok_bind, ok_of]
theorem ok_nil {Q : List α → Env → Prop} : Ok mNil ρ Q = Q [] ρ := rfl
theorem ok_cons {a : M α} {r : M (List α)} {Q : List α → Env → Prop} : Ok (mCons a r) ρ Q = Ok a ρ fun x ρ1 => Ok r ρ1 fun xs ρ2 => Q (x :: xs) ρ2 := by
  unfold mCons; simp only [ok_bind, ok_pure]
theorem ok_OD {a : M D} {Q : Sl → Env → Prop} : Ok (mOD a) ρ Q = Ok a ρ fun d ρ1 => Q (.d d) ρ1 := by
  unfold mOD; simp only [ok_bind, ok_pure]
theorem ok_Fz {a : M Sl} {Q : D → Env → Prop} : Ok (mFz a) ρ Q = Ok a ρ fun s ρ1 => Q (frz s) ρ1 := by
  unfold mFz; simp only [ok_bind, ok_pure]
theorem ok_test {a : M D} {Q : Bool → Env → Prop} : Ok (mTest a) ρ Q = Ok a ρ fun d ρ1 => ∃ b, asB d = some b ∧ Q b ρ1 := by
  unfold mTest; simp only [ok_bind, ok_of]
theorem ok_B {a : M Bool} {Q : D → Env → Prop} : Ok (mB a) ρ Q = Ok a ρ fun b ρ1 => Q (.bl b) ρ1 := by
  unfold mB; simp only [ok_bind, ok_pure]
theorem ok_and {a b : M Bool} {Q : Bool → Env → Prop} : Ok (mAnd a b) ρ Q = Ok a ρ fun x ρ1 => if x = true then Ok b ρ1 Q else Q false ρ1 := by
  unfold mAnd; simp only [ok_bind, ok_if, ok_pure]
theorem ok_or {a b : M Bool} {Q : Bool → Env → Prop} : Ok (mOr a b) ρ Q = Ok a ρ fun x ρ1 => if x = true then Q true ρ1 else Ok b ρ1 Q := by
  unfold mOr; simp only [ok_bind, ok_if, ok_pure]
theorem ok_not {a : M Bool} {Q : Bool → Env → Prop} : Ok (mNot a) ρ Q = Ok a ρ fun x ρ1 => Q (!x) ρ1 := by
  unfold mNot; simp only [ok_bind, ok_pure]
theorem ok_mIf {c : M Bool} {a b : M α} : Ok (mIf c a b) ρ Q = Ok c ρ fun x ρ1 => if x = true then Ok a ρ1 Q else Ok b ρ1 Q := by
  unfold mIf; simp only [ok_bind, ok_if]
theorem ok_lst {a : M (List Sl)} {Q : Sl → Env → Prop} : Ok (mLst a) ρ Q = Ok a ρ fun ss ρ1 => ∃ z, mkLst ss = some z ∧ Q z ρ1 := by
  unfold mLst; simp only [ok_bind, ok_of]
theorem ok_tup {a : M (List D)} {Q : D → Env → Prop} : Ok (mTup a) ρ Q = Ok a ρ fun ss ρ1 => ∃ z, mkTup ss = some z ∧ Q z ρ1 := by
  unfold mTup; simp only [ok_bind, ok_of]
theorem okS_asg {i : Nat} {g : M Sl} : OkS (DL.sAsg i g) ρ N R = Ok g ρ fun t ρ1 => i < ρ1.length ∧ N (ρ1.set i (some t)) := by
  unfold DL.sAsg
  rw [okS_bind]
  congr 1
  funext t ρ1
  unfold setV OkS
  by_cases h : i < ρ1.length <;> simp [h, nxO]
theorem okS_ret {g : M Sl} : OkS (DL.sRet g) ρ N R = Ok g ρ R := by
  unfold DL.sRet; rw [okS_bind]; rfl
theorem okS_drop {g : M Sl} : OkS (DL.sDrop g) ρ N R = Ok g ρ fun _ ρ1 => N ρ1 := by
  unfold DL.sDrop; rw [okS_bind]; rfl
theorem okS_sIf {c : M Bool} {a b : SM} : OkS (DL.sIf c a b) ρ N R = Ok c ρ fun x ρ1 => if x = true then OkS a ρ1 N R else OkS b ρ1 N R := by
  unfold DL.sIf; rw [okS_bind]; simp only [okS_if]
theorem ok_call {n : Nat} {f : M Sl} {ios : List (Nat × Nat)} {g : M (List Sl)} {Q : Sl → Env → Prop} (h : Ok g ρ fun ss ρ1 => ss.length = n ∧ Ok f (ss.map some) fun s ρf => Q s (putBack ios ρf ρ1)) : Ok (mCall n f ios g) ρ Q := by
  unfold mCall
  rw [ok_bind]
  refine h.imp fun ss ρ1 ⟨e, k⟩ => ?_
  unfold Ok at k ⊢
  dsimp only
  rw [if_pos e]
  cases q : f (ss.map some) with
  | ok a ρf => rw [q] at k; exact k
  | exc c fs ρ' => rw [q] at k; exact k.elim
  | fail => rw [q] at k; exact k.elim
theorem ok_v0 {d : D} {Q : D → Env → Prop} : Ok (mVar 0) (some (.d d) :: ρ) Q = Q d (some (.d d) :: ρ) := rfl
theorem ok_m0 {s : Sl} {Q : Sl → Env → Prop} : Ok (mMove 0) (some s :: ρ) Q = Q s (none :: ρ) := rfl
theorem ok_v1 {o0 : Option Sl} {d : D} {Q : D → Env → Prop} : Ok (mVar 1) (o0 :: some (.d d) :: ρ) Q = Q d (o0 :: some (.d d) :: ρ) := rfl
theorem ok_m1 {o0 : Option Sl} {s : Sl} {Q : Sl → Env → Prop} : Ok (mMove 1) (o0 :: some s :: ρ) Q = Q s (o0 :: none :: ρ) := rfl
theorem ok_v2 {o0 o1 : Option Sl} {d : D} {Q : D → Env → Prop} : Ok (mVar 2) (o0 :: o1 :: some (.d d) :: ρ) Q = Q d (o0 :: o1 :: some (.d d) :: ρ) := rfl
theorem ok_m2 {o0 o1 : Option Sl} {s : Sl} {Q : Sl → Env → Prop} : Ok (mMove 2) (o0 :: o1 :: some s :: ρ) Q = Q s (o0 :: o1 :: none :: ρ) := rfl
theorem ok_v3 {o0 o1 o2 : Option Sl} {d : D} {Q : D → Env → Prop} : Ok (mVar 3) (o0 :: o1 :: o2 :: some (.d d) :: ρ) Q = Q d (o0 :: o1 :: o2 :: some (.d d) :: ρ) := rfl
theorem ok_m3 {o0 o1 o2 : Option Sl} {s : Sl} {Q : Sl → Env → Prop} : Ok (mMove 3) (o0 :: o1 :: o2 :: some s :: ρ) Q = Q s (o0 :: o1 :: o2 :: none :: ρ) := rfl
theorem ok_v4 {o0 o1 o2 o3 : Option Sl} {d : D} {Q : D → Env → Prop} : Ok (mVar 4) (o0 :: o1 :: o2 :: o3 :: some (.d d) :: ρ) Q = Q d (o0 :: o1 :: o2 :: o3 :: some (.d d) :: ρ) := rfl
theorem ok_m4 {o0 o1 o2 o3 : Option Sl} {s : Sl} {Q : Sl → Env → Prop} : Ok (mMove 4) (o0 :: o1 :: o2 :: o3 :: some s :: ρ) Q = Q s (o0 :: o1 :: o2 :: o3 :: none :: ρ) := rfl
theorem ok_v5 {o0 o1 o2 o3 o4 : Option Sl} {d : D} {Q : D → Env → Prop} : Ok (mVar 5) (o0 :: o1 :: o2 :: o3 :: o4 :: some (.d d) :: ρ) Q = Q d (o0 :: o1 :: o2 :: o3 :: o4 :: some (.d d) :: ρ) := rfl
theorem ok_m5 {o0 o1 o2 o3 o4 : Option Sl} {s : Sl} {Q : Sl → Env → Prop} : Ok (mMove 5) (o0 :: o1 :: o2 :: o3 :: o4 :: some s :: ρ) Q = Q s (o0 :: o1 :: o2 :: o3 :: o4 :: none :: ρ) := rfl
theorem ok_v6 {o0 o1 o2 o3 o4 o5 : Option Sl} {d : D} {Q : D → Env → Prop} : Ok (mVar 6) (o0 :: o1 :: o2 :: o3 :: o4 :: o5 :: some (.d d) :: ρ) Q = Q d (o0 :: o1 :: o2 :: o3 :: o4 :: o5 :: some (.d d) :: ρ) := rfl
theorem ok_m6 {o0 o1 o2 o3 o4 o5 : Option Sl} {s : Sl} {Q : Sl → Env → Prop} : Ok (mMove 6) (o0 :: o1 :: o2 :: o3 :: o4 :: o5 :: some s :: ρ) Q = Q s (o0 :: o1 :: o2 :: o3 :: o4 :: o5 :: none :: ρ) := rfl
theorem ok_v7 {o0 o1 o2 o3 o4 o5 o6 : Option Sl} {d : D} {Q : D → Env → Prop} : Ok (mVar 7) (o0 :: o1 :: o2 :: o3 :: o4 :: o5 :: o6 :: some (.d d) :: ρ) Q = Q d (o0 :: o1 :: o2 :: o3 :: o4 :: o5 :: o6 :: some (.d d) :: ρ) := rfl
theorem ok_m7 {o0 o1 o2 o3 o4 o5 o6 : Option Sl} {s : Sl} {Q : Sl → Env → Prop} : Ok (mMove 7) (o0 :: o1 :: o2 :: o3 :: o4 :: o5 :: o6 :: some s :: ρ) Q = Q s (o0 :: o1 :: o2 :: o3 :: o4 :: o5 :: o6 :: none :: ρ) := rfl
theorem ok_v8 {o0 o1 o2 o3 o4 o5 o6 o7 : Option Sl} {d : D} {Q : D → Env → Prop} : Ok (mVar 8) (o0 :: o1 :: o2 :: o3 :: o4 :: o5 :: o6 :: o7 :: some (.d d) :: ρ) Q = Q d (o0 :: o1 :: o2 :: o3 :: o4 :: o5 :: o6 :: o7 :: some (.d d) :: ρ) := rfl
theorem ok_m8 {o0 o1 o2 o3 o4 o5 o6 o7 : Option Sl} {s : Sl} {Q : Sl → Env → Prop} : Ok (mMove 8) (o0 :: o1 :: o2 :: o3 :: o4 :: o5 :: o6 :: o7 :: some s :: ρ) Q = Q s (o0 :: o1 :: o2 :: o3 :: o4 :: o5 :: o6 :: o7 :: none :: ρ) := rfl
theorem ok_v9 {o0 o1 o2 o3 o4 o5 o6 o7 o8 : Option Sl} {d : D} {Q : D → Env → Prop} : Ok (mVar 9) (o0 :: o1 :: o2 :: o3 :: o4 :: o5 :: o6 :: o7 :: o8 :: some (.d d) :: ρ) Q = Q d (o0 :: o1 :: o2 :: o3 :: o4 :: o5 :: o6 :: o7 :: o8 :: some (.d d) :: ρ) := rfl
theorem ok_m9 {o0 o1 o2 o3 o4 o5 o6 o7 o8 : Option Sl} {s : Sl} {Q : Sl → Env → Prop} : Ok (mMove 9) (o0 :: o1 :: o2 :: o3 :: o4 :: o5 :: o6 :: o7 :: o8 :: some s :: ρ) Q = Q s (o0 :: o1 :: o2 :: o3 :: o4 :: o5 :: o6 :: o7 :: o8 :: none :: ρ) := rfl
theorem ok_v10 {o0 o1 o2 o3 o4 o5 o6 o7 o8 o9 : Option Sl} {d : D} {Q : D → Env → Prop} : Ok (mVar 10) (o0 :: o1 :: o2 :: o3 :: o4 :: o5 :: o6 :: o7 :: o8 :: o9 :: some (.d d) :: ρ) Q = Q d (o0 :: o1 :: o2 :: o3 :: o4 :: o5 :: o6 :: o7 :: o8 :: o9 :: some (.d d) :: ρ) := rfl
theorem ok_m10 {o0 o1 o2 o3 o4 o5 o6 o7 o8 o9 : Option Sl} {s : Sl} {Q : Sl → Env → Prop} : Ok (mMove 10) (o0 :: o1 :: o2 :: o3 :: o4 :: o5 :: o6 :: o7 :: o8 :: o9 :: some s :: ρ) Q = Q s (o0 :: o1 :: o2 :: o3 :: o4 :: o5 :: o6 :: o7 :: o8 :: o9 :: none :: ρ) := rfl
def putP (k : Key) (t : Sl) (ρ : Env) (N : Env → Prop) : Prop := OkS (DL.sDPut 0 k (M.pure t)) ρ N fun _ _ => False
theorem okS_put {k : Key} {g : M Sl} : OkS (DL.sDPut 0 k g) ρ N R = Ok g ρ fun t ρ1 => putP k t ρ1 N := by
  unfold putP DL.sDPut
  rw [okS_bind]
  congr 1
  funext t ρ1
  unfold OkS bindS M.pure
  dsimp only
  split <;> rename_i h <;> split at h <;> try split at h
  all_goals first | (cases h; rfl) | (cases h) | rfl
section
variable {i j : Int}
theorem add_ii : addD (.int i) (.int j) = some (.int (i + j)) := rfl
theorem sub_ii : subD (.int i) (.int j) = some (.int (i - j)) := rfl
theorem gt_ii : gtD (.int i) (.int j) = some (.bl (decide (j < i))) := rfl
theorem ge_ii : geD (.int i) (.int j) = some (.bl (decide (j ≤ i))) := rfl
theorem lt_ii : ltD (.int i) (.int j) = some (.bl (decide (i < j))) := rfl
theorem le_ii : leD (.int i) (.int j) = some (.bl (decide (i ≤ j))) := rfl
theorem int_i : intD [.int i] = some (.int i) := rfl
theorem abs_i : absD [.int i] = some (.int (if i < 0 then -i else i)) := rfl
theorem asB_b {b : Bool} : asB (.bl b) = some b := rfl
theorem mod_ii (h : 0 < j) : modD (.int i) (.int j) = some (.int (i % j)) := if_pos h
theorem bits_lt {n : Nat} (h0 : 0 ≤ i) (h : i < 2 ^ n) (hn : 0 < n) : bits i < n := by
  unfold bits
  have e : i.natAbs < 2 ^ n := by
    have : (i.natAbs : Int) = i := Int.natAbs_of_nonneg h0
    have h2 : (i.natAbs : Int) < ((2 ^ n : Nat) : Int) := by rw [this]; simpa using h
    exact Int.ofNat_lt.mp h2
  exact PySem.Flt.log2_lt_of hn e
theorem fdiv_ii (h : 0 < j) (h2 : j < 2 ^ 40) : fdivD (.int i) (.int j) = some (.int (i / j)) := if_pos ⟨h, Nat.lt_trans (bits_lt (n := 40) (by omega) h2 (by omega)) (by omega)⟩
theorem mul_ii (h : 0 ≤ i) (h2 : i < 2 ^ 200) (h3 : 0 ≤ j) (h4 : j < 2 ^ 200) : mulD (.int i) (.int j) = some (.int (i * j)) := by
  have a := bits_lt (n := 200) h h2 (by omega)
  have b := bits_lt (n := 200) h3 h4 (by omega)
  exact if_pos (by omega)
theorem ix_lst {l : List D} {d : D} (h0 : 0 ≤ i) (h : l[i.toNat]? = some d) : ixD (.lst l) (.int i) = some d := by
  have hl : i.toNat < l.length := by
    obtain ⟨q, _⟩ := List.getElem?_eq_some_iff.mp h
    exact q
  exact atI_nat h0 (by omega) h
end
end
end DL

end
section
set_option Elab.async false
set_option linter.all false
set_option autoImplicit false
set_option maxRecDepth 100000
set_option maxHeartbeats 4000000
/-! Data that may be compared, plainly. -/
namespace DL
open PySem PySem.Spec L2 NdefX
def Cmp (n : Nat) (d : D) : Prop := ∃ p, toPy d = some p ∧ p.canLay0 = true ∧ p.depth ≤ n
theorem Cmp.le {n m : Nat} {d : D} (h : Cmp n d) (k : n ≤ m) : Cmp m d := by
  obtain ⟨p, a, b, c⟩ := h
  exact ⟨p, a, b, by omega⟩
theorem Cmp.int {n : Nat} {i : Int} : Cmp n (.int i) := ⟨.int i, rfl, by simp [PyData.canLay0], by simp [PyData.depth]⟩
theorem Cmp.str {n : Nat} {x : Str} (h : ∀ c ∈ x.cps.toList, c < 0x110000) : Cmp n (.str x) := ⟨.str x, rfl, by
  simp only [PyData.canLay0, PyData.strOk, Array.all_eq_true']
  intro c hc
  simpa using h c (by simpa using hc), by simp [PyData.depth]⟩
theorem Cmp.all {n : Nat} : ∀ {l : List D}, (∀ d ∈ l, Cmp n d) → ∃ ps, toPys l = some ps ∧ PyData.canLayAll0 ps = true ∧ PyData.depthAll ps ≤ n ∧ ps.length = l.length
  | [], _ => ⟨[], rfl, by simp [PyData.canLayAll0], by simp [PyData.depthAll], rfl⟩
  | d :: l, h => by
    obtain ⟨p, a, b, c⟩ := h d List.mem_cons_self
    obtain ⟨ps, a2, b2, c2, e⟩ := Cmp.all (l := l) fun d hd => h d (List.mem_cons_of_mem _ hd)
    refine ⟨p :: ps, by simp only [toPys, a, a2], by simp only [PyData.canLayAll0, b, b2, Bool.and_self], ?_, by simp [e]⟩
    simp only [PyData.depthAll]
    omega
theorem Cmp.lst {n : Nat} {l : List D} (h : ∀ d ∈ l, Cmp n d) : Cmp (n + 1) (.lst l) := by
  obtain ⟨ps, a, b, c, _⟩ := Cmp.all h
  exact ⟨.list ps, by simp only [toPy, a, Option.map_some], by simpa only [PyData.canLay0] using b, by simp only [PyData.depth]; omega⟩
theorem Cmp.tup {n : Nat} {l : List D} (h : ∀ d ∈ l, Cmp n d) : Cmp (n + 1) (.tup l) := by
  obtain ⟨ps, a, b, c, _⟩ := Cmp.all h
  exact ⟨.tuple ps, by simp only [toPy, a, Option.map_some], by simpa only [PyData.canLay0] using b, by simp only [PyData.depth]; omega⟩
theorem Cmp.shaped {p : PyData} (h : p.canLay0 = true) (k : p.depth ≤ 64) : SeqAt.shaped p = true := by
  unfold SeqAt.shaped
  simp [h, k]
/-- data is the same as itself -/
theorem eqB_same {d : D} (h : Cmp 64 d) : eqB d d = some true := by
  obtain ⟨p, a, b, c⟩ := h
  unfold eqB
  simp only [a, Cmp.shaped b c, Bool.and_self, if_pos, SeqAt.eqv_refl p b]
theorem neD_same {d : D} (h : Cmp 64 d) : neD d d = some (.bl false) := by
  unfold neD; rw [eqB_same h]; rfl
theorem eqD_same {d : D} (h : Cmp 64 d) : eqD d d = some (.bl true) := by
  unfold eqD; rw [eqB_same h]; rfl
theorem eqB_nil {l : List D} (h : ∀ d ∈ l, Cmp 63 d) : eqB (.lst l) (.lst []) = some (decide (l = [])) := by
  obtain ⟨ps, a, b, c, e⟩ := Cmp.all h
  have s : SeqAt.shaped (.list ps) = true := Cmp.shaped (by simpa only [PyData.canLay0] using b) (by simp only [PyData.depth]; omega)
  have s2 : SeqAt.shaped (.list []) = true := by decide
  unfold eqB
  simp only [toPy, a, toPys, Option.map_some, s, s2, Bool.and_self, if_pos]
  cases l with
  | nil =>
    cases ps with
    | nil => simp [PyData.eqv, PyData.eqvAll]
    | cons p ps => simp at e
  | cons d l =>
    cases ps with
    | nil => simp at e
    | cons p ps => simp [PyData.eqv, PyData.eqvAll]
theorem neD_nil {l : List D} (h : ∀ d ∈ l, Cmp 63 d) : neD (.lst l) (.lst []) = some (.bl (decide (l ≠ []))) := by
  unfold neD; rw [eqB_nil h]; simp
theorem eqD_nil {l : List D} (h : ∀ d ∈ l, Cmp 63 d) : eqD (.lst l) (.lst []) = some (.bl (decide (l = []))) := by
  unfold eqD; rw [eqB_nil h]; rfl
theorem beq_dec {i j : Int} : (i == j) = decide (i = j) := by
  by_cases h : i = j
  · subst h; simp
  · simp [h]
theorem eqB_int {i j : Int} : eqB (.int i) (.int j) = some (decide (i = j)) := by
  have s : ∀ k : Int, SeqAt.shaped (.int k) = true := fun k => by simp [SeqAt.shaped, PyData.canLay0, PyData.depth]
  unfold eqB
  simp only [toPy, s, Bool.and_self, if_pos, PyData.eqv, beq_dec]
theorem eqD_int {i j : Int} : eqD (.int i) (.int j) = some (.bl (decide (i = j))) := by
  unfold eqD; rw [eqB_int]; rfl
theorem neD_int {i j : Int} : neD (.int i) (.int j) = some (.bl (decide (i ≠ j))) := by
  unfold neD; rw [eqB_int]; simp
end DL

end
section
set_option Elab.async false
set_option linter.all false
set_option autoImplicit false
set_option maxRecDepth 100000
set_option maxHeartbeats 4000000
/-! Plain rules for comprehensions. -/
namespace DL
open PySem PySem.Spec L2 NdefX
theorem ok_lcLoop {vs : List Nat} {t : TgM} {tt : M Bool} {te : M Sl} {Q : List Sl → Env → Prop} (Inv : List D → List Sl → Env → Prop)
    (hs : ∀ d l acc ρ, Inv (d :: l) acc ρ → ∃ ρ1, t d ρ = some ρ1 ∧ Ok tt ρ1 fun b ρ2 => if b = true then Ok te ρ2 fun y ρ3 => acc.length + 1 ≤ 16777216 ∧ Inv l (acc ++ [y]) (wipeE ρ3 vs) else Inv l acc (wipeE ρ2 vs))
    (hq : ∀ acc ρ, Inv [] acc ρ → Q acc ρ) : ∀ {l : List D} {acc : List Sl} {ρ : Env}, Inv l acc ρ → Ok (lcLoop vs t tt te l acc) ρ Q
  | [], acc, ρ, h => hq acc ρ h
  | d :: l, acc, ρ, h => by
    obtain ⟨ρ1, e1, k⟩ := hs d l acc ρ h
    obtain ⟨b, ρ2, e2, k⟩ := k.get
    unfold Ok lcLoop
    simp only [e1, e2]
    cases b with
    | false => simpa [Ok] using ok_lcLoop Inv hs hq (l := l) (by simpa using k)
    | true =>
      have k : Ok te ρ2 fun y ρ3 => acc.length + 1 ≤ 16777216 ∧ Inv l (acc ++ [y]) (wipeE ρ3 vs) := by simpa using k
      obtain ⟨y, ρ3, e3, k1, k2⟩ := k.get
      have z : lineOk (acc.length + 1) = true := decide_eq_true k1
      simp only [e3, z, if_true]
      simpa [Ok] using ok_lcLoop Inv hs hq (l := l) k2
theorem ok_lc {vs : List Nat} {gi : M (List D)} {t : TgM} {tt : M Bool} {te : M Sl} {ρ : Env} {Q : Sl → Env → Prop} (Inv : List D → List Sl → Env → Prop)
    (hs : ∀ d l acc ρ, Inv (d :: l) acc ρ → ∃ ρ1, t d ρ = some ρ1 ∧ Ok tt ρ1 fun b ρ2 => if b = true then Ok te ρ2 fun y ρ3 => acc.length + 1 ≤ 16777216 ∧ Inv l (acc ++ [y]) (wipeE ρ3 vs) else Inv l acc (wipeE ρ2 vs))
    (h : Ok gi ρ fun l ρ1 => plainAt ρ1 vs = true ∧ Inv l [] (wipeE ρ1 vs) ∧ ∀ acc ρ', Inv [] acc ρ' → Q (.ol acc) (backE ρ1 ρ' vs)) : Ok (mLc vs gi t tt te) ρ Q := by
  unfold mLc
  rw [ok_bind]
  refine h.imp fun l ρ1 ⟨e, i, q⟩ => ?_
  obtain ⟨acc, ρ', e2, k⟩ := (ok_lcLoop Inv hs q i).get
  unfold Ok
  dsimp only
  rw [if_pos e, e2]
  exact k
theorem ok_app {i : Nat} {g : M Sl} {ρ : Env} {l : List Sl} {Q : Sl → Env → Prop} (h : ρ[i]? = some (some (.ol l)))
    (hg : Ok g ρ fun t ρ1 => ∃ l2, ρ1[i]? = some (some (.ol l2)) ∧ l2.length + 1 ≤ 16777216 ∧ Q (.d .non) (ρ1.set i (some (.ol (l2 ++ [t]))))) : Ok (mApp i g) ρ Q := by
  have c : isOl i ρ = true := by unfold isOl; rw [h]
  obtain ⟨t, ρ1, e, l2, e2, e3, q⟩ := hg.get
  have z : lineOk (l2.length + 1) = true := decide_eq_true e3
  unfold Ok mApp guard M.bind
  simp only [c, if_true, e, e2, z]
  exact q
theorem ok_popAt {i : Nat} {g : M D} {ρ : Env} {l : List Sl} {Q : Sl → Env → Prop} (h : ρ[i]? = some (some (.ol l)))
    (hg : Ok g ρ fun d ρ1 => ∃ k l2 t, d = .int k ∧ ρ1[i]? = some (some (.ol l2)) ∧ 0 ≤ k ∧ k < (l2.length : Int) ∧ k < 2 ^ 62 ∧ l2[k.toNat]? = some t ∧ Q t (ρ1.set i (some (.ol (l2.eraseIdx k.toNat))))) : Ok (mPopAt i g) ρ Q := by
  have c : isOl i ρ = true := by unfold isOl; rw [h]
  obtain ⟨d, ρ1, e, k, l2, t, rfl, e2, h0, h1, h2, e3, q⟩ := hg.get
  unfold Ok mPopAt guard M.bind
  simp only [c, if_true, e, e2, e3]
  rw [if_pos ⟨h0, h1, h2⟩]
  exact q
theorem ok_peekT {g : M Bool} {ρ : Env} {Q : Bool → Env → Prop} (h : Ok g (frzE ρ) fun b _ => Q b ρ) : Ok (mPeekT g) ρ Q := by
  obtain ⟨b, ρ1, e, q⟩ := h.get
  unfold Ok mPeekT
  rw [e]
  exact q
theorem ok_peek {g : M D} {ρ : Env} {Q : D → Env → Prop} (h : Ok g (frzE ρ) fun d _ => pureD d = true ∧ Q d ρ) : Ok (mPeek g) ρ Q := by
  obtain ⟨d, ρ1, e, p, q⟩ := h.get
  unfold Ok mPeek
  rw [e]
  simpa [p] using q
end DL

end
section
set_option Elab.async false
set_option linter.all false
set_option autoImplicit false
set_option maxRecDepth 100000
set_option maxHeartbeats 4000000
/-! Plain rules: calls, walks, comprehensions without a state, answers that are known. -/
namespace DL
open PySem PySem.Spec L2 NdefX
open TL (tl)
section
variable {α β : Type} {ρ : Env} {Q Q' : α → Env → Prop} {N N' : Env → Prop} {R R' : Sl → Env → Prop}
/-- an answer that is known -/
theorem ok_eq {g : M α} {a : α} {ρ' : Env} (e : g ρ = .ok a ρ') : Ok g ρ Q = Q a ρ' := by
  unfold Ok; rw [e]
theorem ok_det {g : M α} {a : α} {ρ' : Env} (h : Ok g ρ fun b ρ2 => b = a ∧ ρ2 = ρ') : g ρ = .ok a ρ' := by
  obtain ⟨b, ρ2, e, h1, h2⟩ := h.get
  rw [e, h1, h2]
theorem ok_callE {n : Nat} {f : M Sl} {ios : List (Nat × Nat)} {g : M (List Sl)} {Q : Sl → Env → Prop} : Ok (mCall n f ios g) ρ Q = Ok g ρ fun ss ρ1 => ss.length = n ∧ Ok f (ss.map some) fun s ρf => Q s (putBack ios ρf ρ1) := by
  unfold mCall
  rw [ok_bind]
  congr 1
  funext ss ρ1
  by_cases h : ss.length = n
  · unfold Ok
    dsimp only
    rw [if_pos h]
    cases q : f (ss.map some) <;> simp [h]
  · unfold Ok
    dsimp only
    rw [if_neg h]
    simp [h]
theorem ok_items {f : D → Option (List D)} {ga : M D} {Q : List D → Env → Prop} : Ok (mItems f ga) ρ Q = Ok ga ρ fun d ρ1 => ∃ l, f d = some l ∧ Q l ρ1 := by
  unfold mItems; simp only [ok_bind, ok_of]
theorem ok_itemsN {f : List D → Option (List D)} {ga : M (List D)} {Q : List D → Env → Prop} : Ok (mItemsN f ga) ρ Q = Ok ga ρ fun d ρ1 => ∃ l, f d = some l ∧ Q l ρ1 := by
  unfold mItemsN; simp only [ok_bind, ok_of]
theorem okS_for {g : M (List D)} {t : TgM} {b : SM} : OkS (sForI g t b) ρ N R = Ok g ρ fun l ρ1 => OkS (loopL t b l) ρ1 N R := by
  unfold sForI; rw [okS_bind]
theorem okS_tgt {g : M D} {t : TgM} : OkS (sTgt g t) ρ N R = Ok g ρ fun d ρ1 => ∃ ρ2, t d ρ1 = some ρ2 ∧ N ρ2 := by
  unfold sTgt
  rw [okS_bind]
  congr 1
  funext d ρ1
  unfold OkS
  rcases q : t d ρ1 with _ | ρ2
  · simp [nxO, q]
  · simp [nxO, q]
theorem ok_mt1 {f : D → D → Option D} {ga gb : M D} {Q : D → Env → Prop} : Ok (mMt1 f ga gb) ρ Q = Ok ga ρ fun d ρ1 => ∃ x, d = .str x ∧ Ok gb ρ1 fun e ρ2 => ∃ z, f d e = some z ∧ Q z ρ2 := by
  unfold mMt1
  rw [ok_bind]
  congr 1
  funext d ρ1
  cases d with
  | str x => simp only [ok_bind, ok_of]; simp
  | _ => simp [Ok]
theorem ok_chain {f f' : D → D → Option D} {ga gb gc : M D} {Q : D → Env → Prop} : Ok (mChain f f' ga gb gc) ρ Q = Ok ga ρ fun x ρ1 => Ok gb ρ1 fun y ρ2 => ∃ z, f x y = some z ∧ ∃ k, asB z = some k ∧ if k = true then Ok gc ρ2 fun w ρ3 => ∃ u, f' y w = some u ∧ Q u ρ3 else Q (.bl false) ρ2 := by
  unfold mChain; simp only [ok_bind, ok_of, ok_if, ok_pure]
theorem ok_sl {f : D → Option Int → Option Int → Option D} {g : M D} {l h : M (Option Int)} {Q : D → Env → Prop} : Ok (mSl f g l h) ρ Q = Ok g ρ fun d ρ1 => Ok l ρ1 fun i ρ2 => Ok h ρ2 fun j ρ3 => ∃ z, f d i j = some z ∧ Q z ρ3 := by
  unfold mSl; simp only [ok_bind, ok_of]
theorem ok_noPart {Q : Option Int → Env → Prop} : Ok mNoPart ρ Q = Q none ρ := rfl
theorem ok_part {g : M D} {Q : Option Int → Env → Prop} : Ok (mPart g) ρ Q = Ok g ρ fun d ρ1 => ∃ i, asI d = some i ∧ Q (some i) ρ1 := by
  unfold mPart; simp only [ok_bind, ok_of, ok_pure]
theorem ok_star {ga : M D} {g : M (List Sl)} {Q : List Sl → Env → Prop} : Ok (mStar ga g) ρ Q = Ok ga ρ fun d ρ1 => ∃ l, seqItems d = some l ∧ Ok g ρ1 fun ss ρ2 => Q (l.map .d ++ ss) ρ2 := by
  unfold mStar; simp only [ok_bind, ok_of, ok_pure]
theorem ok_isiT {ns : List String} {ga : M D} {Q : D → Env → Prop} : Ok (mIsiT ns ga) ρ Q = Ok ga ρ fun d ρ1 => ∃ z, ((tyName d).bind fun t => (kitAnyS t ns).map .bl) = some z ∧ Q z ρ1 := by
  unfold mIsiT; simp only [ok_bind, ok_of]
theorem ok_truB {f : D → Option Bool} {g : M D} {Q : Bool → Env → Prop} : Ok (mTruB f g) ρ Q = Ok g ρ fun d ρ1 => ∃ b, f d = some b ∧ Q b ρ1 := by
  unfold mTruB; simp only [ok_bind, ok_of]
theorem okS_fail : OkS sFail ρ N R = False := rfl
theorem okS_retN : OkS sRetN ρ N R = R (.d .non) ρ := rfl
/-- a comprehension over what stands for a plain list, whose element changes nothing -/
theorem ok_lcOver {γ : Type} {vs : List Nat} {gi : M (List D)} {t : TgM} {te : M Sl} {Q : Sl → Env → Prop} (xs : List γ) (g : γ → D) (f : γ → Sl)
    (h : Ok gi ρ fun l ρ1 => l = xs.map g ∧ plainAt ρ1 vs = true ∧ xs.length ≤ 16777216 ∧ (∀ x ∈ xs, ∃ ρ2, t (g x) (wipeE ρ1 vs) = some ρ2 ∧ Ok te ρ2 fun y ρ3 => y = f x ∧ wipeE ρ3 vs = wipeE ρ1 vs) ∧ Q (.ol (xs.map f)) (backE ρ1 (wipeE ρ1 vs) vs)) :
    Ok (mLc vs gi t (M.pure true) te) ρ Q := by
  obtain ⟨l0, ρ1, e, e0, p, len, st, q⟩ := h.get
  subst e0
  refine ok_lc (fun l acc ρ' => ρ' = wipeE ρ1 vs ∧ ∃ ys zs : List γ, xs = ys ++ zs ∧ l = zs.map g ∧ acc = ys.map f) ?_ ?_
  · rintro d l acc ρ' ⟨rfl, ys, zs, h1, h2, h3⟩
    cases zs with
    | nil => cases h2
    | cons z zs =>
      simp only [List.map_cons, List.cons.injEq] at h2
      obtain ⟨rfl, rfl⟩ := h2
      obtain ⟨ρ2, e2, k⟩ := st z (by rw [h1]; simp)
      refine ⟨ρ2, e2, ?_⟩
      rw [ok_pure, if_pos rfl]
      refine k.imp fun y ρ3 ⟨k1, k2⟩ => ?_
      have hl : acc.length + 1 ≤ 16777216 := by
        have := congrArg List.length h1
        simp only [List.length_append, List.length_cons] at this
        rw [h3, List.length_map]; omega
      exact ⟨hl, k2, ys ++ [z], zs, by rw [h1]; simp, rfl, by rw [h3, k1]; simp⟩
  · refine Ok.mk e ⟨p, ⟨rfl, [], xs, rfl, rfl, rfl⟩, ?_⟩
    rintro acc ρ' ⟨rfl, ys, zs, h1, h2, h3⟩
    have hz : zs = [] := List.map_eq_nil_iff.mp h2.symm
    subst hz
    rw [List.append_nil] at h1
    rw [h3, ← h1]; exact q
end
theorem tgName_set {i : Nat} {d : D} {ρ : Env} (h : i < ρ.length) : tgName i d ρ = some (ρ.set i (some (.d d))) := by
  unfold tgName setV; rw [if_pos h]
theorem bools_map {α : Type} (f : α → Bool) : ∀ l : List α, bools (l.map fun x => .bl (f x)) = some (l.map f)
  | [] => rfl
  | x :: l => by simp only [List.map_cons, bools, bools_map f l, Option.map_some]
theorem frzL_map {α : Type} (f : α → D) : ∀ l : List α, frzL (l.map fun x => .d (f x)) = l.map f
  | [] => rfl
  | x :: l => by simp only [List.map_cons, frzL, frz, frzL_map f l]
theorem textsOf_map : ∀ l : List Str, textsOf (l.map .str) = some l
  | [] => rfl
  | x :: l => by simp only [List.map_cons, textsOf, textsOf_map l, Option.map_some]
theorem putBack_nil {ρf ρ : Env} : putBack [] ρf ρ = ρ := rfl
theorem putBack_0 {i : Nat} {t : Sl} {r ρ : Env} : putBack [(0, i)] (some t :: r) ρ = ρ.set i (some t) := rfl
theorem len_str {w : Str} (h : w.length ≤ 16777216) : lenD [.str w] = some (.int w.length) := if_pos (decide_eq_true h)
theorem len_lst' {l : List D} : lenD [.lst l] = some (.int l.length) := rfl
theorem len_tup {l : List D} : lenD [.tup l] = some (.int l.length) := rfl
theorem isi_str_str {w : Str} {cs : List Str} : isiD cs [.str w, .ty "str"] = some (.bl true) := rfl
theorem isi_int_str {w : Int} {cs : List Str} : isiD cs [.int w, .ty "str"] = some (.bl false) := rfl
theorem isi_int_int {w : Int} {cs : List Str} : isiD cs [.int w, .ty "int"] = some (.bl true) := rfl
theorem isi_int_bool {w : Int} {cs : List Str} : isiD cs [.int w, .ty "bool"] = some (.bl false) := rfl
theorem in_char {c : Nat} {z : Str} : inD (.str ⟨#[c]⟩) (.str z) = some (.bl (decide (c ∈ tl z))) := rfl
theorem notIn_char {c : Nat} {z : Str} : notInD (.str ⟨#[c]⟩) (.str z) = some (.bl (!decide (c ∈ tl z))) := rfl
theorem items_str {w : Str} : itemsS (.str w) = some ((tl w).map fun c => .str ⟨#[c]⟩) := rfl
theorem items_lst {l : List D} : itemsS (.lst l) = some l := rfl
theorem items_tup {l : List D} : itemsS (.tup l) = some l := rfl
theorem enum_lst {l : List D} : enumS [.lst l] = some (enumOf l) := rfl
theorem enum_tup {l : List D} : enumS [.tup l] = some (enumOf l) := rfl
theorem all_map {γ : Type} (f : γ → Bool) (l : List γ) : allD [.lst (l.map fun x => .bl (f x))] = some (.bl ((l.map f).all id)) := by
  show (bools (l.map fun x => .bl (f x))).map (fun bs => D.bl (bs.all id)) = _
  rw [bools_map]; rfl
theorem frz_d {d : D} : frz (.d d) = d := rfl
theorem frz_ol {l : List Sl} : frz (.ol l) = .lst (frzL l) := rfl
/-- a walk, by the number of the turn -/
theorem okS_loopI {t : TgM} {b : SM} {items : List D} {ρ : Env} {N : Env → Prop} {R : Sl → Env → Prop} (Inv : Nat → Env → Prop)
    (hb : ∀ i d ρ, items[i]? = some d → Inv i ρ → ∃ ρ1, t d ρ = some ρ1 ∧ OkS b ρ1 (Inv (i + 1)) R) (h0 : Inv 0 ρ) (hN : ∀ ρ, Inv items.length ρ → N ρ) : OkS (loopL t b items) ρ N R := by
  refine okS_loop (fun l ρ => ∃ i, i ≤ items.length ∧ l = items.drop i ∧ Inv i ρ) ?_ ?_ ⟨0, Nat.zero_le _, by simp, h0⟩
  · rintro d l ρ ⟨i, hi, e, iv⟩
    have lt : i < items.length := by
      rcases Nat.lt_or_ge i items.length with z | z
      · exact z
      · rw [List.drop_eq_nil_of_le z] at e; cases e
    rw [List.drop_eq_getElem_cons lt] at e
    obtain ⟨e1, e2⟩ := List.cons.inj e
    obtain ⟨ρ1, h1, h2⟩ := hb i d ρ (by rw [List.getElem?_eq_getElem lt, e1]) iv
    exact ⟨ρ1, h1, h2.imp (fun ρ2 z => ⟨i + 1, lt, e2, z⟩) fun _ _ z => z⟩
  · rintro ρ ⟨i, hi, e, iv⟩
    have : items.length - i = 0 := by rw [← List.length_drop, ← e]; rfl
    have ei : i = items.length := by omega
    subst ei
    exact hN ρ iv
theorem enumOf_get {l : List D} {i : Nat} : (enumOf l)[i]? = (l[i]?).map fun d => .tup [.int (i : Nat), d] := by
  unfold enumOf
  rw [List.getElem?_zipWith]
  cases q : l[i]? with
  | none => cases q2 : (List.range l.length)[i]? <;> rfl
  | some d =>
    have lt := (List.getElem?_eq_some_iff.mp q).1
    rw [List.getElem?_range lt]; rfl
theorem enumOf_len {l : List D} : (enumOf l).length = l.length := by
  unfold enumOf; simp
theorem okS_enum {t : TgM} {b : SM} {l : List D} {ρ : Env} {N : Env → Prop} {R : Sl → Env → Prop} (Inv : Nat → Env → Prop)
    (hb : ∀ i d ρ, l[i]? = some d → Inv i ρ → ∃ ρ1, t (.tup [.int (i : Nat), d]) ρ = some ρ1 ∧ OkS b ρ1 (Inv (i + 1)) R) (h0 : Inv 0 ρ) (hN : ∀ ρ, Inv l.length ρ → N ρ) : OkS (loopL t b (enumOf l)) ρ N R := by
  refine okS_loopI Inv (fun i d ρ e iv => ?_) h0 (by rw [enumOf_len]; exact hN)
  rw [enumOf_get] at e
  cases q : l[i]? with
  | none => rw [q] at e; cases e
  | some x =>
    rw [q] at e
    cases e
    exact hb i x ρ q iv
theorem intsFrom_get {lo : Int} {n i : Nat} {d : D} (h : (intsFrom lo n)[i]? = some d) : i < n ∧ d = .int (lo + i) := by
  unfold intsFrom at h
  rw [List.getElem?_map] at h
  cases q : (List.range n)[i]? with
  | none => rw [q] at h; cases h
  | some j =>
    rw [q] at h
    obtain ⟨hj, e2⟩ := List.getElem?_eq_some_iff.mp q
    rw [List.getElem_range] at e2
    cases h
    subst e2
    exact ⟨by simpa using hj, rfl⟩
theorem intsFrom_len {lo : Int} {n : Nat} : (intsFrom lo n).length = n := by unfold intsFrom; simp
theorem okS_range {t : TgM} {b : SM} {n : Nat} {lo : Int} {ρ : Env} {N : Env → Prop} {R : Sl → Env → Prop} (Inv : Nat → Env → Prop)
    (hb : ∀ i ρ, i < n → Inv i ρ → ∃ ρ1, t (.int (lo + i)) ρ = some ρ1 ∧ OkS b ρ1 (Inv (i + 1)) R) (h0 : Inv 0 ρ) (hN : ∀ ρ, Inv n ρ → N ρ) : OkS (loopL t b (intsFrom lo n)) ρ N R := by
  refine okS_loopI Inv (fun i d ρ e iv => ?_) h0 (by rw [intsFrom_len]; exact hN)
  obtain ⟨h1, rfl⟩ := intsFrom_get e
  exact hb i ρ h1 iv
theorem tgt2 {i j : Nat} {a b : D} {ρ : Env} (hi : i < ρ.length) (hj : j < ρ.length) : tgTup 2 (tgsCons (tgName i) (tgsCons (tgName j) tgsNil)) (.tup [a, b]) ρ = some ((ρ.set i (some (.d a))).set j (some (.d b))) := by
  simp [tgTup, tgsCons, tgName, tgsNil, setV, hi, hj]
theorem cutD_take {l : List D} {k : Nat} (h : k ≤ l.length) : cutD l none (some (k : Int)) = l.take k := by
  unfold cutD
  rw [HT.sIx_none, HT.sIx_nat]
  simp [Nat.min_eq_left h]
theorem cutD_drop {l : List D} {k : Nat} : cutD l (some (k : Int)) none = l.drop k := by
  unfold cutD
  rw [HT.sIx_none, HT.sIx_nat]
  rw [List.take_of_length_le (by simp)]
  rcases Nat.le_total k l.length with h | h
  · rw [Nat.min_eq_left h]
  · rw [Nat.min_eq_right h, List.drop_length, List.drop_eq_nil_of_le h]
theorem flatsOf_strs : ∀ l : List Str, flatsOf (l.map D.str) = some (l.map V.str)
  | [] => rfl
  | x :: l => by simp only [List.map_cons, flatsOf, flatOf, flatsOf_strs l]
theorem inV_strs {w : Str} : ∀ l : List Str, inV (.str w) (l.map V.str) = decide (w ∈ l)
  | [] => by simp [inV]
  | x :: l => by
    have ih := inV_strs (w := w) l
    unfold inV at ih ⊢
    rw [List.map_cons, List.any_cons, ih]
    by_cases h : x = w
    · subst h; simp [eqV]
    · simp [eqV, h, Ne.symm h]
theorem in_strs {w : Str} {l : List Str} : inD (.str w) (.lst (l.map .str)) = some (.bl (decide (w ∈ l))) := by
  unfold inD inB
  simp only [flatOf, flatsOf_strs, Option.map_some, inV_strs]
theorem notIn_strs {w : Str} {l : List Str} : notInD (.str w) (.lst (l.map .str)) = some (.bl (!decide (w ∈ l))) := by
  unfold notInD inB
  simp only [flatOf, flatsOf_strs, Option.map_some, inV_strs]
theorem in_strsT {w : Str} {l : List Str} : inD (.str w) (.tup (l.map .str)) = some (.bl (decide (w ∈ l))) := by
  unfold inD inB
  simp only [flatOf, flatsOf_strs, Option.map_some, inV_strs]
theorem notIn_strsT {w : Str} {l : List Str} : notInD (.str w) (.tup (l.map .str)) = some (.bl (!decide (w ∈ l))) := by
  unfold notInD inB
  simp only [flatOf, flatsOf_strs, Option.map_some, inV_strs]
theorem ix_str {a : Str} {c : Nat} {i : Nat} (h : a.length ≤ 16777216) (e : (tl a)[i]? = some c) : ixD (.str a) (.int (i : Nat)) = some (.str ⟨#[c]⟩) := by
  unfold ixD
  have z : lineOk a.length = true := decide_eq_true h
  simp only [z, if_true]
  rw [L2.atI_nat e]; rfl
theorem set_get {α : Type} {x : α} : ∀ {l : List α} {i : Nat}, l[i]? = some x → l.set i x = l
  | [], _, h => by simp at h
  | y :: l, 0, h => by
    have e : y = x := by simpa using h
    subst e; rfl
  | y :: l, i + 1, h => by
    rw [List.set_cons_succ, set_get (l := l) (i := i) (by simpa using h)]
theorem isiT_lst {l : List D} : ((tyName (.lst l)).bind fun t => (kitAnyS t ["tuple", "list"]).map D.bl) = some (.bl true) := rfl
theorem isiT_tup {l : List D} : ((tyName (.tup l)).bind fun t => (kitAnyS t ["tuple", "list"]).map D.bl) = some (.bl true) := rfl
theorem asI_i {i : Int} : asI (.int i) = some i := rfl
theorem sl_lst {l : List D} {i j : Option Int} : slD (.lst l) i j = some (.lst (cutD l i j)) := rfl
theorem tuple_lst {l : List D} : tupleD [.lst l] = some (.tup l) := rfl
theorem tuple_tup {l : List D} : tupleD [.tup l] = some (.tup l) := rfl
theorem isNon_non : isNonD .non .non = some (.bl true) := rfl
theorem isNotNon_non : isNotNonD .non .non = some (.bl false) := rfl
theorem isNotNon_int {i : Int} : isNotNonD (.int i) .non = some (.bl true) := rfl
theorem isNon_int {i : Int} : isNonD (.int i) .non = some (.bl false) := rfl
theorem isNon_str {i : Str} : isNonD (.str i) .non = some (.bl false) := rfl
theorem isNotNon_str {i : Str} : isNotNonD (.str i) .non = some (.bl true) := rfl
theorem ofStr_inj {a b : String} : (PySem.Str.ofString a = PySem.Str.ofString b) = (a = b) := by
  refine propext ⟨fun h => ?_, fun h => by rw [h]⟩
  rw [PySem.Str.ofString_eq_toList, PySem.Str.ofString_eq_toList] at h
  have h2 : (a.toList.map Char.toNat) = (b.toList.map Char.toNat) := by simpa using h
  have h3 : a.toList = b.toList := by
    refine List.map_inj_right (f := Char.toNat) (fun x y e => ?_) |>.mp h2
    exact Char.ext (UInt32.toNat.inj e)
  exact String.toList_inj.mp h3
theorem ix2_0 {a b : D} : ixD (.tup [a, b]) (.int 0) = some a := rfl
theorem ix2_1 {a b : D} : ixD (.tup [a, b]) (.int 1) = some b := rfl
def attrP (cs : List Str) (f : Str) (i : Nat) (t : Sl) (ρ : Env) (N : Env → Prop) : Prop := OkS (DL.sAttr cs f i (M.pure t)) ρ N fun _ _ => False
theorem okS_attr {cs : List Str} {f : Str} {i : Nat} {g : M Sl} {ρ : Env} {N : Env → Prop} {R : Sl → Env → Prop} : OkS (DL.sAttr cs f i g) ρ N R = Ok g ρ fun t ρ1 => attrP cs f i t ρ1 N := by
  unfold attrP DL.sAttr
  rw [okS_bind]
  congr 1
  funext t ρ1
  unfold OkS bindS M.pure
  dsimp only
  split <;> rename_i h <;> split at h <;> try split at h
  all_goals first | (cases h; rfl) | (cases h) | rfl
theorem okS_imp' {s : SM} {ρ : Env} {N : Env → Prop} {R : Sl → Env → Prop} : OkS s ρ N (fun _ _ => False) → OkS s ρ N R := fun h => h.imp (fun _ z => z) fun _ _ z => z.elim
theorem ok_f0 {l : List Sl} {ρ : Env} {Q : D → Env → Prop} : Ok (mVar 0) (some (.ol l) :: ρ) Q = Q (.lst (frzL l)) (some (.d (.lst (frzL l))) :: ρ) := rfl
theorem ok_g0 {c : Str} {l : List (Str × Sl)} {ρ : Env} {Q : D → Env → Prop} : Ok (mVar 0) (some (.oi c l) :: ρ) Q = Q (.ins c (frzF l)) (some (.d (.ins c (frzF l))) :: ρ) := rfl
theorem ok_f1 {o0 : Option Sl} {l : List Sl} {ρ : Env} {Q : D → Env → Prop} : Ok (mVar 1) (o0 :: some (.ol l) :: ρ) Q = Q (.lst (frzL l)) (o0 :: some (.d (.lst (frzL l))) :: ρ) := rfl
theorem ok_g1 {o0 : Option Sl} {c : Str} {l : List (Str × Sl)} {ρ : Env} {Q : D → Env → Prop} : Ok (mVar 1) (o0 :: some (.oi c l) :: ρ) Q = Q (.ins c (frzF l)) (o0 :: some (.d (.ins c (frzF l))) :: ρ) := rfl
theorem ok_f2 {o0 o1 : Option Sl} {l : List Sl} {ρ : Env} {Q : D → Env → Prop} : Ok (mVar 2) (o0 :: o1 :: some (.ol l) :: ρ) Q = Q (.lst (frzL l)) (o0 :: o1 :: some (.d (.lst (frzL l))) :: ρ) := rfl
theorem ok_g2 {o0 o1 : Option Sl} {c : Str} {l : List (Str × Sl)} {ρ : Env} {Q : D → Env → Prop} : Ok (mVar 2) (o0 :: o1 :: some (.oi c l) :: ρ) Q = Q (.ins c (frzF l)) (o0 :: o1 :: some (.d (.ins c (frzF l))) :: ρ) := rfl
theorem ok_f3 {o0 o1 o2 : Option Sl} {l : List Sl} {ρ : Env} {Q : D → Env → Prop} : Ok (mVar 3) (o0 :: o1 :: o2 :: some (.ol l) :: ρ) Q = Q (.lst (frzL l)) (o0 :: o1 :: o2 :: some (.d (.lst (frzL l))) :: ρ) := rfl
theorem ok_g3 {o0 o1 o2 : Option Sl} {c : Str} {l : List (Str × Sl)} {ρ : Env} {Q : D → Env → Prop} : Ok (mVar 3) (o0 :: o1 :: o2 :: some (.oi c l) :: ρ) Q = Q (.ins c (frzF l)) (o0 :: o1 :: o2 :: some (.d (.ins c (frzF l))) :: ρ) := rfl
theorem ok_f4 {o0 o1 o2 o3 : Option Sl} {l : List Sl} {ρ : Env} {Q : D → Env → Prop} : Ok (mVar 4) (o0 :: o1 :: o2 :: o3 :: some (.ol l) :: ρ) Q = Q (.lst (frzL l)) (o0 :: o1 :: o2 :: o3 :: some (.d (.lst (frzL l))) :: ρ) := rfl
theorem ok_g4 {o0 o1 o2 o3 : Option Sl} {c : Str} {l : List (Str × Sl)} {ρ : Env} {Q : D → Env → Prop} : Ok (mVar 4) (o0 :: o1 :: o2 :: o3 :: some (.oi c l) :: ρ) Q = Q (.ins c (frzF l)) (o0 :: o1 :: o2 :: o3 :: some (.d (.ins c (frzF l))) :: ρ) := rfl
theorem ok_f5 {o0 o1 o2 o3 o4 : Option Sl} {l : List Sl} {ρ : Env} {Q : D → Env → Prop} : Ok (mVar 5) (o0 :: o1 :: o2 :: o3 :: o4 :: some (.ol l) :: ρ) Q = Q (.lst (frzL l)) (o0 :: o1 :: o2 :: o3 :: o4 :: some (.d (.lst (frzL l))) :: ρ) := rfl
theorem ok_g5 {o0 o1 o2 o3 o4 : Option Sl} {c : Str} {l : List (Str × Sl)} {ρ : Env} {Q : D → Env → Prop} : Ok (mVar 5) (o0 :: o1 :: o2 :: o3 :: o4 :: some (.oi c l) :: ρ) Q = Q (.ins c (frzF l)) (o0 :: o1 :: o2 :: o3 :: o4 :: some (.d (.ins c (frzF l))) :: ρ) := rfl
theorem ok_f6 {o0 o1 o2 o3 o4 o5 : Option Sl} {l : List Sl} {ρ : Env} {Q : D → Env → Prop} : Ok (mVar 6) (o0 :: o1 :: o2 :: o3 :: o4 :: o5 :: some (.ol l) :: ρ) Q = Q (.lst (frzL l)) (o0 :: o1 :: o2 :: o3 :: o4 :: o5 :: some (.d (.lst (frzL l))) :: ρ) := rfl
theorem ok_g6 {o0 o1 o2 o3 o4 o5 : Option Sl} {c : Str} {l : List (Str × Sl)} {ρ : Env} {Q : D → Env → Prop} : Ok (mVar 6) (o0 :: o1 :: o2 :: o3 :: o4 :: o5 :: some (.oi c l) :: ρ) Q = Q (.ins c (frzF l)) (o0 :: o1 :: o2 :: o3 :: o4 :: o5 :: some (.d (.ins c (frzF l))) :: ρ) := rfl
theorem ok_f7 {o0 o1 o2 o3 o4 o5 o6 : Option Sl} {l : List Sl} {ρ : Env} {Q : D → Env → Prop} : Ok (mVar 7) (o0 :: o1 :: o2 :: o3 :: o4 :: o5 :: o6 :: some (.ol l) :: ρ) Q = Q (.lst (frzL l)) (o0 :: o1 :: o2 :: o3 :: o4 :: o5 :: o6 :: some (.d (.lst (frzL l))) :: ρ) := rfl
theorem ok_g7 {o0 o1 o2 o3 o4 o5 o6 : Option Sl} {c : Str} {l : List (Str × Sl)} {ρ : Env} {Q : D → Env → Prop} : Ok (mVar 7) (o0 :: o1 :: o2 :: o3 :: o4 :: o5 :: o6 :: some (.oi c l) :: ρ) Q = Q (.ins c (frzF l)) (o0 :: o1 :: o2 :: o3 :: o4 :: o5 :: o6 :: some (.d (.ins c (frzF l))) :: ρ) := rfl
theorem ok_f8 {o0 o1 o2 o3 o4 o5 o6 o7 : Option Sl} {l : List Sl} {ρ : Env} {Q : D → Env → Prop} : Ok (mVar 8) (o0 :: o1 :: o2 :: o3 :: o4 :: o5 :: o6 :: o7 :: some (.ol l) :: ρ) Q = Q (.lst (frzL l)) (o0 :: o1 :: o2 :: o3 :: o4 :: o5 :: o6 :: o7 :: some (.d (.lst (frzL l))) :: ρ) := rfl
theorem ok_g8 {o0 o1 o2 o3 o4 o5 o6 o7 : Option Sl} {c : Str} {l : List (Str × Sl)} {ρ : Env} {Q : D → Env → Prop} : Ok (mVar 8) (o0 :: o1 :: o2 :: o3 :: o4 :: o5 :: o6 :: o7 :: some (.oi c l) :: ρ) Q = Q (.ins c (frzF l)) (o0 :: o1 :: o2 :: o3 :: o4 :: o5 :: o6 :: o7 :: some (.d (.ins c (frzF l))) :: ρ) := rfl
theorem ok_f9 {o0 o1 o2 o3 o4 o5 o6 o7 o8 : Option Sl} {l : List Sl} {ρ : Env} {Q : D → Env → Prop} : Ok (mVar 9) (o0 :: o1 :: o2 :: o3 :: o4 :: o5 :: o6 :: o7 :: o8 :: some (.ol l) :: ρ) Q = Q (.lst (frzL l)) (o0 :: o1 :: o2 :: o3 :: o4 :: o5 :: o6 :: o7 :: o8 :: some (.d (.lst (frzL l))) :: ρ) := rfl
theorem ok_g9 {o0 o1 o2 o3 o4 o5 o6 o7 o8 : Option Sl} {c : Str} {l : List (Str × Sl)} {ρ : Env} {Q : D → Env → Prop} : Ok (mVar 9) (o0 :: o1 :: o2 :: o3 :: o4 :: o5 :: o6 :: o7 :: o8 :: some (.oi c l) :: ρ) Q = Q (.ins c (frzF l)) (o0 :: o1 :: o2 :: o3 :: o4 :: o5 :: o6 :: o7 :: o8 :: some (.d (.ins c (frzF l))) :: ρ) := rfl
theorem ok_f10 {o0 o1 o2 o3 o4 o5 o6 o7 o8 o9 : Option Sl} {l : List Sl} {ρ : Env} {Q : D → Env → Prop} : Ok (mVar 10) (o0 :: o1 :: o2 :: o3 :: o4 :: o5 :: o6 :: o7 :: o8 :: o9 :: some (.ol l) :: ρ) Q = Q (.lst (frzL l)) (o0 :: o1 :: o2 :: o3 :: o4 :: o5 :: o6 :: o7 :: o8 :: o9 :: some (.d (.lst (frzL l))) :: ρ) := rfl
theorem ok_g10 {o0 o1 o2 o3 o4 o5 o6 o7 o8 o9 : Option Sl} {c : Str} {l : List (Str × Sl)} {ρ : Env} {Q : D → Env → Prop} : Ok (mVar 10) (o0 :: o1 :: o2 :: o3 :: o4 :: o5 :: o6 :: o7 :: o8 :: o9 :: some (.oi c l) :: ρ) Q = Q (.ins c (frzF l)) (o0 :: o1 :: o2 :: o3 :: o4 :: o5 :: o6 :: o7 :: o8 :: o9 :: some (.d (.ins c (frzF l))) :: ρ) := rfl
theorem ok_f11 {o0 o1 o2 o3 o4 o5 o6 o7 o8 o9 o10 : Option Sl} {l : List Sl} {ρ : Env} {Q : D → Env → Prop} : Ok (mVar 11) (o0 :: o1 :: o2 :: o3 :: o4 :: o5 :: o6 :: o7 :: o8 :: o9 :: o10 :: some (.ol l) :: ρ) Q = Q (.lst (frzL l)) (o0 :: o1 :: o2 :: o3 :: o4 :: o5 :: o6 :: o7 :: o8 :: o9 :: o10 :: some (.d (.lst (frzL l))) :: ρ) := rfl
theorem ok_g11 {o0 o1 o2 o3 o4 o5 o6 o7 o8 o9 o10 : Option Sl} {c : Str} {l : List (Str × Sl)} {ρ : Env} {Q : D → Env → Prop} : Ok (mVar 11) (o0 :: o1 :: o2 :: o3 :: o4 :: o5 :: o6 :: o7 :: o8 :: o9 :: o10 :: some (.oi c l) :: ρ) Q = Q (.ins c (frzF l)) (o0 :: o1 :: o2 :: o3 :: o4 :: o5 :: o6 :: o7 :: o8 :: o9 :: o10 :: some (.d (.ins c (frzF l))) :: ρ) := rfl
theorem ok_jsNil {acc : Str} {ρ : Env} {Q : D → Env → Prop} : Ok (mJs [] acc) ρ Q = Q (.str acc) ρ := rfl
theorem ok_jsCons {g : M D} {r : List (M D)} {acc : Str} {ρ : Env} {Q : D → Env → Prop} : Ok (mJs (g :: r) acc) ρ Q = Ok g ρ fun d ρ1 => ∃ y, d = .str y ∧ (acc ++ y).length ≤ 16777216 ∧ Ok (mJs r (acc ++ y)) ρ1 Q := by
  show Ok (M.bind g fun d => match d with
    | .str y => if lineOk (acc ++ y).length then mJs r (acc ++ y) else fun _ => .fail
    | _ => fun _ => .fail) ρ Q = _
  rw [ok_bind]
  congr 1
  funext d ρ1
  cases d with
  | str y =>
    by_cases h : (acc ++ y).length ≤ 16777216
    · have z : lineOk (acc ++ y).length = true := decide_eq_true h
      simp [z, h]
    · have z : lineOk (acc ++ y).length = false := decide_eq_false h
      simp only [z, Bool.false_eq_true, if_false, D.str.injEq, exists_eq_left']
      simp [Ok, h]
  | _ => simp [Ok]
theorem seq_tup {l : List D} : seqItems (.tup l) = some l := rfl
theorem seq_lst {l : List D} : seqItems (.lst l) = some l := rfl
local macro_rules
  | `(tactic| bv_omega) => `(tactic| try simp only [okS_seq, ok_jsNil, ok_jsCons, seq_tup, seq_lst, ok_f0, ok_g0, ok_f1, ok_g1, ok_f2, ok_g2, ok_f3, ok_g3, ok_f4, ok_g4, ok_f5, ok_g5, ok_f6, ok_g6, ok_f7, ok_g7, ok_f8, ok_g8, ok_f9, ok_g9, ok_f10, ok_g10, ok_f11, ok_g11, okS_attr, okS_asg, okS_ret, okS_drop, okS_sIf, okS_next, okS_for, okS_tgt, okS_fail, okS_retN, ok_C, ok_op2, ok_op1, ok_opN, ok_opNO, ok_nil, ok_cons, ok_OD, ok_Fz, ok_test, ok_B, ok_and, ok_or, ok_not, ok_mIf, ok_lst, ok_tup, ok_callE, ok_items, ok_itemsN, ok_mt1, ok_chain, ok_sl, ok_noPart, ok_part, ok_star, ok_isiT, ok_truB, ok_v0, ok_v1, ok_v2, ok_v3, ok_v4, ok_v5, ok_v6, ok_v7, ok_v8, ok_v9, ok_v10, ok_m0, ok_m1, ok_m2, ok_m3, ok_m4, ok_m5, ok_m6, ok_m7, ok_m8, ok_m9, ok_m10, gt_ii, ge_ii, lt_ii, le_ii, add_ii, sub_ii, asB_b, int_i, isi_str_str, isi_int_str, isi_int_int, isi_int_bool, ix2_0, ix2_1, ofStr_inj, String.reduceEq, or_false, false_or, or_true, true_or, decide_true, decide_false, isiT_lst, isiT_tup, asI_i, sl_lst, tuple_lst, tuple_tup, isNon_non, isNotNon_non, isNotNon_int, isNon_int, isNon_str, isNotNon_str, eqD_int, neD_int, in_char, notIn_char, items_str, items_lst, items_tup, enum_lst, enum_tup, len_lst', len_tup, frz_d, frz_ol, putBack_nil, putBack_0, exists_eq_left', Option.some.injEq, D.int.injEq, D.str.injEq, decide_eq_true_eq, List.length_cons, List.length_nil, List.set, List.cons_append, List.nil_append, List.append_nil, List.replicate, List.map_cons, List.map_nil, List.take, keepIO, Nat.zero_add, Nat.reduceAdd, Nat.reduceLT, Nat.reduceLeDiff, Nat.reduceEqDiff, true_and, and_true, if_true, if_false, Bool.not_true, Bool.not_false, Bool.false_eq_true, List.mem_cons, List.not_mem_nil])
end DL

end
section
set_option Elab.async false
set_option linter.all false
set_option autoImplicit false
set_option maxRecDepth 100000
set_option maxHeartbeats 4000000
/-! Plain rules: methods, makers, tests handed on, texts compared. -/
namespace DL
open PySem PySem.Spec L2 NdefX
open TL (tl)
section
variable {α β : Type} {ρ : Env} {N N' : Env → Prop} {R R' : Sl → Env → Prop}
theorem ok_methIO {c m : Str} {n : Nat} {f : M Sl} {ios : List (Nat × Nat)} {i : Nat} {gs : M (List Sl)} {Q : Sl → Env → Prop} {t : Sl} (h : ρ[i]? = some (some t)) (h2 : isIns c m t = true) :
    Ok (mMethIO c m n f ios i gs) ρ Q = Ok (mCall n f ((0, i) :: shift ios) (mCons (mMove i) gs)) ρ Q := by
  unfold Ok mMethIO
  rw [h]
  simp only [h2, if_true]
theorem ok_methD {c m : Str} {n : Nat} {f : M Sl} {ios : List (Nat × Nat)} {go : M D} {gs : M (List Sl)} {Q : Sl → Env → Prop} :
    Ok (mMethD c m n f ios go gs) ρ Q = Ok go ρ fun d ρ1 => isIns c m (.d d) = true ∧ Ok (mCall n f (shift ios) (mCons (M.pure (.d d)) gs)) ρ1 Q := by
  unfold mMethD
  rw [ok_bind]
  congr 1
  funext d ρ1
  by_cases h : isIns c m (.d d) = true
  · rw [if_pos h]; simp [h]
  · rw [if_neg h]; simp [h, Ok]
theorem ok_makeE {c : Str} {n : Nat} {f : M Sl} {ios : List (Nat × Nat)} {gs : M (List Sl)} {Q : Sl → Env → Prop} :
    Ok (mMake c n f ios gs) ρ Q = Ok gs ρ fun ss ρ1 => ss.length + 1 = n ∧ Ok f (some (.oi c []) :: ss.map some) fun s ρf => s = .d .non ∧ ∃ t, ρf[0]? = some (some t) ∧ Q t (putBack (shift ios) ρf ρ1) := by
  unfold mMake
  rw [ok_bind]
  congr 1
  funext ss ρ1
  by_cases h : ss.length + 1 = n
  · unfold Ok
    dsimp only
    rw [if_pos h]
    rcases q : f (some (.oi c []) :: ss.map some) with ⟨a, ρf⟩ | _ | _
    · cases a with
      | d d => cases d with
        | non =>
          rcases q2 : ρf[0]? with _ | _ | t
          · simp [h, q2]
          · simp [h, q2]
          · simp [h, q2]
        | _ => simp [h]
      | _ => simp [h]
    · simp [h]
    · simp [h]
  · unfold Ok
    dsimp only
    rw [if_neg h]
    simp [h]
theorem ok_askM {c m : Str} {mt : (D → Option Bool) → M Sl} {i : Nat} {js : List Nat} {φ : List (Option D) → D → Option Bool} {Q : Sl → Env → Prop} {t : Sl} (h : ρ[i]? = some (some t)) (h2 : isIns c m t = true)
    (h3 : Ok (mt (φ (js.map fun j => capD ρ[j]?))) [some t, none] fun r ρf => Q r (putBack [(0, i)] ρf (ρ.set i none))) : Ok (mAskM c m mt i js φ) ρ Q := by
  obtain ⟨r, ρf, e, q⟩ := h3.get
  unfold Ok mAskM
  rw [h]
  simp only [h2, if_true, e]
  exact q
theorem phiOf_eq {m : Nat} {g : M D} {caps : List (Option D)} {d : D} {b : Bool} (h : Ok g (lamEnv0 m d caps) fun r _ => r = .bl b) : phiOf m g caps d = some b := by
  obtain ⟨r, ρ', e, rfl⟩ := h.get
  unfold phiOf; rw [e]
theorem phiFn_eq {g : M Sl} {d : D} {b : Bool} {ρ' : Env} (h : g [some (.d d)] = .ok (.d (.bl b)) ρ') : phiFn g d = some b := by
  unfold phiFn; rw [h]
theorem ok_ask {φ : D → Option Bool} {ga : M D} {Q : D → Env → Prop} : Ok (mAsk φ ga) ρ Q = Ok ga ρ fun d ρ1 => ∃ z, (φ d).map D.bl = some z ∧ Q z ρ1 := by
  unfold mAsk; simp only [ok_bind, ok_of]
theorem ok_appIxV {i j : Nat} {g : M D} {Q : Sl → Env → Prop} {l0 : List Sl} (h : ρ[i]? = some (some (.ol l0)))
    (hg : Ok g ρ fun d ρ1 => ∃ k l m x, d = .int k ∧ ρ1[i]? = some (some (.ol l)) ∧ ρ1[j]? = some (some (.d x)) ∧ 0 ≤ k ∧ k < (l.length : Int) ∧ l[k.toNat]? = some (.ol m) ∧ m.length + 1 ≤ 16777216 ∧ Q (.d .non) (ρ1.set i (some (.ol (l.set k.toNat (.ol (m ++ [.d x]))))))) :
    Ok (mAppIxV i g j) ρ Q := by
  have c : isOl i ρ = true := by unfold isOl; rw [h]
  obtain ⟨d, ρ1, e, k, l, m, x, rfl, e2, e3, h0, h1, e4, h2, q⟩ := hg.get
  have z : lineOk (m.length + 1) = true := decide_eq_true h2
  unfold Ok mAppIxV guard M.bind
  simp only [c, if_true, e, e2, e3, e4, z]
  rw [if_pos ⟨h0, h1⟩]
  exact q
theorem ok_consL {i : Nat} {g : M (List Sl)} {Q : List Sl → Env → Prop} {s : Sl} (h : ρ[i]? = some (some s)) (hg : Ok g ρ fun ss ρ1 => ∃ t, ρ1[i]? = some (some t) ∧ Q (t :: ss) (ρ1.set i none)) : Ok (mConsL i g) ρ Q := by
  obtain ⟨ss, ρ1, e, t, e2, q⟩ := hg.get
  unfold Ok mConsL M.bind
  simp only [h, e, e2]
  exact q
theorem ok_neOwn {c : Str} {g : M Sl} {ga gb : M D} {Q : D → Env → Prop} (h : Ok ga ρ fun x ρ1 => Ok gb ρ1 fun y ρ2 => isInsD c x = true ∧ isInsD c y = true ∧ ∃ t ρf z, g [some (.d x), some (.d y)] = .ok t ρf ∧ notB t = some z ∧ Q z ρ2) : Ok (mNeOwn c g ga gb) ρ Q := by
  unfold mNeOwn
  rw [ok_bind]
  refine h.imp fun x ρ1 h => ?_
  rw [ok_bind]
  refine h.imp fun y ρ2 ⟨h1, h2, t, ρf, z, e, e2, q⟩ => ?_
  rw [if_pos ⟨h1, h2⟩]
  unfold Ok
  simp only [e, e2]
  exact q
theorem ok_varF {i : Nat} {Q : D → Env → Prop} {s : Sl} (h : ρ[i]? = some (some s)) : Ok (mVar i) ρ Q = Q (frz s) (ρ.set i (some (.d (frz s)))) := by
  unfold Ok mVar
  rw [h]
  cases s with
  | d x =>
    show Q x ρ = Q (frz (.d x)) (ρ.set i (some (.d (frz (.d x)))))
    have e : ρ.set i (some (.d (frz (.d x)))) = ρ := set_get (by rw [h]; rfl)
    rw [e]; rfl
  | _ => rfl
def attrAddP (cs : List Str) (f : Str) (i : Nat) (b : Int) (ρ : Env) (N : Env → Prop) (R : Sl → Env → Prop) : Prop := OkS (DL.sAttrAdd cs f i (mC (.int b))) ρ N R
theorem okS_attrAddC {cs : List Str} {f : Str} {i : Nat} {b : Int} : OkS (DL.sAttrAdd cs f i (mC (.int b))) ρ N R = attrAddP cs f i b ρ N R := rfl
end
def SOk (x : Str) : Prop := ∀ c ∈ tl x, c < 0x110000
theorem shaped_str {x : Str} (h : SOk x) : SeqAt.shaped (.str x) = true := by
  obtain ⟨p, e, a, b⟩ := Cmp.str (n := 0) h
  cases e
  exact Cmp.shaped a (by omega)
theorem eqB_str {a b : Str} (ha : SOk a) (hb : SOk b) : eqB (.str a) (.str b) = some (decide (a = b)) := by
  unfold eqB
  simp only [toPy, shaped_str ha, shaped_str hb, Bool.and_self, if_true, PyData.eqv]
  by_cases h : a = b
  · subst h; simp
  · simp [h]
theorem eqD_str {a b : Str} (ha : SOk a) (hb : SOk b) : eqD (.str a) (.str b) = some (.bl (decide (a = b))) := by
  unfold eqD; rw [eqB_str ha hb]; rfl
theorem neD_str {a b : Str} (ha : SOk a) (hb : SOk b) : neD (.str a) (.str b) = some (.bl (!decide (a = b))) := by
  unfold neD; rw [eqB_str ha hb]; rfl
/-- only signs that are seen -/
def Vis (x : Str) : Prop := ∀ c ∈ tl x, 33 ≤ c ∧ c < 127
theorem Vis.sok {x : Str} (h : Vis x) : SOk x := fun c hc => by have := h c hc; omega
theorem vis_of {x : Str} (h : (tl x).all (fun c => decide (33 ≤ c) && decide (c < 127)) = true) : Vis x := fun c hc => by
  have := List.all_eq_true.mp h c hc
  simpa using this
theorem vis_num (n : Nat) : Vis (Str.ofString (toString ((n : Nat) : Int))) := fun c hc => by
  rw [TL.tl_num] at hc
  have := TL.numL_digits n c hc
  omega
theorem mem_join {y : Str} {c : Nat} : ∀ {l : List Str}, c ∈ tl (Str.join y l) → c ∈ tl y ∨ ∃ x ∈ l, c ∈ tl x
  | [], h => by simp [Str.join, Str.empty, tl] at h
  | [x], h => .inr ⟨x, by simp, h⟩
  | x :: z :: r, h => by
    have h : c ∈ tl (x ++ y ++ Str.join y (z :: r)) := h
    rw [TL.tl_append, TL.tl_append, List.mem_append, List.mem_append] at h
    rcases h with (h | h) | h
    · exact .inr ⟨x, by simp, h⟩
    · exact .inl h
    · rcases mem_join (l := z :: r) h with h | ⟨w, hw, h⟩
      · exact .inl h
      · exact .inr ⟨w, List.mem_cons_of_mem _ hw, h⟩
/-- a line of words, split -/
theorem split_words {l : List Str} (hne : l ≠ []) (h : ∀ x ∈ l, Vis x) : Txt.split (Str.join (Str.ofString " ") l) (Str.ofString " ") = l := by
  rw [← TL.join_eq]
  refine TL.split_join (s := 32) (S := []) (by decide +kernel) (by decide +kernel) hne fun p hp z => ?_
  have := h p hp 32 z
  omega
theorem split_lines {l : List Str} (hne : l ≠ []) (h : ∀ x ∈ l, 10 ∉ tl x) : Txt.split (Str.join (Str.ofString "\n") l) (Str.ofString "\n") = l := by
  rw [← TL.join_eq]
  exact TL.split_join (s := 10) (S := []) (by decide +kernel) (by decide +kernel) hne h
end DL

end
section
set_option Elab.async false
set_option linter.all false
set_option autoImplicit false
set_option maxRecDepth 100000
set_option maxHeartbeats 4000000
namespace G72
open PySem PySem.Spec L2 NdefX DL
def b__law_pen_ : SM := (sRet (mDisp [.inr (PySem.Str.ofString "cells"), .inr (PySem.Str.ofString "at"), .inr (PySem.Str.ofString "rest")] (mAllD [(mFz (mOpNO listO (mCons (mSl slD (mVar 0) mNoPart (mPart (mC (.int 63)))) mNil))), (mC (.int 0)), (mC (.int 0))])))
def m__law_pen : M Sl := runF 1 0 [] b__law_pen_

def b__law_draw_ : SM := (sSeq (sIf (mTest (mOp2 gtD (mDGetV 0 (mC (.str (PySem.Str.ofString "rest")))) (mC (.int 0)))) (sSeq (sAsg 2 (mOD (mOp2 modD (mOpN intD (mCons (mDGetV 0 (mC (.str (PySem.Str.ofString "rest")))) mNil)) (mVar 1)))) (sSeq (sDPut 0 (.inr (PySem.Str.ofString "rest")) (mOD (mOp2 fdivD (mDGetV 0 (mC (.str (PySem.Str.ofString "rest")))) (mVar 1)))) (sRet (mOD (mVar 2))))) sNext) (sSeq (sAsg 3 (mOD (mDGetV 0 (mC (.str (PySem.Str.ofString "at")))))) (sSeq (sDPut 0 (.inr (PySem.Str.ofString "at")) (mOD (mOp2 addD (mVar 3) (mC (.int 1))))) (sSeq (sAsg 4 (mOD (mOp2 addD (mOp2 mulD (mC (.int 67)) (mVar 3)) (mC (.int 41))))) (sSeq (sIf (mTest (mOp2 neD (mDGetV 0 (mC (.str (PySem.Str.ofString "cells")))) (mFz (mLst mNil)))) (sAsg 4 (mOD (mOp2 ixD (mDGetV 0 (mC (.str (PySem.Str.ofString "cells")))) (mOp2 modD (mOpN intD (mCons (mVar 3) mNil)) (mOpN lenD (mCons (mDGetV 0 (mC (.str (PySem.Str.ofString "cells")))) mNil)))))) sNext) (sSeq (sIf (mAnd (mTest (mOp2 ltD (mVar 3) (mOpN lenD (mCons (mDGetV 0 (mC (.str (PySem.Str.ofString "cells")))) mNil)))) (mTest (mOp2 geD (mOpN absD (mCons (mVar 4) mNil)) (mOp2 powD (mC (.int 10)) (mC (.int 18)))))) (sSeq (sDPut 0 (.inr (PySem.Str.ofString "rest")) (mOD (mOp2 fdivD (mOp2 subD (mOpN absD (mCons (mVar 4) mNil)) (mOp2 powD (mC (.int 10)) (mC (.int 18)))) (mVar 1)))) (sRet (mOD (mOp2 modD (mOpN intD (mCons (mOp2 subD (mOpN absD (mCons (mVar 4) mNil)) (mOp2 powD (mC (.int 10)) (mC (.int 18)))) mNil)) (mVar 1))))) sNext) (sSeq (sAsg 5 (mOD (mOp2 addD (mOp2 mulD (mOp2 modD (mOpN intD (mCons (mVar 4) mNil)) (mC (.int 4294967161))) (mC (.int 48109))) (mOp2 mulD (mOp2 mulD (mC (.int 15017)) (mVar 3)) (mVar 3))))) (sSeq (sAsg 5 (mOD (mOp2 modD (mOpN intD (mCons (mOp2 addD (mOp2 addD (mVar 5) (mOp2 mulD (mC (.int 887)) (mVar 3))) (mC (.int 7))) mNil)) (mC (.int 4294967143))))) (sSeq (sAsg 5 (mOD (mOp2 modD (mOpN intD (mCons (mOp2 addD (mOp2 addD (mOp2 addD (mOp2 mulD (mVar 5) (mVar 5)) (mOp2 mulD (mC (.int 30000259)) (mVar 5))) (mOp2 mulD (mC (.int 19)) (mVar 3))) (mC (.int 3))) mNil)) (mC (.int 4294967111))))) (sRet (mOD (mOp2 modD (mOpN intD (mCons (mOp2 fdivD (mOp2 modD (mOpN intD (mCons (mOp2 mulD (mVar 5) (mOp2 addD (mVar 5) (mC (.int 52721)))) mNil)) (mC (.int 4294967087))) (mC (.int 128))) mNil)) (mVar 1)))))))))))))
def m__law_draw : M Sl := runF 2 4 [0] b__law_draw_

def b__law_pick_ : SM := (sRet (mOD (mOp2 ixD (mVar 1) (mFz (mCall 2 m__law_draw [(0, 0)] (mCons (mMove 0) (mCons (mOD (mOpN lenD (mCons (mVar 1) mNil))) mNil)))))))
def m__law_pick : M Sl := runF 2 0 [0] b__law_pick_

def b__law_shuffled_ : SM := (sSeq (sPar 2 3 (mCons (mOpNO listO (mCons (mVar 1) mNil)) (mCons (mLst mNil) mNil))) (sSeq (whileN (mPeekT (mTest (mOp2 neD (mVar 2) (mFz (mLst mNil))))) (sDrop (mApp 3 (mPopAt 2 (mFz (mCall 2 m__law_draw [(0, 0)] (mCons (mMove 0) (mCons (mOD (mPeek (mOpN lenD (mCons (mVar 2) mNil)))) mNil))))))) fuel) (sRet (mMove 3))))
def m__law_shuffled : M Sl := runF 2 2 [0] b__law_shuffled_

def b__law_words_ : SM := (sSeq (sAsg 3 (mOD (mC (.str (PySem.Str.ofString "abcdefghijklmnopqrstuvwxyz"))))) (sSeq (sAsg 4 (mOD (mMt1 joinD (mC (.str (PySem.Str.ofString ""))) (mFz (mLc [5] (mItemsN rng1 (mCons (mFz (mCall 2 m__law_draw [(0, 0)] (mCons (mMove 0) (mCons (mOD (mVar 2)) mNil)))) mNil)) (tgName 5) (M.pure true) (mCall 2 m__law_pick [(0, 0)] (mCons (mMove 0) (mCons (mOD (mVar 3)) mNil)))))))) (sSeq (sPar 6 7 (mCons (mCall 2 m__law_draw [(0, 0)] (mCons (mMove 0) (mCons (mOD (mOp2 addD (mOpN lenD (mCons (mVar 4) mNil)) (mC (.int 1)))) mNil))) (mCons (mCall 2 m__law_draw [(0, 0)] (mCons (mMove 0) (mCons (mOD (mC (.int 26))) mNil))) mNil))) (sSeq (sAsg 8 (mCall 2 m__law_pick [(0, 0)] (mCons (mMove 0) (mCons (mLst (mCons (mOD (mC (.int 1))) (mCons (mOD (mC (.int 3))) (mCons (mOD (mC (.int 5))) (mCons (mOD (mC (.int 7))) (mCons (mOD (mC (.int 9))) (mCons (mOD (mC (.int 11))) mNil))))))) mNil)))) (sSeq (sAsg 9 (mLst mNil)) (sSeq (sForI (mItemsN rng1 (mCons (mVar 1) mNil)) (tgName 5) (sSeq (sAsg 10 (mOD (mOp2 ixD (mVar 3) (mOp2 modD (mOpN intD (mCons (mOp2 addD (mVar 7) (mOp2 mulD (mVar 8) (mVar 5))) mNil)) (mC (.int 26)))))) (sDrop (mApp 9 (mOD (mOp2 addD (mOp2 addD (mSl slD (mVar 4) mNoPart (mPart (mVar 6))) (mVar 10)) (mSl slD (mVar 4) (mPart (mVar 6)) mNoPart))))))) (sRet (mCall 2 m__law_shuffled [(0, 0)] (mCons (mMove 0) (mCons (mOD (mVar 9)) mNil))))))))))
def m__law_words : M Sl := runF 3 8 [0] b__law_words_

def b__law_controls_ : SM := (sSeq (sAsg 5 (mLc [6] (mItemsN rng1 (mCons (mVar 1) mNil)) (tgName 6) (M.pure true) (mCall 2 m__law_pick [(0, 0)] (mCons (mMove 0) (mCons (mLst (mCons (mOD (mC (.str (PySem.Str.ofString "wait")))) (mCons (mOD (mC (.str (PySem.Str.ofString "do")))) (mCons (mOD (mC (.str (PySem.Str.ofString "do")))) (mCons (mOD (mC (.str (PySem.Str.ofString "look")))) mNil))))) mNil))))) (sSeq (sIxSet 5 (mC (.str (PySem.Str.ofString "wait"))) (mFz (mCall 2 m__law_draw [(0, 0)] (mCons (mMove 0) (mCons (mOD (mVar 1)) mNil))))) (sSeq (sAsg 7 (mLst mNil)) (sSeq (sForI (mItemsN enumS (mCons (mVar 5) mNil)) (tgTup 2 (tgsCons (tgName 8) (tgsCons (tgName 9) tgsNil))) (sIf (mTest (mOp2 eqD (mVar 9) (mC (.str (PySem.Str.ofString "wait"))))) (sSeq (sAsg 10 (mOD (mIf (mTest (mOp2 eqD (mFz (mCall 2 m__law_draw [(0, 0)] (mCons (mMove 0) (mCons (mOD (mC (.int 3))) mNil)))) (mC (.int 0)))) (mC .non) (mFz (mCall 2 m__law_pick [(0, 0)] (mCons (mMove 0) (mCons (mOD (mVar 4)) mNil))))))) (sDrop (mApp 7 (mOD (mTup (mCons (mC (.str (PySem.Str.ofString "wait"))) (mCons (mVar 10) (mCons (mOpN tupleD (mCons (mFz (mLc [11] (mItems itemsS (mVar 3)) (tgName 11) (M.pure true) (mCall 2 m__law_draw [(0, 0)] (mCons (mMove 0) (mCons (mOD (mVar 1)) mNil))))) mNil)) mNil)))))))) (sIf (mTest (mOp2 eqD (mVar 9) (mC (.str (PySem.Str.ofString "do"))))) (sDrop (mApp 7 (mOD (mTup (mCons (mC (.str (PySem.Str.ofString "do"))) (mCons (mFz (mCall 2 m__law_pick [(0, 0)] (mCons (mMove 0) (mCons (mOD (mVar 2)) mNil)))) (mCons (mFz (mCall 2 m__law_draw [(0, 0)] (mCons (mMove 0) (mCons (mOD (mVar 1)) mNil)))) mNil))))))) (sSeq (sAsg 12 (mLc [6] (mItemsN rng1 (mCons (mVar 1) mNil)) (tgName 6) (mOr (mPeekT (mTest (mOp2 neD (mOp2 ixD (mVar 5) (mVar 6)) (mC (.str (PySem.Str.ofString "look")))))) (mTest (mOp2 gtD (mVar 6) (mVar 8)))) (mOD (mVar 6)))) (sSeq (sAsg 13 (mLst mNil)) (sSeq (sForI (mItems itemsS (mSl slD (mFz (mCall 2 m__law_shuffled [(0, 0)] (mCons (mMove 0) (mCons (mOD (mVar 4)) mNil)))) mNoPart (mPart (mFz (mCall 2 m__law_draw [(0, 0)] (mCons (mMove 0) (mCons (mOD (mOp2 addD (mOpN lenD (mCons (mVar 4) mNil)) (mC (.int 1)))) mNil))))))) (tgName 14) (sDrop (mApp 13 (mOD (mTup (mCons (mVar 14) (mCons (mFz (mCall 2 m__law_pick [(0, 0)] (mCons (mMove 0) (mCons (mOD (mVar 12)) mNil)))) mNil))))))) (sDrop (mApp 7 (mOD (mTup (mCons (mC (.str (PySem.Str.ofString "look"))) (mCons (mOpN tupleD (mCons (mVar 13) mNil)) (mCons (mFz (mCall 2 m__law_pick [(0, 0)] (mCons (mMove 0) (mCons (mOD (mVar 12)) mNil)))) mNil))))))))))))) (sRet (mMove 7))))))
def m__law_controls : M Sl := runF 5 10 [0] b__law_controls_

def b__law_said_ : SM := (sRet (mLc [2] (mItems itemsS (mFz (mCall 3 m__law_words [(0, 0)] (mCons (mMove 0) (mCons (mOD (mVar 1)) (mCons (mOD (mC (.int 8))) mNil)))))) (tgName 2) (M.pure true) (mOD (mOp2 addD (mVar 2) (mFz (mCall 2 m__law_pick [(0, 0)] (mCons (mMove 0) (mCons (mOD (mC (.str (PySem.Str.ofString "0123456789")))) mNil))))))))
def m__law_said : M Sl := runF 2 1 [0] b__law_said_

def b_is_word_ : SM := (sSeq (sIf (mOr (mNot (mTest (mOpN (isiD []) (mCons (mVar 0) (mCons (mC (.ty "str")) mNil))))) (mNot (mTest (mChain leD leD (mC (.int 1)) (mOpN lenD (mCons (mVar 0) mNil)) (mC (.int 8)))))) (sRet (mOD (mC (.bl false)))) sNext) (sRet (mOD (mOpN allD (mCons (mFz (mLc [1] (mItems itemsS (mVar 0)) (tgName 1) (M.pure true) (mOD (mOp2 inD (mVar 1) (mC (.str (PySem.Str.ofString "abcdefghijklmnopqrstuvwxyz"))))))) mNil)))))
def m_is_word : M Sl := runF 1 1 [] b_is_word_

def b_wrong_word_ : SM := (sSeq (sForI (mItemsN enumS (mCons (mVar 0) mNil)) (tgTup 2 (tgsCons (tgName 1) (tgsCons (tgName 2) tgsNil))) (sIf (mOr (mNot (mTest (mFz (mCall 1 m_is_word [] (mCons (mOD (mVar 2)) mNil))))) (mTest (mOp2 inD (mVar 2) (mSl slD (mVar 0) mNoPart (mPart (mVar 1)))))) (sRet (mOD (mVar 1))) sNext)) (sRet (mOD (mIf (mTest (mOp2 gtD (mOpN lenD (mCons (mVar 0) mNil)) (mC (.int 0)))) (mC .non) (mC (.int 0))))))
def m_wrong_word : M Sl := runF 1 2 [] b_wrong_word_

def b_check_letters_ : SM := (sSeq (sAsg 1 (mCall 1 m_wrong_word [] (mCons (mOD (mVar 0)) mNil))) (sSeq (sIf (mTest (mOp2 isNotNonD (mVar 1) (mC .non))) sFail sNext) (sIf (mTest (mOp2 gtD (mOpN lenD (mCons (mVar 0) mNil)) (mC (.int 3)))) sFail sNext)))
def m_check_letters : M Sl := runF 1 1 [] b_check_letters_

def b_check_outer_ : SM := (sSeq (sAsg 1 (mCall 1 m_wrong_word [] (mCons (mOD (mVar 0)) mNil))) (sSeq (sIf (mTest (mOp2 isNotNonD (mVar 1) (mC .non))) sFail sNext) (sIf (mTest (mOp2 gtD (mOpN lenD (mCons (mVar 0) mNil)) (mC (.int 3)))) sFail sNext)))
def m_check_outer : M Sl := runF 1 1 [] b_check_outer_

def b_targets_ : SM := (sSeq (sTgt (mVar 0) (tgTup 3 (tgsCons (tgName 1) (tgsCons (tgName 2) (tgsCons (tgName 3) tgsNil))))) (sSeq (sIf (mTest (mOp2 eqD (mVar 1) (mC (.str (PySem.Str.ofString "wait"))))) (sRet (mOpNO listO (mCons (mVar 3) mNil))) sNext) (sSeq (sIf (mTest (mOp2 eqD (mVar 1) (mC (.str (PySem.Str.ofString "do"))))) (sRet (mLst (mCons (mOD (mVar 3)) mNil))) sNext) (sRet (mOD (mOp2 addD (mFz (mLc [4, 5] (mItems itemsS (mVar 2)) (tgTup 2 (tgsCons (tgName 4) (tgsCons (tgName 5) tgsNil))) (M.pure true) (mOD (mVar 5)))) (mFz (mLst (mCons (mOD (mVar 3)) mNil)))))))))
def m_targets : M Sl := runF 1 5 [] b_targets_

def b_on_ring_ : SM := (sSeq (sPar 2 3 (mCons (mLst (mCons (mOD (mVar 1)) mNil)) (mCons (mLst mNil) mNil))) (sSeq (whileN (mPeekT (mTruB truD (mVar 2))) (sSeq (sAsg 4 (mOD (mOp2 ixD (mVar 0) (mFz (mPop 2))))) (sIf (mTest (mOp2 eqD (mOp2 ixD (mVar 4) (mC (.int 0))) (mC (.str (PySem.Str.ofString "look"))))) (sSeq (sIf (mTest (mOp2 inD (mVar 1) (mFz (mCall 1 m_targets [] (mCons (mOD (mVar 4)) mNil))))) (sRet (mOD (mC (.bl true)))) sNext) (sSeq (sAsg 5 (mLc [6] (mItems itemsS (mFz (mCall 1 m_targets [] (mCons (mOD (mVar 4)) mNil)))) (tgName 6) (mPeekT (mTest (mOp2 notInD (mVar 6) (mVar 3)))) (mOD (mVar 6)))) (sSeq (sDrop (mExt 3 (mOD (mVar 5)))) (sDrop (mExt 2 (mOD (mVar 5))))))) sNext)) fuel) (sRet (mOD (mC (.bl false))))))
def m_on_ring : M Sl := runF 2 5 [] b_on_ring_

def b_is_row_ : SM := (sRet (mOD (mB (mAnd (mTest (mIsiT ["tuple", "list"] (mVar 0))) (mTest (mOp2 eqD (mOpN lenD (mCons (mVar 0) mNil)) (mVar 1)))))))
def m_is_row : M Sl := runF 2 0 [] b_is_row_

def b_is_answer_ : SM := (sSeq (sIf (mOr (mNot (mTest (mOpN (isiD []) (mCons (mVar 0) (mCons (mC (.ty "str")) mNil))))) (mOr (mNot (mTest (mChain leD leD (mC (.int 1)) (mOpN lenD (mCons (mVar 0) mNil)) (mC (.int 12))))) (mTest (mOp2 notInD (mOp2 ixD (mVar 0) (mC (.int 0))) (mC (.str (PySem.Str.ofString "abcdefghijklmnopqrstuvwxyz"))))))) (sRet (mOD (mC (.bl false)))) sNext) (sRet (mOD (mOpN allD (mCons (mFz (mLc [1] (mItems itemsS (mVar 0)) (tgName 1) (M.pure true) (mOD (mOp2 inD (mVar 1) (mC (.str (PySem.Str.ofString "abcdefghijklmnopqrstuvwxyz0123456789"))))))) mNil)))))
def m_is_answer : M Sl := runF 1 1 [] b_is_answer_

def b_is_integer_ : SM := (sRet (mOD (mB (mAnd (mTest (mOpN (isiD []) (mCons (mVar 0) (mCons (mC (.ty "int")) mNil)))) (mTest (mB (mNot (mTest (mOpN (isiD []) (mCons (mVar 0) (mCons (mC (.ty "bool")) mNil)))))))))))
def m_is_integer : M Sl := runF 1 0 [] b_is_integer_

def b_is_number_checks_ : SM := (sRet (mOD (mB (mAnd (mTest (mFz (mCall 1 m_is_integer [] (mCons (mOD (mVar 0)) mNil)))) (mTest (mChain leD ltD (mC (.int 0)) (mVar 0) (mVar 1)))))))
def m_is_number_checks : M Sl := runF 2 0 [] b_is_number_checks_

def b_is_groups_ : SM := (sSeq (sIf (mOr (mNot (mTest (mIsiT ["tuple", "list"] (mVar 0)))) (mNot (mTest (mOpN allD (mCons (mFz (mLc [2] (mItems itemsS (mVar 0)) (tgName 2) (M.pure true) (mCall 2 m_is_row [] (mCons (mOD (mVar 2)) (mCons (mOD (mC (.int 2))) mNil))))) mNil))))) (sRet (mOD (mC (.bl false)))) sNext) (sSeq (sIf (mNot (mTest (mOpN allD (mCons (mFz (mLc [2] (mItems itemsS (mVar 0)) (tgName 2) (M.pure true) (mOD (mB (mAnd (mTest (mFz (mCall 1 m_is_answer [] (mCons (mOD (mOp2 ixD (mVar 2) (mC (.int 0)))) mNil)))) (mTest (mFz (mCall 2 m_is_number_checks [] (mCons (mOD (mOp2 ixD (mVar 2) (mC (.int 1)))) (mCons (mOD (mVar 1)) mNil)))))))))) mNil)))) (sRet (mOD (mC (.bl false)))) sNext) (sRet (mOD (mOp2 eqD (mOp1 lenSetD (mFz (mLc [2] (mItems itemsS (mVar 0)) (tgName 2) (M.pure true) (mOD (mOp2 ixD (mVar 2) (mC (.int 0))))))) (mOpN lenD (mCons (mVar 0) mNil)))))))
def m_is_groups : M Sl := runF 2 1 [] b_is_groups_

def b_is_control_ : SM := (sSeq (sIf (mOr (mNot (mTest (mFz (mCall 2 m_is_row [] (mCons (mOD (mVar 0)) (mCons (mOD (mC (.int 3))) mNil)))))) (mNot (mTest (mOpN (isiD []) (mCons (mOp2 ixD (mVar 0) (mC (.int 0))) (mCons (mC (.ty "str")) mNil)))))) (sRet (mOD (mC (.bl false)))) sNext) (sSeq (sTgt (mVar 0) (tgTup 3 (tgsCons (tgName 4) (tgsCons (tgName 5) (tgsCons (tgName 6) tgsNil))))) (sSeq (sIf (mTest (mOp2 eqD (mVar 4) (mC (.str (PySem.Str.ofString "wait"))))) (sSeq (sIf (mAnd (mTest (mOp2 isNotNonD (mVar 5) (mC .non))) (mNot (mTest (mFz (mCall 1 m_is_answer [] (mCons (mOD (mVar 5)) mNil)))))) (sRet (mOD (mC (.bl false)))) sNext) (sRet (mOD (mB (mAnd (mTest (mFz (mCall 2 m_is_row [] (mCons (mOD (mVar 6)) (mCons (mOD (mOpN lenD (mCons (mVar 2) mNil))) mNil))))) (mTest (mOpN allD (mCons (mFz (mLc [7] (mItems itemsS (mVar 6)) (tgName 7) (M.pure true) (mCall 2 m_is_number_checks [] (mCons (mOD (mVar 7)) (mCons (mOD (mVar 3)) mNil))))) mNil)))))))) sNext) (sSeq (sIf (mTest (mOp2 eqD (mVar 4) (mC (.str (PySem.Str.ofString "do"))))) (sRet (mOD (mB (mAnd (mTest (mOpN (isiD []) (mCons (mVar 5) (mCons (mC (.ty "str")) mNil)))) (mAnd (mTest (mOp2 inD (mVar 5) (mVar 1))) (mTest (mFz (mCall 2 m_is_number_checks [] (mCons (mOD (mVar 6)) (mCons (mOD (mVar 3)) mNil)))))))))) sNext) (sRet (mOD (mB (mAnd (mTest (mOp2 eqD (mVar 4) (mC (.str (PySem.Str.ofString "look"))))) (mAnd (mTest (mFz (mCall 2 m_is_groups [] (mCons (mOD (mVar 5)) (mCons (mOD (mVar 3)) mNil))))) (mTest (mFz (mCall 2 m_is_number_checks [] (mCons (mOD (mVar 6)) (mCons (mOD (mVar 3)) mNil))))))))))))))
def m_is_control : M Sl := runF 4 4 [] b_is_control_

def b_as_told_ : SM := (sSeq (sTgt (mVar 0) (tgTup 3 (tgsCons (tgName 1) (tgsCons (tgName 2) (tgsCons (tgName 3) tgsNil))))) (sSeq (sIf (mTest (mOp2 eqD (mVar 1) (mC (.str (PySem.Str.ofString "wait"))))) (sRet (mOD (mTup (mCons (mVar 1) (mCons (mVar 2) (mCons (mOpN tupleD (mCons (mVar 3) mNil)) mNil)))))) sNext) (sSeq (sIf (mTest (mOp2 eqD (mVar 1) (mC (.str (PySem.Str.ofString "do"))))) (sRet (mOD (mTup (mCons (mVar 1) (mCons (mVar 2) (mCons (mVar 3) mNil)))))) sNext) (sRet (mOD (mTup (mCons (mVar 1) (mCons (mOpN tupleD (mCons (mFz (mLc [4, 5] (mItems itemsS (mVar 2)) (tgTup 2 (tgsCons (tgName 4) (tgsCons (tgName 5) tgsNil))) (M.pure true) (mOD (mTup (mCons (mVar 4) (mCons (mVar 5) mNil)))))) mNil)) (mCons (mVar 3) mNil)))))))))
def m_as_told : M Sl := runF 1 5 [] b_as_told_

def b_Adapter_init_ : SM := (sSeq (sDrop (mCall 1 m_check_letters [] (mCons (mOD (mVar 1)) mNil))) (sSeq (sDrop (mCall 1 m_check_outer [] (mCons (mOD (mVar 2)) mNil))) (sSeq (sIf (mNot (mTest (mChain leD leD (mC (.int 1)) (mOpN lenD (mCons (mVar 3) mNil)) (mC (.int 24))))) sFail sNext) (sSeq (sForI (mItemsN enumS (mCons (mVar 3) mNil)) (tgTup 2 (tgsCons (tgName 4) (tgsCons (tgName 5) tgsNil))) (sIf (mNot (mTest (mFz (mCall 4 m_is_control [] (mCons (mOD (mVar 5)) (mCons (mOD (mVar 1)) (mCons (mOD (mVar 2)) (mCons (mOD (mOpN lenD (mCons (mVar 3) mNil))) mNil)))))))) sFail sNext)) (sSeq (sAttr [(PySem.Str.ofString "Adapter")] (PySem.Str.ofString "letters") 0 (mOD (mOpN tupleD (mCons (mVar 1) mNil)))) (sSeq (sAttr [(PySem.Str.ofString "Adapter")] (PySem.Str.ofString "outer") 0 (mOD (mOpN tupleD (mCons (mVar 2) mNil)))) (sSeq (sAttr [(PySem.Str.ofString "Adapter")] (PySem.Str.ofString "controls") 0 (mOD (mOpN tupleD (mCons (mFz (mLc [5] (mItems itemsS (mVar 3)) (tgName 5) (M.pure true) (mCall 1 m_as_told [] (mCons (mOD (mVar 5)) mNil)))) mNil)))) (sForI (mItemsN rng1 (mCons (mOpN lenD (mCons (mAttrV [(PySem.Str.ofString "Adapter")] (PySem.Str.ofString "controls") 0) mNil)) mNil)) (tgName 6) (sIf (mTest (mFz (mCall 2 m_on_ring [] (mCons (mOD (mAttrV [(PySem.Str.ofString "Adapter")] (PySem.Str.ofString "controls") 0)) (mCons (mOD (mVar 6)) mNil))))) sFail sNext)))))))))
def m_Adapter_init : M Sl := runF 4 3 [0] b_Adapter_init_

def b__law_adapter_text_ : SM := (sSeq (sAsg 3 (mLst (mCons (mOD (mOp2 addD (mC (.str (PySem.Str.ofString "letters "))) (mMt1 joinD (mC (.str (PySem.Str.ofString " "))) (mVar 0)))) (mCons (mOD (mOp2 addD (mC (.str (PySem.Str.ofString "outer "))) (mMt1 joinD (mC (.str (PySem.Str.ofString " "))) (mVar 1)))) (mCons (mOD (mOp2 addD (mC (.str (PySem.Str.ofString "controls "))) (mOpN strD (mCons (mOpN lenD (mCons (mVar 2) mNil)) mNil)))) mNil))))) (sSeq (sForI (mItems itemsS (mVar 2)) (tgName 4) (sSeq (sAsg 5 (mLst (mCons (mOD (mOp2 ixD (mVar 4) (mC (.int 0)))) mNil))) (sSeq (sIf (mTest (mOp2 eqD (mOp2 ixD (mVar 4) (mC (.int 0))) (mC (.str (PySem.Str.ofString "wait"))))) (sAsg 5 (mOp2O addO (mOp2 addD (mVar 5) (mFz (mLst (mCons (mOD (mIf (mTest (mOp2 isNonD (mOp2 ixD (mVar 4) (mC (.int 1))) (mC .non))) (mC (.str (PySem.Str.ofString "-"))) (mOp2 ixD (mVar 4) (mC (.int 1))))) mNil)))) (mFz (mLc [6] (mItems itemsS (mOp2 ixD (mVar 4) (mC (.int 2)))) (tgName 6) (M.pure true) (mOD (mOpN strD (mCons (mVar 6) mNil))))))) sNext) (sSeq (sIf (mTest (mOp2 eqD (mOp2 ixD (mVar 4) (mC (.int 0))) (mC (.str (PySem.Str.ofString "do"))))) (sAsg 5 (mOp2O addO (mVar 5) (mFz (mLst (mCons (mOD (mOp2 ixD (mVar 4) (mC (.int 1)))) (mCons (mOD (mOpN strD (mCons (mOp2 ixD (mVar 4) (mC (.int 2))) mNil))) mNil)))))) sNext) (sSeq (sIf (mTest (mOp2 eqD (mOp2 ixD (mVar 4) (mC (.int 0))) (mC (.str (PySem.Str.ofString "look"))))) (sSeq (sDrop (mApp 5 (mOD (mOpN strD (mCons (mOp2 ixD (mVar 4) (mC (.int 2))) mNil))))) (sForI (mItems itemsS (mOp2 ixD (mVar 4) (mC (.int 1)))) (tgTup 2 (tgsCons (tgName 7) (tgsCons (tgName 6) tgsNil))) (sAsg 5 (mOp2O addO (mVar 5) (mFz (mLst (mCons (mOD (mVar 7)) (mCons (mOD (mOpN strD (mCons (mVar 6) mNil))) mNil)))))))) sNext) (sDrop (mApp 3 (mOD (mMt1 joinD (mC (.str (PySem.Str.ofString " "))) (mVar 5)))))))))) (sRet (mOD (mMt1 joinD (mC (.str (PySem.Str.ofString "\n"))) (mVar 3))))))
def m__law_adapter_text : M Sl := runF 3 5 [] b__law_adapter_text_

def b_control_words_ : SM := (sSeq (sIf (mTest (mOp2 eqD (mOp2 ixD (mVar 0) (mC (.int 0))) (mC (.str (PySem.Str.ofString "wait"))))) (sRet (mLst (mCons (mOD (mC (.str (PySem.Str.ofString "wait")))) (mCons (mOD (mIf (mTest (mOp2 isNonD (mOp2 ixD (mVar 0) (mC (.int 1))) (mC .non))) (mC (.str (PySem.Str.ofString "-"))) (mOp2 ixD (mVar 0) (mC (.int 1))))) (mStar (mFz (mLc [1] (mItems itemsS (mOp2 ixD (mVar 0) (mC (.int 2)))) (tgName 1) (M.pure true) (mOD (mOpN strD (mCons (mVar 1) mNil))))) mNil))))) sNext) (sSeq (sIf (mTest (mOp2 eqD (mOp2 ixD (mVar 0) (mC (.int 0))) (mC (.str (PySem.Str.ofString "do"))))) (sRet (mLst (mCons (mOD (mC (.str (PySem.Str.ofString "do")))) (mCons (mOD (mOp2 ixD (mVar 0) (mC (.int 1)))) (mCons (mOD (mOpN strD (mCons (mOp2 ixD (mVar 0) (mC (.int 2))) mNil))) mNil))))) sNext) (sSeq (sAsg 2 (mLst (mCons (mOD (mC (.str (PySem.Str.ofString "look")))) (mCons (mOD (mOpN strD (mCons (mOp2 ixD (mVar 0) (mC (.int 2))) mNil))) mNil)))) (sSeq (sForI (mItems itemsS (mOp2 ixD (mVar 0) (mC (.int 1)))) (tgTup 2 (tgsCons (tgName 3) (tgsCons (tgName 1) tgsNil))) (sDrop (mExt 2 (mLst (mCons (mOD (mVar 3)) (mCons (mOD (mOpN strD (mCons (mVar 1) mNil))) mNil)))))) (sRet (mMove 2))))))
def m_control_words : M Sl := runF 1 3 [] b_control_words_

def b_write_adapter_ : SM := (sSeq (sAsg 1 (mLst (mCons (mOD (mMt1 joinD (mC (.str (PySem.Str.ofString " "))) (mFz (mLst (mCons (mOD (mC (.str (PySem.Str.ofString "letters")))) (mStar (mOp1 (attrD [(PySem.Str.ofString "Adapter")] (PySem.Str.ofString "letters")) (mVar 0)) mNil)))))) (mCons (mOD (mMt1 joinD (mC (.str (PySem.Str.ofString " "))) (mFz (mLst (mCons (mOD (mC (.str (PySem.Str.ofString "outer")))) (mStar (mOp1 (attrD [(PySem.Str.ofString "Adapter")] (PySem.Str.ofString "outer")) (mVar 0)) mNil)))))) mNil)))) (sSeq (sDrop (mApp 1 (mOD (mJs [(mC (.str (PySem.Str.ofString "controls "))), (mOp1 fmtD (mOpN lenD (mCons (mOp1 (attrD [(PySem.Str.ofString "Adapter")] (PySem.Str.ofString "controls")) (mVar 0)) mNil)))] PySem.Str.empty)))) (sRet (mOD (mMt1 joinD (mC (.str (PySem.Str.ofString "\n"))) (mFz (mLst (mStar (mVar 1) (mStar (mFz (mLc [2] (mItems itemsS (mOp1 (attrD [(PySem.Str.ofString "Adapter")] (PySem.Str.ofString "controls")) (mVar 0))) (tgName 2) (M.pure true) (mOD (mMt1 joinD (mC (.str (PySem.Str.ofString " "))) (mFz (mCall 1 m_control_words [] (mCons (mOD (mVar 2)) mNil))))))) mNil)))))))))
def m_write_adapter : M Sl := runF 1 2 [] b_write_adapter_

def b_Lines_init_ : SM := (sSeq (sAttr [(PySem.Str.ofString "Lines")] (PySem.Str.ofString "rows") 0 (mOD (mMt1 splitD (mVar 1) (mC (.str (PySem.Str.ofString "\n")))))) (sAttr [(PySem.Str.ofString "Lines")] (PySem.Str.ofString "done") 0 (mOD (mC (.int 0)))))
def m_Lines_init : M Sl := runF 2 0 [0] b_Lines_init_

def b_Line_is_done_ : SM := (sRet (mOD (mOp2 geD (mAttrV [(PySem.Str.ofString "Line")] (PySem.Str.ofString "at") 0) (mOpN lenD (mCons (mAttrV [(PySem.Str.ofString "Line")] (PySem.Str.ofString "words") 0) mNil)))))
def m_Line_is_done : M Sl := runF 1 0 [0] b_Line_is_done_

def g1_Line_take : M Bool := (mTest (mFz (mMethIO (PySem.Str.ofString "Line") (PySem.Str.ofString "is_done") 1 m_Line_is_done [] 0 mNil)))
def ga_Line_take : M D := (mOp2 ixD (mAttrV [(PySem.Str.ofString "Line")] (PySem.Str.ofString "words") 0) (mAttrV [(PySem.Str.ofString "Line")] (PySem.Str.ofString "at") 0))
def k_Line_take : SM := (sSeq (sAttrAdd [(PySem.Str.ofString "Line")] (PySem.Str.ofString "at") 0 (mC (.int 1))) (sRet (mOD (mOp2 ixD (mAttrV [(PySem.Str.ofString "Line")] (PySem.Str.ofString "words") 0) (mOp2 subD (mAttrV [(PySem.Str.ofString "Line")] (PySem.Str.ofString "at") 0) (mC (.int 1)))))))
def m_Line_take : (D → Option Bool) → M Sl := mtOf ["self", "is_right"] g1_Line_take ga_Line_take k_Line_take

def l_Line_take_head_0 : M D := (mOp2 eqD (mVar 0) (mVar 1))
def b_Line_take_head_ : SM := (sDrop (mAskM (PySem.Str.ofString "Line") (PySem.Str.ofString "take") m_Line_take 0 [1] (phiOf 0 l_Line_take_head_0)))
def m_Line_take_head : M Sl := runF 2 0 [0] b_Line_take_head_

def l_take_letters_0 : M D := (mB (mAnd (mTest (mFz (mCall 1 m_is_word [] (mCons (mOD (mVar 0)) mNil)))) (mAnd (mTest (mOp2 notInD (mVar 0) (mVar 1))) (mTest (mOp2 ltD (mOpN lenD (mCons (mVar 1) mNil)) (mC (.int 3)))))))
def b_take_letters_ : SM := (sSeq (sDrop (mMethIO (PySem.Str.ofString "Line") (PySem.Str.ofString "take_head") 2 m_Line_take_head [] 0 (mCons (mOD (mVar 1)) mNil))) (sSeq (sAsg 2 (mLst mNil)) (sSeq (whileN (mOr (mPeekT (mTest (mOp2 eqD (mVar 2) (mFz (mLst mNil))))) (mNot (mTest (mFz (mMethIO (PySem.Str.ofString "Line") (PySem.Str.ofString "is_done") 1 m_Line_is_done [] 0 mNil))))) (sDrop (mApp 2 (mAskM (PySem.Str.ofString "Line") (PySem.Str.ofString "take") m_Line_take 0 [2] (phiOf 0 l_take_letters_0)))) fuel) (sRet (mMove 2)))))
def m_take_letters : M Sl := runF 2 1 [0] b_take_letters_

def b_is_number_texts_ : SM := (sSeq (sIf (mOr (mTest (mOp2 eqD (mVar 0) (mC (.str (PySem.Str.ofString ""))))) (mOr (mTest (mOp2 gtD (mOpN lenD (mCons (mVar 0) mNil)) (mC (.int 4)))) (mNot (mTest (mOpN allD (mCons (mFz (mLc [1] (mItems itemsS (mVar 0)) (tgName 1) (M.pure true) (mOD (mOp2 inD (mVar 1) (mC (.str (PySem.Str.ofString "0123456789"))))))) mNil)))))) (sRet (mOD (mC (.bl false)))) sNext) (sRet (mOD (mB (mOr (mTest (mOp2 eqD (mVar 0) (mC (.str (PySem.Str.ofString "0"))))) (mTest (mOp2 neD (mOp2 ixD (mVar 0) (mC (.int 0))) (mC (.str (PySem.Str.ofString "0"))))))))))
def m_is_number_texts : M Sl := runF 1 1 [] b_is_number_texts_

def l_Line_take_number_0 : M D := (mB (mAnd (mTest (mFz (mCall 1 m_is_number_texts [] (mCons (mOD (mVar 0)) mNil)))) (mTest (mChain leD leD (mVar 1) (mOpN intD (mCons (mVar 0) mNil)) (mVar 2)))))
def b_Line_take_number_ : SM := (sRet (mOD (mOpN intD (mCons (mFz (mAskM (PySem.Str.ofString "Line") (PySem.Str.ofString "take") m_Line_take 0 [1, 2] (phiOf 0 l_Line_take_number_0))) mNil))))
def m_Line_take_number : M Sl := runF 3 0 [0] b_Line_take_number_

def b_Line_close_ : SM := (sIf (mNot (mTest (mFz (mMethIO (PySem.Str.ofString "Line") (PySem.Str.ofString "is_done") 1 m_Line_is_done [] 0 mNil)))) sFail sNext)
def m_Line_close : M Sl := runF 1 0 [0] b_Line_close_

def b_take_many_ : SM := (sSeq (sDrop (mMethIO (PySem.Str.ofString "Line") (PySem.Str.ofString "take_head") 2 m_Line_take_head [] 0 (mCons (mOD (mVar 1)) mNil))) (sSeq (sAsg 3 (mMethIO (PySem.Str.ofString "Line") (PySem.Str.ofString "take_number") 3 m_Line_take_number [] 0 (mCons (mOD (mC (.int 1))) (mCons (mOD (mVar 2)) mNil)))) (sSeq (sDrop (mMethIO (PySem.Str.ofString "Line") (PySem.Str.ofString "close") 1 m_Line_close [] 0 mNil)) (sRet (mOD (mVar 3))))))
def m_take_many : M Sl := runF 3 1 [0] b_take_many_

def b_Lines_is_left_ : SM := (sRet (mOD (mOp2 ltD (mAttrV [(PySem.Str.ofString "Lines")] (PySem.Str.ofString "done") 0) (mOpN lenD (mCons (mAttrV [(PySem.Str.ofString "Lines")] (PySem.Str.ofString "rows") 0) mNil)))))
def m_Lines_is_left : M Sl := runF 1 0 [0] b_Lines_is_left_

def b_Line_init_ : SM := (sSeq (sAttr [(PySem.Str.ofString "Line")] (PySem.Str.ofString "number") 0 (mOD (mVar 1))) (sSeq (sAttr [(PySem.Str.ofString "Line")] (PySem.Str.ofString "words") 0 (mOD (mMt1 splitD (mVar 2) (mC (.str (PySem.Str.ofString " ")))))) (sAttr [(PySem.Str.ofString "Line")] (PySem.Str.ofString "at") 0 (mOD (mC (.int 0))))))
def m_Line_init : M Sl := runF 3 0 [0] b_Line_init_

def b_Lines_next_line_ : SM := (sSeq (sIf (mTest (mOp2 geD (mAttrV [(PySem.Str.ofString "Lines")] (PySem.Str.ofString "done") 0) (mOpN lenD (mCons (mAttrV [(PySem.Str.ofString "Lines")] (PySem.Str.ofString "rows") 0) mNil)))) sFail sNext) (sSeq (sAttrAdd [(PySem.Str.ofString "Lines")] (PySem.Str.ofString "done") 0 (mC (.int 1))) (sRet (mMake (PySem.Str.ofString "Line") 3 m_Line_init [] (mCons (mOD (mAttrV [(PySem.Str.ofString "Lines")] (PySem.Str.ofString "done") 0)) (mCons (mOD (mOp2 ixD (mAttrV [(PySem.Str.ofString "Lines")] (PySem.Str.ofString "rows") 0) (mOp2 subD (mAttrV [(PySem.Str.ofString "Lines")] (PySem.Str.ofString "done") 0) (mC (.int 1))))) mNil))))))
def m_Lines_next_line : M Sl := runF 1 0 [0] b_Lines_next_line_

def l_take_says_0 : M D := (mB (mOr (mTest (mOp2 eqD (mVar 0) (mC (.str (PySem.Str.ofString "-"))))) (mTest (mFz (mCall 1 m_is_answer [] (mCons (mOD (mVar 0)) mNil))))))
def b_take_says_ : SM := (sSeq (sAsg 1 (mAskM (PySem.Str.ofString "Line") (PySem.Str.ofString "take") m_Line_take 0 [] (phiOf 0 l_take_says_0))) (sRet (mOD (mIf (mTest (mOp2 eqD (mVar 1) (mC (.str (PySem.Str.ofString "-"))))) (mC .non) (mVar 1)))))
def m_take_says : M Sl := runF 1 1 [0] b_take_says_

def l_take_groups_0 : M D := (mB (mAnd (mTest (mFz (mCall 1 m_is_answer [] (mCons (mOD (mVar 0)) mNil)))) (mTest (mOp2 notInD (mVar 0) (mFz (mLc [2] (mItems itemsS (mVar 1)) (tgName 2) (M.pure true) (mOD (mOp2 ixD (mVar 2) (mC (.int 0))))))))))
def b_take_groups_ : SM := (sSeq (sAsg 2 (mLst mNil)) (sSeq (whileN (mNot (mTest (mFz (mMethIO (PySem.Str.ofString "Line") (PySem.Str.ofString "is_done") 1 m_Line_is_done [] 0 mNil)))) (sSeq (sAsg 3 (mAskM (PySem.Str.ofString "Line") (PySem.Str.ofString "take") m_Line_take 0 [2] (phiOf 1 l_take_groups_0))) (sDrop (mApp 2 (mOD (mTup (mCons (mVar 3) (mCons (mFz (mMethIO (PySem.Str.ofString "Line") (PySem.Str.ofString "take_number") 3 m_Line_take_number [] 0 (mCons (mOD (mC (.int 0))) (mCons (mOD (mOp2 subD (mVar 1) (mC (.int 1)))) mNil)))) mNil))))))) fuel) (sRet (mOD (mOpN tupleD (mCons (mVar 2) mNil))))))
def m_take_groups : M Sl := runF 2 2 [0] b_take_groups_

def l_take_control_0 : M D := (mOp2 inD (mVar 0) (mTup (mCons (mC (.str (PySem.Str.ofString "wait"))) (mCons (mC (.str (PySem.Str.ofString "do"))) (mCons (mC (.str (PySem.Str.ofString "look"))) mNil)))))
def l_take_control_1 : M D := (mOp2 inD (mVar 0) (mVar 1))
def b_take_control_ : SM := (sSeq (sAsg 4 (mAskM (PySem.Str.ofString "Line") (PySem.Str.ofString "take") m_Line_take 0 [] (phiOf 0 l_take_control_0))) (sSeq (sIf (mTest (mOp2 eqD (mVar 4) (mC (.str (PySem.Str.ofString "wait"))))) (sSeq (sAsg 5 (mCall 1 m_take_says [(0, 0)] (mCons (mMove 0) mNil))) (sAsg 6 (mOD (mTup (mCons (mC (.str (PySem.Str.ofString "wait"))) (mCons (mVar 5) (mCons (mOpN tupleD (mCons (mFz (mLc [7] (mItems itemsS (mVar 2)) (tgName 7) (M.pure true) (mMethIO (PySem.Str.ofString "Line") (PySem.Str.ofString "take_number") 3 m_Line_take_number [] 0 (mCons (mOD (mC (.int 0))) (mCons (mOD (mOp2 subD (mVar 3) (mC (.int 1)))) mNil))))) mNil)) mNil))))))) (sIf (mTest (mOp2 eqD (mVar 4) (mC (.str (PySem.Str.ofString "do"))))) (sSeq (sAsg 7 (mAskM (PySem.Str.ofString "Line") (PySem.Str.ofString "take") m_Line_take 0 [1] (phiOf 0 l_take_control_1))) (sAsg 6 (mOD (mTup (mCons (mC (.str (PySem.Str.ofString "do"))) (mCons (mVar 7) (mCons (mFz (mMethIO (PySem.Str.ofString "Line") (PySem.Str.ofString "take_number") 3 m_Line_take_number [] 0 (mCons (mOD (mC (.int 0))) (mCons (mOD (mOp2 subD (mVar 3) (mC (.int 1)))) mNil)))) mNil))))))) (sSeq (sAsg 8 (mMethIO (PySem.Str.ofString "Line") (PySem.Str.ofString "take_number") 3 m_Line_take_number [] 0 (mCons (mOD (mC (.int 0))) (mCons (mOD (mOp2 subD (mVar 3) (mC (.int 1)))) mNil)))) (sAsg 6 (mOD (mTup (mCons (mC (.str (PySem.Str.ofString "look"))) (mCons (mFz (mCall 2 m_take_groups [(0, 0)] (mCons (mMove 0) (mCons (mOD (mVar 3)) mNil)))) (mCons (mVar 8) mNil))))))))) (sSeq (sDrop (mMethIO (PySem.Str.ofString "Line") (PySem.Str.ofString "close") 1 m_Line_close [] 0 mNil)) (sRet (mOD (mVar 6))))))
def m_take_control : M Sl := runF 4 5 [0] b_take_control_

def b_read_adapter_ : SM := (sSeq (sAsg 1 (mMake (PySem.Str.ofString "Lines") 2 m_Lines_init [] (mCons (mOD (mVar 0)) mNil))) (sSeq (sAsg 2 (mCall 2 m_take_letters [] (mCons (mMethIO (PySem.Str.ofString "Lines") (PySem.Str.ofString "next_line") 1 m_Lines_next_line [] 1 mNil) (mCons (mOD (mC (.str (PySem.Str.ofString "letters")))) mNil)))) (sSeq (sAsg 3 (mCall 2 m_take_letters [] (mCons (mMethIO (PySem.Str.ofString "Lines") (PySem.Str.ofString "next_line") 1 m_Lines_next_line [] 1 mNil) (mCons (mOD (mC (.str (PySem.Str.ofString "outer")))) mNil)))) (sSeq (sAsg 4 (mCall 3 m_take_many [] (mCons (mMethIO (PySem.Str.ofString "Lines") (PySem.Str.ofString "next_line") 1 m_Lines_next_line [] 1 mNil) (mCons (mOD (mC (.str (PySem.Str.ofString "controls")))) (mCons (mOD (mC (.int 24))) mNil))))) (sSeq (sAsg 5 (mLc [6] (mItemsN rng1 (mCons (mVar 4) mNil)) (tgName 6) (M.pure true) (mCall 4 m_take_control [] (mCons (mMethIO (PySem.Str.ofString "Lines") (PySem.Str.ofString "next_line") 1 m_Lines_next_line [] 1 mNil) (mCons (mOD (mVar 2)) (mCons (mOD (mVar 3)) (mCons (mOD (mVar 4)) mNil))))))) (sSeq (sIf (mTest (mFz (mMethIO (PySem.Str.ofString "Lines") (PySem.Str.ofString "is_left") 1 m_Lines_is_left [] 1 mNil))) sFail sNext) (sRet (mMake (PySem.Str.ofString "Adapter") 4 m_Adapter_init [] (mCons (mOD (mVar 2)) (mCons (mOD (mVar 3)) (mCons (mOD (mVar 5)) mNil)))))))))))
def m_read_adapter : M Sl := runF 1 6 [] b_read_adapter_

def b_Adapter_eq_ : SM := (sSeq (sIf (mOr (mNot (mTest (mOpN (isiD [(PySem.Str.ofString "Adapter")]) (mCons (mVar 1) (mCons (mC (.glo (PySem.Str.ofString "Adapter"))) mNil))))) (mTest (mOp2 neD (mOp1 (attrD [(PySem.Str.ofString "Adapter")] (PySem.Str.ofString "letters")) (mVar 0)) (mOp1 (attrD [(PySem.Str.ofString "Adapter")] (PySem.Str.ofString "letters")) (mVar 1))))) (sRet (mOD (mC (.bl false)))) sNext) (sRet (mOD (mB (mAnd (mTest (mOp2 eqD (mOp1 (attrD [(PySem.Str.ofString "Adapter")] (PySem.Str.ofString "outer")) (mVar 0)) (mOp1 (attrD [(PySem.Str.ofString "Adapter")] (PySem.Str.ofString "outer")) (mVar 1)))) (mTest (mOp2 eqD (mOp1 (attrD [(PySem.Str.ofString "Adapter")] (PySem.Str.ofString "controls")) (mVar 0)) (mOp1 (attrD [(PySem.Str.ofString "Adapter")] (PySem.Str.ofString "controls")) (mVar 1)))))))))
def m_Adapter_eq : M Sl := runF 2 0 [] b_Adapter_eq_

def b_law_ : SM := (sSeq (sAsg 1 (mCall 1 m__law_pen [] (mCons (mOD (mVar 0)) mNil))) (sSeq (sForI (mItemsN rng1 (mCons (mC (.int 4)) mNil)) (tgName 2) (sSeq (sAsg 3 (mCall 3 m__law_words [(0, 1)] (mConsL 1 (mCons (mOD (mOp2 addD (mC (.int 1)) (mFz (mCall 2 m__law_draw [(0, 1)] (mCons (mMove 1) (mCons (mOD (mC (.int 3))) mNil)))))) (mCons (mOD (mC (.int 8))) mNil))))) (sSeq (sAsg 4 (mCall 3 m__law_words [(0, 1)] (mConsL 1 (mCons (mOD (mOp2 addD (mC (.int 1)) (mFz (mCall 2 m__law_draw [(0, 1)] (mCons (mMove 1) (mCons (mOD (mC (.int 3))) mNil)))))) (mCons (mOD (mC (.int 8))) mNil))))) (sSeq (sPar 5 6 (mCons (mCall 2 m__law_said [(0, 1)] (mCons (mMove 1) (mCons (mOD (mC (.int 3))) mNil))) (mCons (mOD (mIf (mTest (mOp2 eqD (mVar 2) (mC (.int 3)))) (mC (.int 24)) (mOp2 addD (mC (.int 1)) (mFz (mCall 2 m__law_draw [(0, 1)] (mCons (mMove 1) (mCons (mOD (mC (.int 9))) mNil))))))) mNil))) (sSeq (sAsg 7 (mCall 5 m__law_controls [(0, 1)] (mCons (mMove 1) (mCons (mOD (mVar 6)) (mCons (mOD (mVar 3)) (mCons (mOD (mVar 4)) (mCons (mOD (mVar 5)) mNil))))))) (sSeq (sPar 8 9 (mCons (mMake (PySem.Str.ofString "Adapter") 4 m_Adapter_init [] (mCons (mOD (mVar 3)) (mCons (mOD (mVar 4)) (mCons (mOD (mVar 7)) mNil)))) (mCons (mCall 3 m__law_adapter_text [] (mCons (mOD (mVar 3)) (mCons (mOD (mVar 4)) (mCons (mOD (mVar 7)) mNil)))) mNil))) (sSeq (sIf (mOr (mTest (mOp2 neD (mFz (mCall 1 m_write_adapter [] (mCons (mOD (mVar 8)) mNil))) (mVar 9))) (mTest (mNeOwn (PySem.Str.ofString "Adapter") m_Adapter_eq (mFz (mCall 1 m_read_adapter [] (mCons (mOD (mVar 9)) mNil))) (mVar 8)))) (sRet (mOD (mC (.bl false)))) sNext) (sIf (mOr (mTest (mOp2 neD (mOp1 (attrD [(PySem.Str.ofString "Adapter")] (PySem.Str.ofString "controls")) (mFz (mCall 1 m_read_adapter [] (mCons (mOD (mVar 9)) mNil)))) (mOpN tupleD (mCons (mVar 7) mNil)))) (mTest (mOp2 neD (mFz (mCall 1 m_write_adapter [] (mCons (mCall 1 m_read_adapter [] (mCons (mOD (mVar 9)) mNil)) mNil))) (mVar 9)))) (sRet (mOD (mC (.bl false)))) sNext)))))))) (sRet (mOD (mC (.bl true))))))
def m_law : M Sl := runF 1 9 [] b_law_
end G72

end
section
set_option Elab.async false
set_option linter.all false
set_option autoImplicit false
set_option maxRecDepth 100000
set_option maxHeartbeats 4000000
namespace G72
open PySem PySem.Spec L2 NdefX DL
open TL (tl)
local macro_rules
  | `(tactic| bv_omega) => `(tactic| try simp only [okS_seq, ok_jsNil, ok_jsCons, seq_tup, seq_lst, ok_f0, ok_g0, ok_f1, ok_g1, ok_f2, ok_g2, ok_f3, ok_g3, ok_f4, ok_g4, ok_f5, ok_g5, ok_f6, ok_g6, ok_f7, ok_g7, ok_f8, ok_g8, ok_f9, ok_g9, ok_f10, ok_g10, ok_f11, ok_g11, okS_attr, okS_asg, okS_ret, okS_drop, okS_sIf, okS_next, okS_for, okS_tgt, okS_fail, okS_retN, ok_C, ok_op2, ok_op1, ok_opN, ok_opNO, ok_nil, ok_cons, ok_OD, ok_Fz, ok_test, ok_B, ok_and, ok_or, ok_not, ok_mIf, ok_lst, ok_tup, ok_callE, ok_items, ok_itemsN, ok_mt1, ok_chain, ok_sl, ok_noPart, ok_part, ok_star, ok_isiT, ok_truB, ok_v0, ok_v1, ok_v2, ok_v3, ok_v4, ok_v5, ok_v6, ok_v7, ok_v8, ok_v9, ok_v10, ok_m0, ok_m1, ok_m2, ok_m3, ok_m4, ok_m5, ok_m6, ok_m7, ok_m8, ok_m9, ok_m10, gt_ii, ge_ii, lt_ii, le_ii, add_ii, sub_ii, asB_b, int_i, isi_str_str, isi_int_str, isi_int_int, isi_int_bool, ix2_0, ix2_1, ofStr_inj, String.reduceEq, or_false, false_or, or_true, true_or, decide_true, decide_false, isiT_lst, isiT_tup, asI_i, sl_lst, tuple_lst, tuple_tup, isNon_non, isNotNon_non, isNotNon_int, isNon_int, isNon_str, isNotNon_str, eqD_int, neD_int, in_char, notIn_char, items_str, items_lst, items_tup, enum_lst, enum_tup, len_lst', len_tup, frz_d, frz_ol, putBack_nil, putBack_0, exists_eq_left', Option.some.injEq, D.int.injEq, D.str.injEq, decide_eq_true_eq, List.length_cons, List.length_nil, List.set, List.cons_append, List.nil_append, List.append_nil, List.replicate, List.map_cons, List.map_nil, List.take, keepIO, Nat.zero_add, Nat.reduceAdd, Nat.reduceLT, Nat.reduceLeDiff, Nat.reduceEqDiff, true_and, and_true, if_true, if_false, Bool.not_true, Bool.not_false, Bool.false_eq_true, List.mem_cons, List.not_mem_nil])
/-- the pen: cells, how many were used, what is left of a large cell -/
def pen (cells : List Int) (at_ rest : Int) : Sl := .od [(.inr (Str.ofString "cells"), .d (.lst (cells.map .int))), (.inr (Str.ofString "at"), .d (.int at_)), (.inr (Str.ofString "rest"), .d (.int rest))]
section
variable {cells : List Int} {a r : Int} {ρ : DL.Env} {N : DL.Env → Prop} {R : Sl → DL.Env → Prop} {Q : D → DL.Env → Prop}
theorem get_cells : Ok (mDGetV 0 (mC (.str (Str.ofString "cells")))) (some (pen cells a r) :: ρ) Q = Q (.lst (cells.map .int)) (some (pen cells a r) :: ρ) := rfl
theorem get_at : Ok (mDGetV 0 (mC (.str (Str.ofString "at")))) (some (pen cells a r) :: ρ) Q = Q (.int a) (some (pen cells a r) :: ρ) := rfl
theorem get_rest : Ok (mDGetV 0 (mC (.str (Str.ofString "rest")))) (some (pen cells a r) :: ρ) Q = Q (.int r) (some (pen cells a r) :: ρ) := rfl
end
theorem put_at {s : Sl} {N : DL.Env → Prop} {cells : List Int} {a r : Int} {ρ : DL.Env} : putP (.inr (Str.ofString "at")) s (some (pen cells a r) :: ρ) N = N (some (.od [(.inr (Str.ofString "cells"), .d (.lst (cells.map .int))), (.inr (Str.ofString "at"), s), (.inr (Str.ofString "rest"), .d (.int r))]) :: ρ) := rfl
theorem put_rest {s : Sl} {N : DL.Env → Prop} {cells : List Int} {a r : Int} {ρ : DL.Env} : putP (.inr (Str.ofString "rest")) s (some (pen cells a r) :: ρ) N = N (some (.od [(.inr (Str.ofString "cells"), .d (.lst (cells.map .int))), (.inr (Str.ofString "at"), .d (.int a)), (.inr (Str.ofString "rest"), s)]) :: ρ) := rfl
theorem pen_fold {cells : List Int} {a r : Int} : Sl.od [(.inr (Str.ofString "cells"), .d (.lst (cells.map .int))), (.inr (Str.ofString "at"), .d (.int a)), (.inr (Str.ofString "rest"), .d (.int r))] = pen cells a r := rfl
local macro_rules
  | `(tactic| decreasing_trivial_pre_omega) => `(tactic| simp only [okS_seq, okS_asg, okS_ret, okS_drop, okS_sIf, okS_next, okS_put, put_at, put_rest, pen_fold, ok_C, ok_op2, ok_op1, ok_opN, ok_opNO, ok_nil, ok_cons, ok_OD, ok_Fz, ok_test, ok_B, ok_and, ok_or, ok_not, ok_mIf, ok_lst, ok_tup, get_cells, get_at, get_rest, ok_v0, ok_v1, ok_v2, ok_v3, ok_v4, ok_v5, ok_v6, ok_v7, ok_v8, ok_v9, ok_v10, ok_m0, ok_m1, ok_m2, ok_m3, ok_m4, ok_m5, ok_m6, ok_m7, ok_m8, ok_m9, ok_m10, gt_ii, ge_ii, lt_ii, le_ii, add_ii, sub_ii, asB_b, int_i, abs_i, exists_eq_left', Option.some.injEq, decide_eq_true_eq, List.length_cons, List.length_nil, List.set, List.cons_append, List.nil_append, List.replicate])
theorem pow18 : powD (.int 10) (.int 18) = some (.int 1000000000000000000) := by rfl
theorem cells_cmp {cells : List Int} : ∀ d ∈ cells.map D.int, Cmp 63 d := fun d h => by
  obtain ⟨i, _, rfl⟩ := List.mem_map.mp h
  exact Cmp.int
theorem len_lst {l : List D} : lenD [.lst l] = some (.int l.length) := rfl
theorem ne_cells {cells : List Int} : neD (.lst (cells.map D.int)) (frz (.ol [])) = some (.bl (decide (cells ≠ []))) := by
  show neD (.lst (cells.map D.int)) (.lst []) = _
  rw [neD_nil cells_cmp]
  simp
theorem mkLst_nil : mkLst [] = some (.ol []) := rfl
theorem draw_ok {cells : List Int} {a r m : Int} (hc : cells.length ≤ 63) (h0 : 0 ≤ a) (h1 : a < 2 ^ 40) (hr : 0 ≤ r) (hm : 0 < m) (hm2 : m < 2 ^ 40) :
    Ok m__law_draw [some (pen cells a r), some (.d (.int m))] fun s ρ => ∃ a2 r2 n, s = .d (.int n) ∧ ρ = [some (pen cells a2 r2), none] ∧ 0 ≤ n ∧ n < m ∧ a ≤ a2 ∧ a2 ≤ a + 1 ∧ 0 ≤ r2 := by
  refine ok_runF rfl ?_
  unfold b__law_draw_
  decreasing_trivial_pre_omega
  split
  · simp only [mod_ii hm, fdiv_ii hm hm2, exists_eq_left', Option.some.injEq, put_rest, pen_fold, ok_v2]
    refine ⟨by omega, _, _, _, rfl, rfl, Int.emod_nonneg _ (by omega), Int.emod_lt_of_pos _ hm, by omega, by omega, ?_⟩
    exact Int.ediv_nonneg hr (by omega)
  · simp only [pow18, mul_ii (by omega : (0:Int) ≤ 67) (by omega) h0 (by omega : a < 2 ^ 200), exists_eq_left', Option.some.injEq, put_at, pen_fold, ok_v3, add_ii, mkLst_nil, ne_cells, len_lst, lt_ii, asB_b, decide_eq_true_eq]
    have haa : 0 ≤ 15017 * a * a := Int.mul_nonneg (by omega) h0
    have hab : 15017 * a * a < 2 ^ 100 := by
      have : 15017 * a * a ≤ 15017 * 2 ^ 40 * 2 ^ 40 := Int.mul_le_mul (by omega) (by omega) h0 (by omega)
      omega
    have sq : ∀ x y : Int, 0 ≤ x → x < 2 ^ 33 → 0 ≤ y → y < 2 ^ 34 → 0 ≤ x * y ∧ x * y < 2 ^ 68 := fun x y a b c d => ⟨Int.mul_nonneg a c, by
      have : x * y ≤ 2 ^ 33 * 2 ^ 34 := Int.mul_le_mul (by omega) (by omega) c (by omega)
      omega⟩
    have md : ∀ x k : Int, 0 < k → 0 ≤ x % k ∧ x % k < k := fun x k h => ⟨Int.emod_nonneg _ (by omega), Int.emod_lt_of_pos _ h⟩
    refine ⟨by omega, by omega, ?_⟩
    have fin : ∀ c : Int, c = c := fun _ => rfl
    split
    · rename_i hne
      have hl : 0 < (cells.length : Int) := by
        cases cells with
        | nil => exact absurd rfl hne
        | cons _ _ => simp
      obtain ⟨c, hcx⟩ : ∃ c, cells[(a % (cells.length : Int)).toNat]? = some c := by
        have := md a cells.length hl
        exact ⟨cells[(a % (cells.length : Int)).toNat]'(by omega), List.getElem?_eq_getElem _⟩
      have hix : ixD (.lst (cells.map D.int)) (.int (a % (cells.length : Int))) = some (.int c) := ix_lst (md a _ hl).1 (by rw [List.getElem?_map, hcx]; rfl)
      have b0 := md c 4294967161 (by omega)
      simp (disch := omega) only [List.length_map, mod_ii hl, hix, exists_eq_left', Option.some.injEq, abs_i, int_i, ge_ii, sub_ii, add_ii, asB_b, decide_eq_true_eq, mod_ii, mul_ii, fdiv_ii]
      refine ⟨by omega, ?_⟩
      generalize (if c < 0 then -c else c) = y
      split
      · split
        · exact ⟨_, _, _, rfl, rfl, Int.emod_nonneg _ (by omega), Int.emod_lt_of_pos _ hm, by omega, by omega, Int.ediv_nonneg (by omega) (by omega)⟩
        · exact ⟨by omega, by omega, by omega, _, _, _, rfl, rfl, Int.emod_nonneg _ (by omega), Int.emod_lt_of_pos _ hm, by omega, by omega, hr⟩
      · rw [if_neg (by decide)]
        exact ⟨by omega, by omega, by omega, _, _, _, rfl, rfl, Int.emod_nonneg _ (by omega), Int.emod_lt_of_pos _ hm, by omega, by omega, hr⟩
    · rename_i hne
      have hnil : cells = [] := Classical.not_not.mp hne
      have hlt : ¬ a < ((List.map D.int cells).length : Int) := by subst hnil; simp; omega
      have b0 := md (67 * a + 41) 4294967161 (by omega)
      simp (disch := omega) only [if_neg hlt, exists_eq_left', Option.some.injEq, abs_i, int_i, ge_ii, sub_ii, add_ii, asB_b, decide_eq_true_eq, mod_ii, mul_ii, fdiv_ii]
      rw [if_neg (by decide)]
      exact ⟨by omega, by omega, by omega, _, _, _, rfl, rfl, Int.emod_nonneg _ (by omega), Int.emod_lt_of_pos _ hm, by omega, by omega, hr⟩
def Pen (k : Int) (t : Sl) : Prop := ∃ cells a r, t = pen cells a r ∧ cells.length ≤ 63 ∧ 0 ≤ a ∧ a ≤ k ∧ 0 ≤ r
theorem Pen.le {k l : Int} {t : Sl} (h : Pen k t) (e : k ≤ l) : Pen l t := by
  obtain ⟨c, a, r, h1, h2, h3, h4, h5⟩ := h
  exact ⟨c, a, r, h1, h2, h3, by omega, h5⟩
theorem draw {k m : Int} {t : Sl} (h : Pen k t) (hk : k < 2 ^ 40) (hm : 0 < m) (hm2 : m < 2 ^ 40) :
    Ok m__law_draw [some t, some (.d (.int m))] fun s ρ => ∃ t2 n, s = .d (.int n) ∧ ρ = [some t2, none] ∧ Pen (k + 1) t2 ∧ 0 ≤ n ∧ n < m := by
  obtain ⟨c, a, r, rfl, h2, h3, h4, h5⟩ := h
  exact (draw_ok h2 h3 (by omega) h5 hm hm2).imp fun s ρ ⟨a2, r2, n, e1, e2, g0, g1, g2, g3, g4⟩ => ⟨_, n, e1, e2, ⟨c, a2, r2, rfl, h2, by omega, by omega, g4⟩, g0, g1⟩
/-- a call of draw: the pen stands in slot 0 -/
theorem ok_draw {k m : Int} {t : Sl} {ρ : DL.Env} {g : M (List Sl)} {Q : Sl → DL.Env → Prop} (h : Pen k t) (hk : k < 2 ^ 40) (hm : 0 < m) (hm2 : m < 2 ^ 40)
    (hg : Ok g ρ fun ss ρ1 => ss = [t, .d (.int m)] ∧ ∀ t2 n, Pen (k + 1) t2 → 0 ≤ n → n < m → Q (.d (.int n)) (ρ1.set 0 (some t2))) :
    Ok (mCall 2 m__law_draw [(0, 0)] g) ρ Q := by
  refine ok_call (hg.imp fun ss ρ1 ⟨e, k2⟩ => ⟨by rw [e]; rfl, ?_⟩)
  subst e
  exact (draw h hk hm hm2).imp fun s ρf ⟨t2, n, e1, e2, p, a, b⟩ => by
    subst e1; subst e2
    exact k2 t2 n p a b
/-- a pick of one of the items of a text or a list -/
theorem pick {k : Int} {t : Sl} {it : D} {n : Nat} {P : D → Prop} (h : Pen k t) (hk : k < 2 ^ 40) (hl : lenD [it] = some (.int n)) (h0 : 0 < n) (h1 : (n : Int) < 2 ^ 40) (hi : ∀ j : Int, 0 ≤ j → j < n → ∃ d, ixD it (.int j) = some d ∧ P d) :
    Ok m__law_pick [some t, some (.d it)] fun s ρ => ∃ t2 d, s = .d d ∧ ρ = [some t2, none] ∧ Pen (k + 1) t2 ∧ P d := by
  refine ok_runF rfl ?_
  unfold b__law_pick_
  decreasing_trivial_pre_omega
  refine ok_draw h hk (m := n) (by omega) h1 ?_
  decreasing_trivial_pre_omega
  simp only [hl, exists_eq_left', Option.some.injEq]
  refine ⟨trivial, fun t2 j p a b => ?_⟩
  obtain ⟨d, e, pd⟩ := hi j a b
  exact ⟨d, e, t2, d, rfl, rfl, p, pd⟩
theorem okS_par {i j : Nat} {g : M (List Sl)} {ρ : DL.Env} {N : DL.Env → Prop} {R : Sl → DL.Env → Prop} (h : Ok g ρ fun ts ρ1 => ∃ t u ρ2, ts = [t, u] ∧ (setV i t ρ1).bind (setV j u) = some ρ2 ∧ N ρ2) : OkS (DL.sPar i j g) ρ N R := by
  unfold DL.sPar
  rw [okS_bind]
  refine h.imp fun ts ρ1 ⟨t, u, ρ2, e1, e2, q⟩ => ?_
  subst e1
  unfold OkS
  simp only [e2, nxO]
  exact q
theorem perm_erase {α : Type} : ∀ {l : List α} {k : Nat} {x : α}, l[k]? = some x → List.Perm (x :: l.eraseIdx k) l
  | [], k, x, h => by simp at h
  | y :: l, 0, x, h => by
    have : y = x := by simpa using h
    subst this
    simp
  | y :: l, k + 1, x, h => by
    have h2 : l[k]? = some x := by simpa using h
    rw [List.eraseIdx_cons_succ]
    exact (List.Perm.swap y x _).trans ((perm_erase h2).cons y)
theorem perm_pop {α : Type} {l g : List α} {k : Nat} {x : α} (h : l[k]? = some x) : List.Perm ((g ++ [x]) ++ l.eraseIdx k) (g ++ l) := by
  rw [List.append_assoc]
  exact List.Perm.append_left g (perm_erase h)
theorem eraseIdx_map' {α β : Type} (f : α → β) : ∀ (l : List α) (k : Nat), (l.map f).eraseIdx k = (l.eraseIdx k).map f
  | [], _ => rfl
  | _ :: _, 0 => rfl
  | x :: l, k + 1 => by
    rw [List.map_cons, List.eraseIdx_cons_succ, List.eraseIdx_cons_succ, List.map_cons, eraseIdx_map' f l k]
theorem frzL_d : ∀ l : List D, frzL (l.map Sl.d) = l
  | [] => rfl
  | d :: l => by simp only [List.map_cons, frzL, frz, frzL_d l]
theorem shuffled {k : Int} {t : Sl} {xs : List D} (h : Pen k t) (hk : k < 2 ^ 39) (hn : xs.length ≤ 1000) (hc : ∀ d ∈ xs, Cmp 63 d) :
    Ok m__law_shuffled [some t, some (.d (.lst xs))] fun s ρ => ∃ t2 ys, s = .ol (ys.map .d) ∧ ρ = [some t2, none] ∧ Pen (k + xs.length) t2 ∧ List.Perm ys xs := by
  refine ok_runF rfl ?_
  unfold b__law_shuffled_
  rw [okS_seq]
  refine okS_par ?_
  decreasing_trivial_pre_omega
  refine ⟨_, rfl, _, rfl, _, _, _, rfl, rfl, ?_⟩
  refine okS_while (fun n ρ => ∃ t left gained, left.length = n ∧ ρ = [some t, some (.d (.lst xs)), some (.ol (left.map .d)), some (.ol (gained.map .d))] ∧ Pen (k + (xs.length - n)) t ∧ List.Perm (gained ++ left) xs) ?_ (n := xs.length) (by unfold fuel; omega) ⟨t, xs, [], rfl, rfl, h.le (by omega), List.Perm.refl _⟩
  rintro n ρ ⟨t, left, gained, hl, rfl, hp, hperm⟩
  refine ok_peekT ?_
  have hcl : ∀ d ∈ left, Cmp 63 d := fun d hd => hc d (hperm.subset (List.mem_append_right _ hd))
  have hlen : left.length ≤ xs.length := by have := hperm.length_eq; simp at this; omega
  simp only [frzE, List.map_cons, List.map_nil, Option.map_some, frz, frzL_d]
  decreasing_trivial_pre_omega
  have hne : neD (.lst left) (frz (.ol [])) = some (.bl (decide (left ≠ []))) := neD_nil hcl
  refine ⟨_, rfl, _, hne, _, rfl, ?_⟩
  split
  · rename_i hz
    have hz : left ≠ [] := of_decide_eq_true hz
    have hpos : 0 < left.length := by cases left with
      | nil => exact absurd rfl hz
      | cons _ _ => simp
    refine ok_app rfl (ok_popAt rfl ?_)
    rw [ok_Fz]
    refine ok_draw hp (by omega) (m := left.length) (by omega) (by omega) ?_
    decreasing_trivial_pre_omega
    refine ok_peek ?_
    simp only [frzE, List.map_cons, List.map_nil, Option.map_some, frz, frzL_d]
    decreasing_trivial_pre_omega
    refine ⟨_, rfl, rfl, rfl, fun t2 j p a b => ?_⟩
    obtain ⟨d, hd⟩ : ∃ d, left[j.toNat]? = some d := ⟨left[j.toNat]'(by omega), List.getElem?_eq_getElem _⟩
    have hel : (left.eraseIdx j.toNat).length = left.length - 1 := List.length_eraseIdx_of_lt (by omega)
    have hgl : gained.length ≤ xs.length := by have := hperm.length_eq; simp at this; omega
    exact ⟨j, _, .d d, rfl, rfl, a, by simpa using b, by omega, by rw [List.getElem?_map, hd]; rfl, _, rfl, by simp; omega, left.length - 1, by omega, t2, left.eraseIdx j.toNat, gained ++ [d], hel, by rw [List.map_append, eraseIdx_map']; rfl, p.le (by omega), (perm_pop hd).trans hperm⟩
  · rename_i hz
    have hz : left = [] := Classical.not_not.mp fun e => hz (decide_eq_true e)
    subst hz
    refine ⟨t, gained, rfl, rfl, hp.le (by omega), by simpa using hperm⟩
def smallS : Str := PySem.Str.ofString "abcdefghijklmnopqrstuvwxyz"
def signsS : Str := PySem.Str.ofString "abcdefghijklmnopqrstuvwxyz0123456789"
def isW (w : Str) : Bool := decide (1 ≤ w.length) && decide (w.length ≤ 8) && (tl w).all fun c => decide (c ∈ tl smallS)
/-- all signs of a text are among those of another one -/
theorem ok_lcIn {w z : Str} {ρ : DL.Env} {Q : Sl → DL.Env → Prop} {gi : M D} {vs : Nat} (h : w.length ≤ 16777216)
    (hg : Ok gi ρ fun d ρ1 => d = .str w ∧ vs < ρ1.length ∧ ρ1[vs]? = some none ∧ ∀ s, allD [frz s] = some (.bl ((tl w).all fun c => decide (c ∈ tl z))) → Q s ρ1) :
    Ok (mLc [vs] (mItems itemsS gi) (tgName vs) (M.pure true) (mOD (mOp2 inD (mVar vs) (mC (.str z))))) ρ Q := by
  refine ok_lcOver (tl w) (fun c => .str ⟨#[c]⟩) (fun c => .d (.bl (decide (c ∈ tl z)))) ?_
  rw [ok_items]
  refine hg.imp fun d ρ1 ⟨e, hl, hn, q⟩ => ?_
  subst e
  refine ⟨_, rfl, rfl, ?_, by simpa [Str.length] using h, fun c _ => ⟨_, tgName_set (by simpa [wipeE] using hl), ?_⟩, ?_⟩
  · simp [plainAt, hn]
  · rw [ok_OD, ok_op2, ok_var (d := .str ⟨#[c]⟩) (by simp [wipeE, hl])]
    rw [ok_C]
    refine ⟨_, in_char, rfl, ?_⟩
    simp [wipeE]
  · have e3 : backE ρ1 (wipeE ρ1 [vs]) [vs] = ρ1 := by
      simp only [backE, wipeE, List.set_set, hn, Option.getD_some]
      exact set_get hn
    rw [e3]
    refine q _ ?_
    rw [frz_ol, frzL_map, all_map]
    simp
theorem is_word_eq {w : Str} (h : w.length ≤ 16777216) : m_is_word [some (.d (.str w))] = .ok (.d (.bl (isW w))) [none] := by
  refine ok_det (ok_runF rfl ?_)
  unfold b_is_word_
  bv_omega
  rw [len_str h]
  bv_omega
  unfold isW
  split
  · rename_i h1
    split
    · rename_i h2
      have h3 : ¬ w.length ≤ 8 := by simp at h2; omega
      simp [h3]
    · rename_i h2
      have h3 : w.length ≤ 8 := by simp at h2; omega
      refine ok_lcIn h ?_
      bv_omega
      refine ⟨rfl, fun s e => ⟨_, e, ?_⟩⟩
      have h1 : 1 ≤ w.length := by omega
      simp [h1, h3, smallS]
  · rename_i h1
    have h1 : ¬ 1 ≤ w.length := by omega
    simp [h1]
def isA (a : Str) : Bool := decide (1 ≤ a.length) && decide (a.length ≤ 12) && ((tl a).head?.any fun c => decide (c ∈ tl smallS)) && (tl a).all fun c => decide (c ∈ tl signsS)
theorem is_answer_eq {w : Str} (h : w.length ≤ 16777216) : m_is_answer [some (.d (.str w))] = .ok (.d (.bl (isA w))) [none] := by
  refine ok_det (ok_runF rfl ?_)
  unfold b_is_answer_
  bv_omega
  rw [len_str h]
  bv_omega
  unfold isA
  split
  · rename_i h1
    have h1 : 1 ≤ w.length := by omega
    split
    · rename_i h2
      have h3 : ¬ w.length ≤ 12 := by simp at h2; omega
      simp [h3]
    · rename_i h2
      have h3 : w.length ≤ 12 := by simp at h2; omega
      obtain ⟨c, r, e⟩ : ∃ c r, tl w = c :: r := by
        cases q : tl w with
        | nil =>
          have z : w.length = (tl w).length := by simp [Str.length]
          rw [z, q] at h1; simp at h1
        | cons c r => exact ⟨c, r, rfl⟩
      have hix : ixD (.str w) (.int 0) = some (.str ⟨#[c]⟩) := ix_str (i := 0) (c := c) h (by rw [e]; rfl)
      rw [hix]
      bv_omega
      by_cases hc : c ∈ tl smallS
      · have hc' : c ∈ tl (Str.ofString "abcdefghijklmnopqrstuvwxyz") := hc
        simp only [hc', decide_true, Bool.not_true, Bool.false_eq_true, if_false]
        refine ok_lcIn h ?_
        bv_omega
        refine ⟨rfl, fun s e2 => ⟨_, e2, ?_⟩⟩
        have hc2 : c ∈ smallS.cps := by simpa using hc
        simp [h1, h3, e, hc2, signsS]
      · have hc' : ¬ c ∈ tl (Str.ofString "abcdefghijklmnopqrstuvwxyz") := hc
        simp only [hc', decide_false, Bool.not_false, if_true]
        have hc2 : ¬ c ∈ smallS.cps := by simpa using hc
        simp [e, hc2]
  · rename_i h1
    have h1 : ¬ 1 ≤ w.length := by omega
    simp [h1]
theorem is_integer_int {i : Int} : m_is_integer [some (.d (.int i))] = .ok (.d (.bl true)) [none] := by
  refine ok_det (ok_runF rfl ?_)
  unfold b_is_integer_
  bv_omega
theorem is_number_int {i n : Int} : m_is_number_checks [some (.d (.int i)), some (.d (.int n))] = .ok (.d (.bl (decide (0 ≤ i ∧ i < n)))) [none, none] := by
  refine ok_det (ok_runF rfl ?_)
  unfold b_is_number_checks_
  bv_omega
  simp only [ok_eq is_integer_int]
  bv_omega
  split <;> simp [*]
theorem is_row_lst {l : List D} {n : Int} : m_is_row [some (.d (.lst l)), some (.d (.int n))] = .ok (.d (.bl (decide ((l.length : Int) = n)))) [none, none] := by
  refine ok_det (ok_runF rfl ?_)
  unfold b_is_row_
  bv_omega
theorem is_row_tup {l : List D} {n : Int} : m_is_row [some (.d (.tup l)), some (.d (.int n))] = .ok (.d (.bl (decide ((l.length : Int) = n)))) [none, none] := by
  refine ok_det (ok_runF rfl ?_)
  unfold b_is_row_
  bv_omega
theorem isW_len {w : Str} (h : isW w = true) : 1 ≤ w.length ∧ w.length ≤ 8 := by
  unfold isW at h
  simp only [Bool.and_eq_true, decide_eq_true_eq] at h
  exact h.1
theorem nodup_take {ws : List Str} {i : Nat} {w : Str} (hd : ws.Nodup) (h : ws[i]? = some w) : ¬ w ∈ ws.take i := by
  intro z
  obtain ⟨j, hj, e⟩ := List.mem_iff_getElem.mp z
  obtain ⟨hi, e2⟩ := List.getElem?_eq_some_iff.mp h
  rw [List.length_take] at hj
  rw [List.getElem_take] at e
  exact List.pairwise_iff_getElem.mp hd j i (by omega) hi (by omega) (e.trans e2.symm)
theorem wrong_word_ok {ws : List Str} (h : ∀ w ∈ ws, isW w = true) (hd : ws.Nodup) (h0 : ws ≠ []) : m_wrong_word [some (.d (.lst (ws.map .str)))] = .ok (.d .non) [none] := by
  refine ok_det (ok_runF rfl ?_)
  unfold b_wrong_word_
  bv_omega
  refine okS_enum (fun i ρ => ∃ o1 o2, ρ = [some (.d (.lst (ws.map .str))), o1, o2]) ?_ ⟨_, _, rfl⟩ ?_
  · rintro i d ρ e ⟨o1, o2, rfl⟩
    rw [List.getElem?_map] at e
    obtain ⟨w, ew, rfl⟩ : ∃ w, ws[i]? = some w ∧ d = .str w := by
      cases q : ws[i]? with
      | none => rw [q] at e; cases e
      | some w => rw [q] at e; cases e; exact ⟨w, rfl, rfl⟩
    refine ⟨_, tgt2 (by simp) (by simp), ?_⟩
    have hw := h w (List.mem_of_getElem? ew)
    have hl := isW_len hw
    have hi : i ≤ (ws.map D.str).length := by
      have := (List.getElem?_eq_some_iff.mp ew).1
      simp; omega
    bv_omega
    rw [ok_eq (is_word_eq (by omega)), hw, cutD_take hi, ← List.map_take, in_strs]
    have nt := nodup_take hd ew
    bv_omega
    simp only [nt, decide_false, Bool.false_eq_true, if_false]
    exact ⟨_, _, rfl⟩
  · rintro ρ ⟨o1, o2, rfl⟩
    bv_omega
    have : 0 < ws.length := List.length_pos_iff.mpr h0
    simp [this]
theorem check_letters_ok {ws : List Str} (h : ∀ w ∈ ws, isW w = true) (hd : ws.Nodup) (h0 : ws ≠ []) (hl : ws.length ≤ 3) : m_check_letters [some (.d (.lst (ws.map .str)))] = .ok (.d .non) [none] := by
  refine ok_det (ok_runF rfl ?_)
  unfold b_check_letters_
  bv_omega
  rw [ok_eq (wrong_word_ok h hd h0)]
  bv_omega
  have : ¬ 3 < (ws.length : Int) := by omega
  simp [this]
theorem isA_len {w : Str} (h : isA w = true) : 1 ≤ w.length ∧ w.length ≤ 12 := by
  unfold isA at h
  simp only [Bool.and_eq_true, decide_eq_true_eq] at h
  exact h.1.1
theorem map_get {α β : Type} {f : α → β} {l : List α} {i : Nat} {d : β} (h : (l.map f)[i]? = some d) : ∃ a, l[i]? = some a ∧ d = f a := by
  rw [List.getElem?_map] at h
  cases q : l[i]? with
  | none => rw [q] at h; cases h
  | some a => rw [q] at h; cases h; exact ⟨a, rfl, rfl⟩
structure OkWs (ws : List Str) : Prop where
  one : ws ≠ []
  most : ws.length ≤ 3
  nd : ws.Nodup
  all : ∀ w ∈ ws, isW w = true
/-! ### texts -/
theorem str_assoc (a b c : Str) : a ++ b ++ c = a ++ (b ++ c) := TL.ext_tl (by rw [TL.tl_append, TL.tl_append, TL.tl_append, TL.tl_append, List.append_assoc])
theorem len_app (a b : Str) : (a ++ b).length = a.length + b.length := by rw [TL.len_tl, TL.tl_append, List.length_append, ← TL.len_tl, ← TL.len_tl]
theorem len_join (y : Str) : ∀ l : List Str, (Str.join y l).length ≤ (l.map (·.length)).sum + l.length * y.length
  | [] => by simp [Str.join, Str.empty, Str.length]
  | [x] => by simp [Str.join]
  | x :: z :: r => by
    have ih := len_join y (z :: r)
    show (x ++ y ++ Str.join y (z :: r)).length ≤ _
    rw [len_app, len_app]
    simp only [List.map_cons, List.sum_cons, List.length_cons, Nat.add_mul, Nat.one_mul] at ih ⊢
    omega
theorem sum_le {l : List Str} {k : Nat} (h : ∀ x ∈ l, x.length ≤ k) : (l.map (·.length)).sum ≤ l.length * k := by
  induction l with
  | nil => simp
  | cons x l ih =>
    have h1 := h x List.mem_cons_self
    have h2 := ih fun z hz => h z (List.mem_cons_of_mem _ hz)
    simp only [List.map_cons, List.sum_cons, List.length_cons, Nat.add_mul, Nat.one_mul]
    omega
theorem len_join' {y : Str} {l : List Str} {k : Nat} (h : ∀ x ∈ l, x.length ≤ k) : (Str.join y l).length ≤ l.length * (k + y.length) := by
  have a := len_join y l
  have b := sum_le h
  rw [Nat.mul_add]; omega
theorem join_ok {y : Str} {l : List Str} {k : Nat} (h : ∀ x ∈ l, x.length ≤ k) (hb : l.length * (k + y.length) ≤ 16777216) : joinD (.str y) (.lst (l.map .str)) = some (.str (Str.join y l)) := by
  unfold joinD
  simp only [textsOf_map, Option.bind_some]
  have b := sum_le h
  rw [Nat.mul_add] at hb
  rw [if_pos (by omega), ← TL.join_eq]
theorem join_cons {y x : Str} {l : List Str} (h : l ≠ []) : Str.join y (x :: l) = x ++ y ++ Str.join y l := by
  cases l with
  | nil => exact absurd rfl h
  | cons z r => rfl
theorem add_str {a b : Str} (h : a.length + b.length ≤ 16777216) : addD (.str a) (.str b) = some (.str (a ++ b)) := if_pos (decide_eq_true h)
def natS (n : Nat) : Str := Str.ofString (toString (n : Int))
theorem natS_len {n : Nat} (h : n < 10 ^ 9) : (natS n).length ≤ 9 := by
  unfold natS
  rw [TL.len_tl, TL.tl_num]
  exact TL.numL_len (by decide) h
theorem str_nat {n : Nat} (h : n < 2 ^ 40) : strD [.int (n : Int)] = some (.str (natS n)) := by
  have b : bits (n : Int) < 40 := bits_lt (n := 40) (by omega) (by exact_mod_cast h) (by omega)
  exact if_pos (by omega)
theorem fmt_nat {n : Nat} (h : n < 2 ^ 40) : fmtD (.int (n : Int)) = some (.str (natS n)) := by
  have b : bits (n : Int) < 40 := bits_lt (n := 40) (by omega) (by exact_mod_cast h) (by omega)
  exact if_pos (by omega)
def sp : Str := Str.ofString " "
def nl : Str := Str.ofString "\n"
/-! ### writing -/
theorem frzL_strs (l : List Str) : frzL (l.map fun x => .d (.str x)) = l.map .str := frzL_map _ _
theorem okws_le {ws : List Str} (h : OkWs ws) : ∀ x ∈ ws, x.length ≤ 8 := fun x hx => (isW_len (h.all x hx)).2
theorem head1_le {ws : List Str} (h : OkWs ws) : ∀ x ∈ Str.ofString "letters" :: ws, x.length ≤ 8 := fun x hx => by
  rcases List.mem_cons.mp hx with rfl | hx
  · decide +kernel
  · exact okws_le h x hx
theorem okV_F {ρ : DL.Env} {i : Nat} {Q : D → DL.Env → Prop} {s : Sl} (h : ρ[i]? = some (some s)) : Ok (mVar i) ρ Q = Q (frz s) (ρ.set i (some (.d (frz s)))) := by
  unfold Ok mVar
  rw [h]
  cases s with
  | d x =>
    show Q x ρ = Q (frz (.d x)) (ρ.set i (some (.d (frz (.d x)))))
    have e : ρ.set i (some (.d (frz (.d x)))) = ρ := set_get (by rw [h]; rfl)
    rw [e]; rfl
  | _ => rfl
theorem map_dstr (l : List Str) : (l.map D.str).map Sl.d = l.map fun x => .d (.str x) := by rw [List.map_map]; rfl
theorem mkLst_ok {l : List Sl} (h : l.length ≤ 16777216) : mkLst l = some (.ol l) := if_pos (decide_eq_true h)
/-! ### reading: lines and their words -/
def lineO (n : Int) (ws : List Str) (a : Nat) : Sl := .oi (Str.ofString "Line") [(Str.ofString "number", .d (.int n)), (Str.ofString "words", .d (.lst (ws.map .str))), (Str.ofString "at", .d (.int (a : Nat)))]
def linesO (rows : List Str) (k : Nat) : Sl := .oi (Str.ofString "Lines") [(Str.ofString "rows", .d (.lst (rows.map .str))), (Str.ofString "done", .d (.int (k : Nat)))]
section
variable {n : Int} {ws rows : List Str} {a k : Nat} {ρ : DL.Env} {Q : D → DL.Env → Prop} {N : DL.Env → Prop} {R : Sl → DL.Env → Prop}
theorem line_words : Ok (mAttrV [Str.ofString "Line"] (Str.ofString "words") 0) (some (lineO n ws a) :: ρ) Q = Q (.lst (ws.map .str)) (some (lineO n ws a) :: ρ) := rfl
theorem line_at : Ok (mAttrV [Str.ofString "Line"] (Str.ofString "at") 0) (some (lineO n ws a) :: ρ) Q = Q (.int (a : Nat)) (some (lineO n ws a) :: ρ) := rfl
theorem lines_rows : Ok (mAttrV [Str.ofString "Lines"] (Str.ofString "rows") 0) (some (linesO rows k) :: ρ) Q = Q (.lst (rows.map .str)) (some (linesO rows k) :: ρ) := rfl
theorem lines_done : Ok (mAttrV [Str.ofString "Lines"] (Str.ofString "done") 0) (some (linesO rows k) :: ρ) Q = Q (.int (k : Nat)) (some (linesO rows k) :: ρ) := rfl
theorem line_inc : attrAddP [Str.ofString "Line"] (Str.ofString "at") 0 1 (some (lineO n ws a) :: ρ) N R = N (some (lineO n ws (a + 1)) :: ρ) := rfl
theorem lines_inc : attrAddP [Str.ofString "Lines"] (Str.ofString "done") 0 1 (some (linesO rows k) :: ρ) N R = N (some (linesO rows (k + 1)) :: ρ) := rfl
theorem line_is {m : Str} (h : m ∉ [Str.ofString "number", Str.ofString "words", Str.ofString "at"]) : isIns (Str.ofString "Line") m (lineO n ws a) = true := by
  have z : ([Str.ofString "number", Str.ofString "words", Str.ofString "at"] : List Str).contains m = false := by simpa using h
  show (decide (Str.ofString "Line" = Str.ofString "Line") && !([Str.ofString "number", Str.ofString "words", Str.ofString "at"] : List Str).contains m) = true
  rw [z]; simp
theorem lines_is {m : Str} (h : m ∉ [Str.ofString "rows", Str.ofString "done"]) : isIns (Str.ofString "Lines") m (linesO rows k) = true := by
  have z : ([Str.ofString "rows", Str.ofString "done"] : List Str).contains m = false := by simpa using h
  show (decide (Str.ofString "Lines" = Str.ofString "Lines") && !([Str.ofString "rows", Str.ofString "done"] : List Str).contains m) = true
  rw [z]; simp
end
theorem is_done_eq {n : Int} {ws : List Str} {a : Nat} : m_Line_is_done [some (lineO n ws a)] = .ok (.d (.bl (decide (ws.length ≤ a)))) [some (lineO n ws a)] := by
  refine ok_det (ok_runF rfl ?_)
  unfold b_Line_is_done_
  bv_omega
  simp only [line_words, line_at]
  bv_omega
  simp [keepIO]
theorem ix_strs {l : List Str} {i : Nat} {w : Str} (h : l[i]? = some w) : ixD (.lst (l.map .str)) (.int (i : Nat)) = some (.str w) := L2.atI_nat (by rw [List.getElem?_map, h]; rfl)
theorem take_eq {n : Int} {ws : List Str} {a : Nat} {w : Str} {φ : D → Option Bool} (hw : ws[a]? = some w) (hφ : φ (.str w) = some true) :
    m_Line_take φ [some (lineO n ws a), none] = .ok (.d (.str w)) [some (lineO n ws (a + 1)), none] := by
  have ha : ¬ ws.length ≤ a := by have := (List.getElem?_eq_some_iff.mp hw).1; omega
  refine ok_det (ok_runF rfl ?_)
  unfold bAsk g1_Line_take ga_Line_take k_Line_take
  bv_omega
  rw [ok_methIO (t := lineO n ws a) rfl (line_is (by simp [ofStr_inj]))]
  bv_omega
  simp only [ok_eq is_done_eq, ha, decide_false]
  bv_omega
  simp only [ok_ask, ok_op2, line_words, line_at, ix_strs hw, shift, List.map_nil, putBack_0]
  bv_omega
  simp only [line_words, line_at, ix_strs hw, hφ]
  bv_omega
  simp only [Option.map_some, okS_attrAddC, line_inc]
  bv_omega
  simp only [line_words, line_at]
  bv_omega
  have e : ((a + 1 : Nat) : Int) - 1 = (a : Nat) := by omega
  rw [e, ix_strs hw, hφ]
  simp only [Option.map_some]
  bv_omega
/-- a word is taken from a line -/
theorem ok_take {n : Int} {ws : List Str} {a : Nat} {w : Str} {i : Nat} {js : List Nat} {φ : List (Option D) → D → Option Bool} {ρ : DL.Env} {Q : Sl → DL.Env → Prop} (h : ρ[i]? = some (some (lineO n ws a))) (hw : ws[a]? = some w)
    (hφ : φ (js.map fun j => capD ρ[j]?) (.str w) = some true) (q : Q (.d (.str w)) (ρ.set i (some (lineO n ws (a + 1))))) : Ok (mAskM (Str.ofString "Line") (Str.ofString "take") m_Line_take i js φ) ρ Q := by
  refine ok_askM h (line_is (by simp [ofStr_inj])) ?_
  rw [ok_eq (take_eq hw hφ), putBack_0, List.set_set]
  exact q
theorem take_head_eq {n : Int} {ws : List Str} {a : Nat} {w : Str} (hw : ws[a]? = some w) (hs : SOk w) :
    m_Line_take_head [some (lineO n ws a), some (.d (.str w))] = .ok (.d .non) [some (lineO n ws (a + 1)), none] := by
  refine ok_det (ok_runF rfl ?_)
  unfold b_Line_take_head_
  bv_omega
  refine ok_take rfl hw (phiOf_eq ?_) ?_
  · unfold l_Line_take_head_0 lamEnv0
    simp only [capD, List.map_cons, List.map_nil, List.getElem?_cons_succ, List.getElem?_cons_zero, Option.map_some, frz_d]
    bv_omega
    exact ⟨_, eqD_same (Cmp.str hs), rfl⟩
  · bv_omega
theorem close_eq {n : Int} {ws : List Str} {a : Nat} (h : ws.length ≤ a) : m_Line_close [some (lineO n ws a)] = .ok (.d .non) [some (lineO n ws a)] := by
  refine ok_det (ok_runF rfl ?_)
  unfold b_Line_close_
  bv_omega
  rw [ok_methIO (t := lineO n ws a) rfl (line_is (by simp [ofStr_inj]))]
  bv_omega
  simp only [ok_eq is_done_eq, h, decide_true, shift, List.map_nil, putBack_0]
  bv_omega
/-! numbers in a text -/
def digS : Str := Str.ofString "0123456789"
def isNum (w : Str) : Bool := !decide (w = Str.ofString "") && decide (w.length ≤ 4) && (tl w).all (fun c => decide (c ∈ tl digS)) && (decide (w = Str.ofString "0") || !((tl w).head?.any fun c => decide (c = 48)))
theorem isNum_nat : ∀ k : Nat, k < 32 → isNum (natS k) = true := by decide +kernel
theorem natS_vis (n : Nat) : Vis (natS n) := vis_num n
theorem int_nat {n : Nat} (h : n < 10 ^ 9) : intD [.str (natS n)] = some (.int n) := by
  have hl := natS_len h
  show (if (natS n).length ≤ 640 then (PySem.intText? (natS n)).map D.int else none) = _
  rw [if_pos (by omega)]
  have e : PySem.intText? (natS n) = some (n : Int) := TL.int_num (by
    have := TL.numL_len (n := n) (k := 9) (by decide) h
    omega)
  rw [e]; rfl
theorem is_num_eq {w : Str} (h : w.length ≤ 16777216) (hs : SOk w) : m_is_number_texts [some (.d (.str w))] = .ok (.d (.bl (isNum w))) [none] := by
  have s0 : SOk (Str.ofString "") := (vis_of (by decide +kernel)).sok
  have s1 : SOk (Str.ofString "0") := (vis_of (by decide +kernel)).sok
  refine ok_det (ok_runF rfl ?_)
  unfold b_is_number_texts_
  bv_omega
  rw [eqD_str hs s0]
  bv_omega
  rw [len_str h]
  bv_omega
  unfold isNum
  by_cases h1 : w = Str.ofString ""
  · simp [h1]
  · simp only [h1, if_false]
    by_cases h2 : w.length ≤ 4
    · have h2' : ¬ (4 : Int) < w.length := by omega
      simp only [h2', if_false]
      refine ok_lcIn h ?_
      bv_omega
      refine ⟨rfl, fun s e => ⟨_, e, ?_⟩⟩
      bv_omega
      obtain ⟨c, r, ec⟩ : ∃ c r, tl w = c :: r := by
        cases q : tl w with
        | nil => exact absurd (TL.ext_tl (x := w) (y := Str.ofString "") (by rw [q]; rfl)) h1
        | cons c r => exact ⟨c, r, rfl⟩
      have hix : ixD (.str w) (.int 0) = some (.str ⟨#[c]⟩) := ix_str (i := 0) (c := c) h (by rw [ec]; rfl)
      have sc : SOk ⟨#[c]⟩ := fun x hx => by
        have hx : x = c := by simpa [tl] using hx
        subst hx
        exact hs x (by rw [ec]; simp)
      have e48 : ((⟨#[c]⟩ : Str) = Str.ofString "0") = (c = 48) := propext ⟨fun z => by
        have z := congrArg tl z
        have z2 : tl (Str.ofString "0") = [48] := by decide +kernel
        rw [z2] at z
        simpa [tl] using z, fun z => by subst z; decide +kernel⟩
      rw [eqD_str hs s1, hix]
      bv_omega
      rw [neD_str sc s1]
      bv_omega
      have ed : digS = Str.ofString "0123456789" := rfl
      rw [← ed]
      have eh : ((tl w).head?.any fun c => decide (c = 48)) = decide (c = 48) := by rw [ec]; rfl
      rw [eh]
      generalize ((tl w).all fun c => decide (c ∈ tl digS)) = A
      simp only [e48]
      have l0 : (Str.ofString "0").length ≤ 4 := by decide +kernel
      cases A <;> by_cases h4 : w = Str.ofString "0" <;> by_cases h5 : c = 48 <;> simp [h2, h4, h5, l0]
    · have h2' : (4 : Int) < w.length := by omega
      simp [h2, h2']
theorem take_number_eq {n : Int} {ws : List Str} {a : Nat} {k : Nat} {lo hi : Int} (hw : ws[a]? = some (natS k)) (h1 : lo ≤ k) (h2 : k ≤ hi) (h3 : k < 32) :
    m_Line_take_number [some (lineO n ws a), some (.d (.int lo)), some (.d (.int hi))] = .ok (.d (.int k)) [some (lineO n ws (a + 1)), none, none] := by
  refine ok_det (ok_runF rfl ?_)
  unfold b_Line_take_number_
  bv_omega
  refine ok_take rfl hw (phiOf_eq ?_) ?_
  · unfold l_Line_take_number_0 lamEnv0
    simp only [capD, List.map_cons, List.map_nil, List.getElem?_cons_succ, List.getElem?_cons_zero, Option.map_some, frz_d]
    bv_omega
    have hl := natS_len (n := k) (by omega)
    rw [ok_eq (is_num_eq (by omega) (natS_vis k).sok), isNum_nat k h3]
    bv_omega
    rw [int_nat (by omega)]
    bv_omega
    rw [if_pos h1]
    simp [h2]
  · bv_omega
    rw [int_nat (by omega)]
    bv_omega
/-! ### reading: the lines of a shape -/
theorem isW_vis {w : Str} (h : isW w = true) : Vis w := by
  unfold isW at h
  simp only [Bool.and_eq_true] at h
  intro c hc
  have := List.all_eq_true.mp h.2 c hc
  have hm : c ∈ tl smallS := of_decide_eq_true this
  have key : ∀ x ∈ tl smallS, 33 ≤ x ∧ x < 127 := by decide +kernel
  exact key c hm
theorem isA_vis {w : Str} (h : isA w = true) : Vis w := by
  unfold isA at h
  simp only [Bool.and_eq_true] at h
  intro c hc
  have := List.all_eq_true.mp h.2 c hc
  have hm : c ∈ tl signsS := of_decide_eq_true this
  have key : ∀ x ∈ tl signsS, 33 ≤ x ∧ x < 127 := by decide +kernel
  exact key c hm
theorem take_letters_eq {n : Int} {ws : List Str} {hd : Str} (hs : SOk hd) (hw : OkWs ws) :
    m_take_letters [some (lineO n (hd :: ws) 0), some (.d (.str hd))] = .ok (.ol (ws.map fun w => .d (.str w))) [some (lineO n (hd :: ws) (ws.length + 1)), none] := by
  refine ok_det (ok_runF rfl ?_)
  unfold b_take_letters_
  bv_omega
  rw [ok_methIO (t := lineO n (hd :: ws) 0) rfl (line_is (by simp [ofStr_inj]))]
  bv_omega
  rw [ok_eq (take_head_eq (w := hd) rfl hs)]
  simp only [shift, List.map_nil, putBack_0]
  bv_omega
  refine ⟨_, rfl, ?_⟩
  have h4 := hw.most
  refine okS_while (fun k ρ => ∃ j, j ≤ ws.length ∧ k = ws.length - j ∧ ρ = [some (lineO n (hd :: ws) (j + 1)), some (.d (.str hd)), some (.ol ((ws.take j).map fun w => .d (.str w)))]) ?_ (n := ws.length) (by unfold fuel; omega) ⟨0, by omega, by omega, rfl⟩
  rintro k ρ ⟨j, hj, rfl, rfl⟩
  bv_omega
  refine ok_peekT ?_
  simp only [frzE, List.map_cons, List.map_nil, Option.map_some, frz]
  bv_omega
  have cmp : ∀ d ∈ (ws.take j).map D.str, Cmp 63 d := fun d hd' => by
    obtain ⟨w, hw', rfl⟩ := List.mem_map.mp hd'
    exact Cmp.str (isW_vis (hw.all w (List.mem_of_mem_take hw'))).sok
  have step : ∀ {Q : Sl → DL.Env → Prop} (w : Str), ws[j]? = some w → Q (.d .non) [some (lineO n (hd :: ws) (j + 1 + 1)), some (.d (.str hd)), some (.ol ((ws.take (j + 1)).map fun w => .d (.str w)))] →
      Ok (mApp 2 (mAskM (Str.ofString "Line") (Str.ofString "take") m_Line_take 0 [2] (phiOf 0 l_take_letters_0))) [some (lineO n (hd :: ws) (j + 1)), some (.d (.str hd)), some (.ol ((ws.take j).map fun w => .d (.str w)))] Q := by
    intro Q w ew q
    have hww := hw.all w (List.mem_of_getElem? ew)
    have hlw := isW_len hww
    refine ok_app rfl (ok_take rfl (w := w) (by simpa using ew) (phiOf_eq ?_) ?_)
    · unfold l_take_letters_0 lamEnv0
      simp only [capD, List.map_cons, List.map_nil, List.getElem?_cons_succ, List.getElem?_cons_zero, Option.map_some, frz]
      bv_omega
      rw [ok_eq (is_word_eq (by omega)), hww]
      bv_omega
      rw [frzL_strs, notIn_strs]
      have nt := nodup_take hw.nd ew
      bv_omega
      have hl3 : (((ws.take j).map D.str).length : Int) < 3 := by
        have := (List.getElem?_eq_some_iff.mp ew).1
        simp only [List.length_map, List.length_take]
        omega
      simp only [nt, decide_false, Bool.not_false, if_true, hl3, decide_true]
    · refine ⟨_, rfl, by simp; omega, ?_⟩
      bv_omega
      rw [List.take_add_one, ew] at q
      simpa using q
  refine ⟨_, rfl, ?_⟩
  bv_omega
  rw [frzL_strs]
  simp only [show frzL [] = [] from rfl, eqD_nil cmp]
  bv_omega
  by_cases hz : (ws.take j).map D.str = []
  · simp only [hz, if_true]
    have hj0 : j = 0 := by
      rcases List.map_eq_nil_iff.mp hz with hz
      rcases List.take_eq_nil_iff.mp hz with h | h
      · exact h
      · exact absurd h hw.one
    subst hj0
    obtain ⟨w, ew⟩ : ∃ w, ws[0]? = some w := ⟨ws[0]'(List.length_pos_iff.mpr hw.one), List.getElem?_eq_getElem _⟩
    have := List.length_pos_iff.mpr hw.one
    exact step w ew ⟨ws.length - 1, by omega, 1, by omega, rfl, rfl⟩
  · simp only [hz, if_false]
    rw [ok_methIO (t := lineO n (hd :: ws) (j + 1)) rfl (line_is (by simp [ofStr_inj]))]
    bv_omega
    simp only [ok_eq is_done_eq, shift, List.map_nil, putBack_0]
    bv_omega
    by_cases hlt : j < ws.length
    · have e : decide (ws.length ≤ j) = false := decide_eq_false (by omega)
      rw [e]
      bv_omega
      obtain ⟨w, ew⟩ : ∃ w, ws[j]? = some w := ⟨ws[j], List.getElem?_eq_getElem _⟩
      exact step w ew ⟨ws.length - (j + 1), by omega, j + 1, by omega, rfl, rfl⟩
    · have ej : j = ws.length := by omega
      subst ej
      have e : decide (ws.length ≤ ws.length) = true := decide_eq_true (by omega)
      rw [e]
      bv_omega
      rw [List.take_length]
      bv_omega
theorem take_many_eq {n : Int} {hd : Str} {k : Nat} {most : Int} (hs : SOk hd) (h1 : 1 ≤ k) (h2 : k ≤ most) (h3 : k < 32) (hk : k < 32) :
    m_take_many [some (lineO n [hd, natS k] 0), some (.d (.str hd)), some (.d (.int most))] = .ok (.d (.int k)) [some (lineO n [hd, natS k] 2), none, none] := by
  refine ok_det (ok_runF rfl ?_)
  unfold b_take_many_
  bv_omega
  rw [ok_methIO (t := lineO n [hd, natS k] 0) rfl (line_is (by simp [ofStr_inj]))]
  bv_omega
  rw [ok_eq (take_head_eq (w := hd) rfl hs)]
  simp only [shift, List.map_nil, putBack_0]
  bv_omega
  rw [ok_methIO (t := lineO n [hd, natS k] 1) rfl (line_is (by simp [ofStr_inj]))]
  bv_omega
  rw [ok_eq (take_number_eq (k := k) rfl (by omega) h2 hk)]
  simp only [shift, List.map_nil, putBack_0]
  bv_omega
  rw [ok_methIO (t := lineO n [hd, natS k] 2) rfl (line_is (by simp [ofStr_inj]))]
  bv_omega
  rw [ok_eq (close_eq (by simp))]
  simp only [shift, List.map_nil, putBack_0]
  bv_omega
theorem okS_cut {s : SM} {ρ ρ' : DL.Env} {N : DL.Env → Prop} {R : Sl → DL.Env → Prop} (h : OkS s ρ (fun ρ2 => ρ2 = ρ') fun _ _ => False) (k : N ρ') : OkS s ρ N R := h.imp (fun ρ2 e => e ▸ k) fun _ _ z => z.elim
theorem max_ii {i j : Int} : max2D [.int i, .int j] = some (.int (if j > i then j else i)) := rfl
theorem min_ii {i j : Int} : min2D [.int i, .int j] = some (.int (if j < i then j else i)) := rfl
theorem tru_lst {l : List D} : truD (.lst l) = some !l.isEmpty := rfl
theorem tru_bl {b : Bool} : truD (.bl b) = some b := rfl
theorem neg_i {i : Int} : negD (.int i) = some (.int (-i)) := rfl
theorem ix_last {l : List D} {d : D} : ixD (.lst (l ++ [d])) (.int (-1)) = some d := atI_last l d
/-! ### reading a shape -/
section
variable {t : Sl} {u v : Sl} {ρ : DL.Env} {N : DL.Env → Prop}
theorem line_put1 : attrP [Str.ofString "Line"] (Str.ofString "number") 0 t (some (.oi (Str.ofString "Line") []) :: ρ) N = N (some (.oi (Str.ofString "Line") [(Str.ofString "number", t)]) :: ρ) := rfl
theorem line_put2 : attrP [Str.ofString "Line"] (Str.ofString "words") 0 t (some (.oi (Str.ofString "Line") [(Str.ofString "number", u)]) :: ρ) N = N (some (.oi (Str.ofString "Line") [(Str.ofString "number", u), (Str.ofString "words", t)]) :: ρ) := rfl
theorem line_put3 : attrP [Str.ofString "Line"] (Str.ofString "at") 0 t (some (.oi (Str.ofString "Line") [(Str.ofString "number", u), (Str.ofString "words", v)]) :: ρ) N = N (some (.oi (Str.ofString "Line") [(Str.ofString "number", u), (Str.ofString "words", v), (Str.ofString "at", t)]) :: ρ) := rfl
theorem lines_put1 : attrP [Str.ofString "Lines"] (Str.ofString "rows") 0 t (some (.oi (Str.ofString "Lines") []) :: ρ) N = N (some (.oi (Str.ofString "Lines") [(Str.ofString "rows", t)]) :: ρ) := rfl
theorem lines_put2 : attrP [Str.ofString "Lines"] (Str.ofString "done") 0 t (some (.oi (Str.ofString "Lines") [(Str.ofString "rows", u)]) :: ρ) N = N (some (.oi (Str.ofString "Lines") [(Str.ofString "rows", u), (Str.ofString "done", t)]) :: ρ) := rfl
end
theorem split_sp {x : Str} (h : x.length ≤ 1000000) : splitD (.str x) (.str (Str.ofString " ")) = some (.lst ((Txt.split x (Str.ofString " ")).map .str)) := by
  have e : ((Str.ofString " ").length == 0) = false := by decide +kernel
  exact if_pos ⟨e, decide_eq_true (by omega)⟩
theorem split_nl {x : Str} (h : x.length ≤ 1000000) : splitD (.str x) (.str (Str.ofString "\n")) = some (.lst ((Txt.split x (Str.ofString "\n")).map .str)) := by
  have e : ((Str.ofString "\n").length == 0) = false := by decide +kernel
  exact if_pos ⟨e, decide_eq_true (by omega)⟩
theorem Line_init_eq {n : Int} {x : Str} (h : x.length ≤ 1000000) : m_Line_init [some (.oi (Str.ofString "Line") []), some (.d (.int n)), some (.d (.str x))] = .ok (.d .non) [some (lineO n (Txt.split x (Str.ofString " ")) 0), none, none] := by
  refine ok_det (ok_runF rfl ?_)
  unfold b_Line_init_
  bv_omega
  simp only [line_put1]
  bv_omega
  rw [split_sp h]
  bv_omega
  simp only [line_put2]
  bv_omega
  simp only [line_put3]
  rfl
theorem Lines_init_eq {x : Str} (h : x.length ≤ 1000000) : m_Lines_init [some (.oi (Str.ofString "Lines") []), some (.d (.str x))] = .ok (.d .non) [some (linesO (Txt.split x (Str.ofString "\n")) 0), none] := by
  refine ok_det (ok_runF rfl ?_)
  unfold b_Lines_init_
  bv_omega
  rw [split_nl h]
  bv_omega
  simp only [lines_put1]
  bv_omega
  simp only [lines_put2]
  rfl
theorem next_line_eq {rows : List Str} {k : Nat} {l : List Str} {r : Str} (h : rows[k]? = some r) (hr : r = Str.join (Str.ofString " ") l) (hl : r.length ≤ 1000000) (hne : l ≠ []) (hv : ∀ x ∈ l, Vis x) :
    m_Lines_next_line [some (linesO rows k)] = .ok (lineO (k + 1 : Nat) l 0) [some (linesO rows (k + 1))] := by
  have hk := (List.getElem?_eq_some_iff.mp h).1
  refine ok_det (ok_runF rfl ?_)
  unfold b_Lines_next_line_
  bv_omega
  simp only [lines_rows, lines_done]
  bv_omega
  have hn : ¬ ((rows.map D.str).length : Int) ≤ k := by rw [List.length_map]; omega
  simp only [hn, if_false, okS_attrAddC, lines_inc]
  bv_omega
  rw [ok_makeE]
  bv_omega
  simp only [lines_rows, lines_done]
  bv_omega
  have e : ((k + 1 : Nat) : Int) - 1 = (k : Nat) := by omega
  rw [e, ix_strs h]
  bv_omega
  rw [ok_eq (Line_init_eq hl), hr, split_words hne hv]
  exact ⟨rfl, _, rfl, rfl, rfl⟩
theorem is_left_eq {rows : List Str} {k : Nat} : m_Lines_is_left [some (linesO rows k)] = .ok (.d (.bl (decide (k < rows.length)))) [some (linesO rows k)] := by
  refine ok_det (ok_runF rfl ?_)
  unfold b_Lines_is_left_
  bv_omega
  simp only [lines_rows, lines_done]
  bv_omega
  simp [keepIO]
/-! ### what is drawn -/
theorem tl_chars : ∀ l : List Nat, tl (Str.join (Str.ofString "") (l.map fun c => (⟨#[c]⟩ : Str))) = l := fun l => by
  have e : tl (Str.ofString "") = [] := by decide +kernel
  have key : ∀ l : List Nat, TL.joinL [] (l.map fun c => [c]) = l := by
    intro l
    induction l with
    | nil => rfl
    | cons a l ih =>
      cases l with
      | nil => rfl
      | cons b l =>
        show [a] ++ ([] ++ TL.joinL [] ((b :: l).map fun c => [c])) = _
        rw [ih]; rfl
  rw [TL.tl_join, e, List.map_map]
  exact key l
theorem small_ix {j : Int} (h0 : 0 ≤ j) (h1 : j < 26) : ∃ c, ixD (.str smallS) (.int j) = some (.str ⟨#[c]⟩) ∧ (tl smallS)[j.toNat]? = some c ∧ c ∈ tl smallS := by
  have e : (tl smallS).length = 26 := by decide +kernel
  have hj : j.toNat < (tl smallS).length := by omega
  obtain ⟨n, rfl⟩ := Int.eq_ofNat_of_zero_le h0
  refine ⟨(tl smallS)[n]'(by simpa using hj), ?_, ?_, List.getElem_mem _⟩
  · exact ix_str (by decide +kernel) (List.getElem?_eq_getElem _)
  · simp
theorem small_nd : (tl smallS).Nodup := by decide +kernel
/-- a word of small letters -/
def Sm (x : Str) : Prop := ∀ c ∈ tl x, c ∈ tl smallS
theorem isW_of {x : Str} (h : Sm x) (h1 : 1 ≤ x.length) (h2 : x.length ≤ 8) : isW x = true := by
  unfold isW
  simp only [Bool.and_eq_true, decide_eq_true_eq]
  exact ⟨⟨h1, h2⟩, List.all_eq_true.mpr fun c hc => decide_eq_true (h c hc)⟩
/-- signs picked from the small ones, as a text -/
theorem stem_ok {k : Int} {t : Sl} {size : Nat} {o1 o4 o6 o7 o8 o9 o10 : Option Sl} (h : Pen k t) (hk : k < 2 ^ 38) (hs : size ≤ 8) (h0 : 0 < size) {Q : Sl → DL.Env → Prop}
    (q : ∀ t2 (l : List Nat), Pen (k + 10) t2 → l.length ≤ 7 → (∀ c ∈ l, c ∈ tl smallS) → Q (.ol ((l.map fun c => (⟨#[c]⟩ : Str)).map fun x => .d (.str x))) [some t2, o1, some (.d (.int size)), some (.d (.str smallS)), o4, none, o6, o7, o8, o9, o10]) :
    Ok (mLc [5] (mItemsN rng1 (mCons (mFz (mCall 2 m__law_draw [(0, 0)] (mCons (mMove 0) (mCons (mOD (mVar 2)) mNil)))) mNil)) (tgName 5) (M.pure true) (mCall 2 m__law_pick [(0, 0)] (mCons (mMove 0) (mCons (mOD (mVar 3)) mNil))))
      [some t, o1, some (.d (.int size)), some (.d (.str smallS)), o4, none, o6, o7, o8, o9, o10] Q := by
  refine ok_lc (fun l acc ρ => ∃ (t2 : Sl) (cs : List Nat), l.length + cs.length ≤ 7 ∧ acc = (cs.map fun c => (⟨#[c]⟩ : Str)).map (fun x => .d (.str x)) ∧ (∀ c ∈ cs, c ∈ tl smallS) ∧ Pen (k + 1 + cs.length) t2 ∧ ρ = [some t2, o1, some (.d (.int size)), some (.d (.str smallS)), o4, none, o6, o7, o8, o9, o10]) ?_ ?_
  · rintro d l acc ρ ⟨t2, cs, h1, rfl, h2, p, rfl⟩
    simp only [List.length_cons] at h1
    refine ⟨_, tgName_set (by simp), ?_⟩
    rw [ok_pure, if_pos rfl]
    bv_omega
    have elen : lenD [.str smallS] = some (.int (26 : Nat)) := by
      have e : smallS.length = 26 := by decide +kernel
      rw [len_str (by omega), e]
    refine (pick (P := fun d => ∃ c, d = .str ⟨#[c]⟩ ∧ c ∈ tl smallS) p (by omega) elen (by omega) (by omega) fun j a b => ?_).imp ?_
    · obtain ⟨c, e1, _, e2⟩ := small_ix a (by simpa using b)
      exact ⟨_, e1, c, rfl, e2⟩
    · rintro s ρf ⟨t3, d', rfl, rfl, p3, c, rfl, hc⟩
      simp only [putBack_0, wipeE]
      refine ⟨by simp; omega, t3, cs ++ [c], by simp; omega, by simp, fun x hx => ?_, ?_, rfl⟩
      · rcases List.mem_append.mp hx with hx | hx
        · exact h2 x hx
        · rw [List.mem_singleton] at hx; rw [hx]; exact hc
      · refine p3.le ?_
        simp only [List.length_append, List.length_cons, List.length_nil]
        omega
  · bv_omega
    refine (draw h (by omega) (m := size) (by omega) (by omega)).imp ?_
    rintro s ρf ⟨t2, n, rfl, rfl, p, a, b⟩
    simp only [putBack_0, frz_d, List.set]
    have hb : big62 n = true := by unfold big62; simp; omega
    refine ⟨DL.intsFrom 0 n.toNat, by unfold rng1; simp only [hb, if_true], rfl, ⟨t2, [], ?_, rfl, by simp, p.le (by simp), rfl⟩, ?_⟩
    · rw [intsFrom_len]; simp only [List.length_nil]; omega
    · rintro acc ρ ⟨t3, cs, h1, rfl, h2, p3, rfl⟩
      exact q t3 cs (p3.le (by omega)) (by omega) h2
theorem rng_ok {n : Nat} (h : n < 2 ^ 60) : rng1 [.int (n : Int)] = some (DL.intsFrom 0 n) := by
  have hb : big62 (n : Int) = true := by unfold big62; simp; omega
  unfold rng1
  simp only [hb, if_true]
  simp
theorem sl_str {x : Str} {i j : Option Int} (h : x.length ≤ 16777216) : slD (.str x) i j = some (.str (cutS x i j)) := by
  have z : lineOk x.length = true := decide_eq_true h
  unfold slD
  simp only [z, if_true]
theorem cut_take {x : Str} {k : Nat} : tl (cutS x none (some (k : Int))) = (tl x).take k := by
  unfold cutS
  rw [HT.sIx_none, HT.sIx_nat]
  show ((tl x).drop 0).take (min k x.length - 0) = _
  rw [List.drop_zero, Nat.sub_zero, TL.len_tl]
  rcases Nat.le_total k (tl x).length with h | h
  · rw [Nat.min_eq_left h]
  · rw [Nat.min_eq_right h, List.take_length, List.take_of_length_le h]
theorem cut_drop {x : Str} {k : Nat} : tl (cutS x (some (k : Int)) none) = (tl x).drop k := by
  unfold cutS
  rw [HT.sIx_none, HT.sIx_nat]
  show ((tl x).drop (min k x.length)).take (x.length - min k x.length) = _
  rw [TL.len_tl]
  rcases Nat.le_total k (tl x).length with h | h
  · rw [Nat.min_eq_left h, List.take_of_length_le (by simp)]
  · rw [Nat.min_eq_right h, List.drop_length, List.drop_eq_nil_of_le h, List.take_nil]
/-- the word of a letter: the stem with the letter in it -/
def wordS (stem : Str) (at_ : Nat) (c : Nat) : Str := cutS stem none (some (at_ : Int)) ++ ⟨#[c]⟩ ++ cutS stem (some (at_ : Int)) none
theorem wordS_tl {stem : Str} {a c : Nat} : tl (wordS stem a c) = (tl stem).take a ++ c :: (tl stem).drop a := by
  unfold wordS
  rw [TL.tl_append, TL.tl_append, cut_take, cut_drop, List.append_assoc]
  rfl
theorem wordS_inj {stem : Str} {a c d : Nat} (h : wordS stem a c = wordS stem a d) : c = d := by
  have e := congrArg tl h
  rw [wordS_tl, wordS_tl] at e
  have := List.append_cancel_left e
  simpa using this
theorem wordS_w {stem : Str} {a c : Nat} (h : Sm stem) (hl : stem.length ≤ 7) (hc : c ∈ tl smallS) : isW (wordS stem a c) = true := by
  have e : (wordS stem a c).length = stem.length + 1 := by
    rw [TL.len_tl, wordS_tl, TL.len_tl stem]
    simp only [List.length_append, List.length_cons, List.length_take, List.length_drop]
    omega
  refine isW_of (fun x hx => ?_) (by omega) (by omega)
  rw [wordS_tl] at hx
  rcases List.mem_append.mp hx with hx | hx
  · exact h x (List.mem_of_mem_take hx)
  · rcases List.mem_cons.mp hx with rfl | hx
    · exact hc
    · exact h x (List.mem_of_mem_drop hx)
/-- a pick of one of the items of what is frozen then -/
theorem pickF {k : Int} {t s0 : Sl} {it : D} {n : Nat} {P : D → Prop} (h : Pen k t) (hf : frz s0 = it) (hk : k < 2 ^ 40) (hl : lenD [it] = some (.int n)) (h0 : 0 < n) (h1 : (n : Int) < 2 ^ 40) (hi : ∀ j : Int, 0 ≤ j → j < n → ∃ d, ixD it (.int j) = some d ∧ P d) :
    Ok m__law_pick [some t, some s0] fun s ρ => ∃ t2 d, s = .d d ∧ ρ = [some t2, none] ∧ Pen (k + 1) t2 ∧ P d := by
  refine ok_runF rfl ?_
  unfold b__law_pick_
  bv_omega
  rw [ok_varF (s := s0) rfl]
  bv_omega
  rw [hf, hl]
  bv_omega
  refine (draw h hk (m := n) (by omega) h1).imp ?_
  rintro s ρf ⟨t2, j, rfl, rfl, p, a, b⟩
  obtain ⟨d, e, pd⟩ := hi j a b
  simp only [putBack_0, frz_d]
  exact ⟨d, e, t2, d, rfl, rfl, p, pd⟩
def paces : List Int := [1, 3, 5, 7, 9, 11]
theorem pace_ix {j : Int} (h0 : 0 ≤ j) (h1 : j < 6) : ∃ d, ixD (.lst [.int 1, .int 3, .int 5, .int 7, .int 9, .int 11]) (.int j) = some d ∧ ∃ q : Int, d = .int q ∧ (q = 1 ∨ q = 3 ∨ q = 5 ∨ q = 7 ∨ q = 9 ∨ q = 11) := by
  obtain ⟨n, rfl⟩ := Int.eq_ofNat_of_zero_le h0
  have hn : n < 6 := by omega
  match n, hn with
  | 0, _ => exact ⟨_, rfl, 1, rfl, by simp⟩
  | 1, _ => exact ⟨_, rfl, 3, rfl, by simp⟩
  | 2, _ => exact ⟨_, rfl, 5, rfl, by simp⟩
  | 3, _ => exact ⟨_, rfl, 7, rfl, by simp⟩
  | 4, _ => exact ⟨_, rfl, 9, rfl, by simp⟩
  | 5, _ => exact ⟨_, rfl, 11, rfl, by simp⟩
def unS : D → Str
  | .str x => x
  | _ => Str.empty
theorem perm_strs {ys : List D} {ws : List Str} (h : List.Perm ys (ws.map D.str)) : ∃ vs : List Str, ys = vs.map D.str ∧ List.Perm vs ws := by
  refine ⟨ys.map unS, ?_, ?_⟩
  · rw [List.map_map]
    have key : ∀ d ∈ ys, (D.str ∘ unS) d = d := fun d hd => by
      obtain ⟨w, _, rfl⟩ := List.mem_map.mp (h.subset hd)
      rfl
    rw [List.map_congr_left key, List.map_id']
  · have := h.map unS
    rwa [List.map_map, show unS ∘ D.str = id from rfl, List.map_id] at this
theorem words_ok {k : Int} {t : Sl} {many : Nat} (h : Pen k t) (hk : k < 2 ^ 37) (hm : many ≤ 3) :
    Ok m__law_words [some t, some (.d (.int many)), some (.d (.int 8))] fun s ρ => ∃ (t2 : Sl) (ws : List Str), s = .ol ((ws.map D.str).map .d) ∧ ρ = [some t2, none, none] ∧ Pen (k + 20) t2 ∧ ws.length = many ∧ ws.Nodup ∧ ∀ w ∈ ws, isW w = true := by
  refine ok_runF rfl ?_
  unfold b__law_words_
  bv_omega
  rw [show Str.ofString "abcdefghijklmnopqrstuvwxyz" = smallS from rfl]
  refine stem_ok (size := 8) h (by omega) (by omega) (by omega) fun t2 l p2 hl hs => ?_
  bv_omega
  rw [frzL_strs]
  have ej : joinD (.str (Str.ofString "")) (.lst ((l.map fun c => (⟨#[c]⟩ : Str)).map .str)) = some (.str (Str.join (Str.ofString "") (l.map fun c => (⟨#[c]⟩ : Str)))) := join_ok (k := 1) (fun x hx => by
    obtain ⟨c, _, rfl⟩ := List.mem_map.mp hx
    show 1 ≤ 1
    omega) (by
    have e : (Str.ofString "").length = 0 := by decide +kernel
    rw [e, List.length_map]; omega)
  rw [ej]
  generalize est : Str.join (Str.ofString "") (l.map fun c => (⟨#[c]⟩ : Str)) = stem
  have htl : tl stem = l := by rw [← est, tl_chars]
  have hsm : Sm stem := fun c hc => by rw [htl] at hc; exact hs c hc
  have hlen : stem.length ≤ 7 := by rw [TL.len_tl, htl]; exact hl
  bv_omega
  -- at, first
  refine okS_par ?_
  bv_omega
  rw [len_str (by omega)]
  bv_omega
  refine (draw p2 (by omega) (m := stem.length + 1) (by omega) (by omega)).imp ?_
  rintro s ρf ⟨t3, a, rfl, rfl, p3, a0, a1⟩
  simp only [putBack_0]
  bv_omega
  refine (draw p3 (by omega) (m := 26) (by omega) (by omega)).imp ?_
  rintro s ρf ⟨t4, f, rfl, rfl, p4, f0, f1⟩
  simp only [putBack_0]
  bv_omega
  refine ⟨_, _, _, rfl, rfl, ?_⟩
  obtain ⟨a, rfl⟩ := Int.eq_ofNat_of_zero_le a0
  refine ⟨_, rfl, ?_⟩
  refine (pickF (n := 6) p4 (it := .lst [.int 1, .int 3, .int 5, .int 7, .int 9, .int 11]) rfl (by omega) rfl (by omega) (by omega) fun j b0 b1 => pace_ix b0 (by simpa using b1)).imp ?_
  rintro s ρf ⟨t5, d, rfl, rfl, p5, q, rfl, hq⟩
  simp only [putBack_0]
  bv_omega
  refine ⟨_, rfl, ?_⟩
  bv_omega
  rw [rng_ok (n := many) (by omega)]
  bv_omega
  have sign : ∀ i : Nat, i < 3 → ∃ c, ixD (.str smallS) (.int ((f + q * (i : Nat)) % 26)) = some (.str ⟨#[c]⟩) ∧ (tl smallS)[((f + q * (i : Nat)) % 26).toNat]? = some c ∧ c ∈ tl smallS := fun i hi =>
    small_ix (Int.emod_nonneg _ (by omega)) (Int.emod_lt_of_pos _ (by omega))
  have signne : ∀ (i j c : Nat), i < 3 → j < 3 → i ≠ j → (tl smallS)[((f + q * (i : Nat)) % 26).toNat]? = some c → (tl smallS)[((f + q * (j : Nat)) % 26).toNat]? = some c → False := by
    intro i j c hi hj hij e1 e2
    have e : ((f + q * (i : Nat)) % 26).toNat = ((f + q * (j : Nat)) % 26).toNat := by
      obtain ⟨h1, h2⟩ := List.getElem?_eq_some_iff.mp e1
      obtain ⟨h3, h4⟩ := List.getElem?_eq_some_iff.mp e2
      rcases Nat.lt_trichotomy ((f + q * (i : Nat)) % 26).toNat ((f + q * (j : Nat)) % 26).toNat with z | z | z
      · exact absurd (h2.trans h4.symm) (List.pairwise_iff_getElem.mp small_nd _ _ h1 h3 z)
      · exact z
      · exact absurd (h4.trans h2.symm) (List.pairwise_iff_getElem.mp small_nd _ _ h3 h1 z)
    have g1 := Int.emod_nonneg (f + q * (i : Nat)) (by omega : (26 : Int) ≠ 0)
    have g2 := Int.emod_nonneg (f + q * (j : Nat)) (by omega : (26 : Int) ≠ 0)
    have e' : (f + q * (i : Nat)) % 26 = (f + q * (j : Nat)) % 26 := by omega
    rcases hq with rfl | rfl | rfl | rfl | rfl | rfl <;> omega
  refine okS_range (fun i ρ => ∃ (cs : List Nat) (o5 o10 : Option Sl), cs.length = i ∧ (∀ (j c : Nat), cs[j]? = some c → (tl smallS)[((f + q * (j : Nat)) % 26).toNat]? = some c) ∧ (∀ c ∈ cs, c ∈ tl smallS) ∧
    ρ = [some t5, some (.d (.int many)), some (.d (.int (8 : Nat))), some (.d (.str smallS)), some (.d (.str stem)), o5, some (.d (.int (a : Nat))), some (.d (.int f)), some (.d (.int q)), some (.ol ((cs.map (wordS stem a)).map fun x => .d (.str x))), o10]) ?_ ⟨[], _, _, rfl, by simp, by simp, rfl⟩ ?_
  · rintro i ρ hi ⟨cs, o5, o10, hc1, hc2, hc3, rfl⟩
    refine ⟨_, tgName_set (by simp), ?_⟩
    have hi3 : i < 3 := by omega
    obtain ⟨c, ix, g1, g2⟩ := sign i hi3
    have hq11 : 0 ≤ q ∧ q ≤ 11 := by omega
    bv_omega
    rw [mul_ii hq11.1 (by omega) (by omega) (by omega)]
    bv_omega
    rw [mod_ii (by omega), Int.zero_add]
    bv_omega
    rw [ix]
    refine ⟨_, rfl, ?_⟩
    refine ok_app rfl ?_
    bv_omega
    have l1 : (cutS stem none (some (a : Int))).length ≤ 7 := by
      rw [TL.len_tl, cut_take, List.length_take, ← TL.len_tl]; omega
    have l2 : (cutS stem (some (a : Int)) none).length ≤ 7 := by
      rw [TL.len_tl, cut_drop, List.length_drop, ← TL.len_tl]; omega
    have lc : (⟨#[c]⟩ : Str).length = 1 := rfl
    rw [sl_str (by omega), sl_str (by omega)]
    bv_omega
    refine ⟨_, add_str (by rw [lc]; omega), _, add_str (by rw [len_app, lc]; omega), _, rfl, ?_, cs ++ [c], some (.d (.int (i : Nat))), some (.d (.str ⟨#[c]⟩)), ?_, fun j c' e => ?_, fun x hx => ?_, ?_⟩
    · rw [List.length_map, List.length_map]; omega
    · simp [hc1]
    · rcases Nat.lt_or_ge j cs.length with z | z
      · rw [List.getElem?_append_left z] at e
        exact hc2 j c' e
      · rw [List.getElem?_append_right z] at e
        have hj : j - cs.length = 0 := by
          rcases Nat.eq_zero_or_pos (j - cs.length) with y | y
          · exact y
          · rw [List.getElem?_eq_none (by simp; omega)] at e; cases e
        have ej : j = i := by omega
        rw [hj] at e
        have ec : c = c' := by simpa using e
        rw [ej, ← ec]
        exact g1
    · rcases List.mem_append.mp hx with hx | hx
      · exact hc3 x hx
      · rw [List.mem_singleton] at hx; rw [hx]; exact g2
    · simp [wordS]
  · rintro ρ ⟨cs, o5, o10, hc1, hc2, hc3, rfl⟩
    bv_omega
    rw [frzL_strs]
    have nd : (cs.map (wordS stem a)).Nodup := by
      refine List.pairwise_iff_getElem.mpr fun i j hi hj hij e => ?_
      rw [List.getElem_map, List.getElem_map] at e
      have ec := wordS_inj e
      rw [List.length_map] at hi hj
      have e1 := hc2 i _ (List.getElem?_eq_getElem hi)
      have e2 := hc2 j _ (List.getElem?_eq_getElem hj)
      rw [← ec] at e2
      exact signne i j _ (by omega) (by omega) (by omega) e1 e2
    have all : ∀ w ∈ cs.map (wordS stem a), isW w = true := fun w hw => by
      obtain ⟨c, hc, rfl⟩ := List.mem_map.mp hw
      exact wordS_w hsm hlen (hc3 c hc)
    refine (shuffled p5 (by omega) (by rw [List.length_map, List.length_map]; omega) fun d hd => ?_).imp ?_
    · obtain ⟨w, hw, rfl⟩ := List.mem_map.mp hd
      exact Cmp.str (isW_vis (all w hw)).sok
    · rintro s ρf ⟨t6, ys, rfl, rfl, p6, pm⟩
      obtain ⟨vs, rfl, pm2⟩ := perm_strs pm
      simp only [putBack_0]
      bv_omega
      refine ⟨t6, vs, rfl, rfl, p6.le ?_, ?_, pm2.nodup_iff.mpr nd, fun w hw => all w (pm2.subset hw)⟩
      · rw [List.length_map, List.length_map]; omega
      · rw [pm2.length_eq, List.length_map, hc1]
theorem dig_ix {j : Int} (h0 : 0 ≤ j) (h1 : j < 10) : ∃ c, ixD (.str digS) (.int j) = some (.str ⟨#[c]⟩) ∧ c ∈ tl digS := by
  have e : (tl digS).length = 10 := by decide +kernel
  have hj : j.toNat < (tl digS).length := by omega
  obtain ⟨n, rfl⟩ := Int.eq_ofNat_of_zero_le h0
  exact ⟨(tl digS)[n]'(by simpa using hj), ix_str (by decide +kernel) (List.getElem?_eq_getElem _), List.getElem_mem _⟩
theorem said_isA {w : Str} {c : Nat} (h : isW w = true) (hc : c ∈ tl digS) : isA (w ++ ⟨#[c]⟩) = true := by
  have hl := isW_len h
  have hlc : (w ++ ⟨#[c]⟩ : Str).length = w.length + 1 := by rw [len_app]; rfl
  unfold isW at h
  simp only [Bool.and_eq_true] at h
  have hw : ∀ x ∈ tl w, x ∈ tl smallS := fun x hx => of_decide_eq_true (List.all_eq_true.mp h.2 x hx)
  have sub : ∀ x ∈ tl smallS, x ∈ tl signsS := by decide +kernel
  have subd : ∀ x ∈ tl digS, x ∈ tl signsS := by decide +kernel
  have et : tl (w ++ ⟨#[c]⟩ : Str) = tl w ++ [c] := TL.tl_append _ _
  obtain ⟨a, r, e⟩ : ∃ a r, tl w = a :: r := by
    cases q : tl w with
    | nil =>
      have := TL.len_tl w
      rw [q] at this; simp at this; omega
    | cons a r => exact ⟨a, r, rfl⟩
  unfold isA
  rw [hlc, et]
  have h1 : decide (1 ≤ w.length + 1) = true := decide_eq_true (by omega)
  have h2 : decide (w.length + 1 ≤ 12) = true := decide_eq_true (by omega)
  have h3 : ((tl w ++ [c]).head?.any fun c => decide (c ∈ tl smallS)) = true := by
    rw [e]
    show decide (a ∈ tl smallS) = true
    exact decide_eq_true (hw a (by rw [e]; exact List.mem_cons_self))
  have h4 : ((tl w ++ [c]).all fun c => decide (c ∈ tl signsS)) = true := List.all_eq_true.mpr fun x hx => decide_eq_true (by
    rcases List.mem_append.mp hx with hx | hx
    · exact sub x (hw x hx)
    · rw [List.mem_singleton] at hx; rw [hx]; exact subd c hc)
  rw [h1, h2, h3, h4]; rfl
theorem said_ok {k : Int} {t : Sl} {many : Nat} (h : Pen k t) (hk : k < 2 ^ 36) (hm : many ≤ 3) :
    Ok m__law_said [some t, some (.d (.int many))] fun s ρ => ∃ (t2 : Sl) (as : List Str), s = .ol ((as.map D.str).map .d) ∧ ρ = [some t2, none] ∧ Pen (k + 30) t2 ∧ as.length = many ∧ ∀ a ∈ as, isA a = true := by
  refine ok_runF rfl ?_
  unfold b__law_said_
  bv_omega
  refine ok_lc (fun l acc ρ => ∃ (t2 : Sl) (as ws : List Str), l = ws.map D.str ∧ as.length + ws.length = many ∧ (∀ w ∈ ws, isW w = true) ∧ (∀ a ∈ as, isA a = true) ∧ acc = (as.map D.str).map .d ∧ Pen (k + 20 + as.length) t2 ∧ ρ = [some t2, some (.d (.int many)), none]) ?_ ?_
  · rintro d l acc ρ ⟨t2, as, ws, e1, h2, h3, h4, rfl, p, rfl⟩
    cases ws with
    | nil => cases e1
    | cons w ws =>
      simp only [List.map_cons, List.cons.injEq] at e1
      obtain ⟨rfl, rfl⟩ := e1
      simp only [List.length_cons] at h2
      refine ⟨_, tgName_set (by simp), ?_⟩
      rw [ok_pure, if_pos rfl]
      bv_omega
      have elen : lenD [.str digS] = some (.int (10 : Nat)) := by
        have e : digS.length = 10 := by decide +kernel
        rw [len_str (by omega), e]
      refine (pick (P := fun d => ∃ c, d = .str ⟨#[c]⟩ ∧ c ∈ tl digS) p (by omega) elen (by omega) (by omega) fun j a b => ?_).imp ?_
      · obtain ⟨c, e1, e2⟩ := dig_ix a (by simpa using b)
        exact ⟨_, e1, c, rfl, e2⟩
      · rintro s ρf ⟨t3, d', rfl, rfl, p3, c, rfl, hc⟩
        simp only [putBack_0, wipeE, frz_d]
        have hw := h3 w List.mem_cons_self
        have hwl := isW_len hw
        refine ⟨_, add_str (by show w.length + 1 ≤ _; omega), ?_, t3, as ++ [w ++ ⟨#[c]⟩], ws, rfl, by simp; omega, fun x hx => h3 x (List.mem_cons_of_mem _ hx), fun x hx => ?_, by simp, ?_, rfl⟩
        · rw [List.length_map, List.length_map]; omega
        · rcases List.mem_append.mp hx with hx | hx
          · exact h4 x hx
          · rw [List.mem_singleton] at hx; rw [hx]; exact said_isA hw hc
        · refine p3.le ?_
          simp only [List.length_append, List.length_cons, List.length_nil]
          omega
  · bv_omega
    refine (words_ok h (by omega) hm).imp ?_
    rintro s ρf ⟨t2, ws, rfl, rfl, p, hl, nd, all⟩
    simp only [putBack_0, frz_ol, frzL_d, items_lst, List.set]
    refine ⟨_, rfl, rfl, ⟨t2, [], ws, rfl, by simpa using hl, all, by simp, rfl, p.le (by simp), rfl⟩, ?_⟩
    rintro acc ρ ⟨t3, as, ws2, e1, h2, h3, h4, rfl, p3, rfl⟩
    have e2 : ws2 = [] := List.map_eq_nil_iff.mp e1.symm
    subst e2
    simp only [List.length_nil, Nat.add_zero] at h2
    refine ⟨t3, as, rfl, rfl, p3.le (by omega), h2, h4⟩
theorem cmp_letters {ws : List Str} (h : ∀ w ∈ ws, isW w = true) : Cmp 64 (.tup (ws.map .str)) := by
  refine (Cmp.tup (n := 0) fun d hd => ?_).le (by omega)
  obtain ⟨w, hw, rfl⟩ := List.mem_map.mp hd
  exact Cmp.str (isW_vis (h w hw)).sok
theorem pen_ok {ns : List Int} (h : ns.length ≤ 63) : ∃ t, m__law_pen [some (.d (.sq (ns.map .int)))] = .ok t [none] ∧ Pen 0 t := by
  refine ⟨pen ns 0 0, ?_, ns, 0, 0, rfl, h, by omega, by omega, by omega⟩
  refine ok_det (ok_runF rfl ?_)
  unfold b__law_pen_ mDisp mAllD mAllD mAllD mAllD
  bv_omega
  simp only [ok_bind, ok_cons, ok_nil, ok_of]
  bv_omega
  have e1 : cutD (ns.map D.int) none (some 63) = ns.map D.int := by
    unfold cutD
    have e := HT.sIx_nat (ns.map D.int).length (ns.map D.int).length 63
    rw [HT.sIx_none, show (some (63 : Int)) = some ((63 : Nat) : Int) from rfl, e]
    have el : (ns.map D.int).length = ns.length := List.length_map ..
    rw [Nat.min_eq_right (by omega), List.drop_zero, Nat.sub_zero, List.take_length]
  have e2 : slD (.sq (ns.map D.int)) none (some 63) = some (.lst (ns.map D.int)) := by
    show some (D.lst (cutD (ns.map D.int) none (some 63))) = _
    rw [e1]
  rw [e2]
  refine ⟨_, rfl, _, rfl, _, if_pos (by decide +kernel), ?_⟩
  unfold pen
  rw [frz_ol, frzL_d]
  rfl
end G72

end
section
set_option Elab.async false
set_option linter.all false
set_option autoImplicit false
set_option maxRecDepth 100000
set_option maxHeartbeats 4000000
namespace G72
open PySem PySem.Spec L2 NdefX DL
open TL (tl)
local macro_rules
  | `(tactic| bv_omega) => `(tactic| try simp only [okS_seq, ok_jsNil, ok_jsCons, seq_tup, seq_lst, ok_f0, ok_g0, ok_f1, ok_g1, ok_f2, ok_g2, ok_f3, ok_g3, ok_f4, ok_g4, ok_f5, ok_g5, ok_f6, ok_g6, ok_f7, ok_g7, ok_f8, ok_g8, ok_f9, ok_g9, ok_f10, ok_g10, ok_f11, ok_g11, okS_attr, okS_asg, okS_ret, okS_drop, okS_sIf, okS_next, okS_for, okS_tgt, okS_fail, okS_retN, ok_C, ok_op2, ok_op1, ok_opN, ok_opNO, ok_nil, ok_cons, ok_OD, ok_Fz, ok_test, ok_B, ok_and, ok_or, ok_not, ok_mIf, ok_lst, ok_tup, ok_callE, ok_items, ok_itemsN, ok_mt1, ok_chain, ok_sl, ok_noPart, ok_part, ok_star, ok_isiT, ok_truB, ok_v0, ok_v1, ok_v2, ok_v3, ok_v4, ok_v5, ok_v6, ok_v7, ok_v8, ok_v9, ok_v10, ok_m0, ok_m1, ok_m2, ok_m3, ok_m4, ok_m5, ok_m6, ok_m7, ok_m8, ok_m9, ok_m10, gt_ii, ge_ii, lt_ii, le_ii, add_ii, sub_ii, asB_b, int_i, isi_str_str, isi_int_str, isi_int_int, isi_int_bool, ix2_0, ix2_1, ofStr_inj, String.reduceEq, or_false, false_or, or_true, true_or, decide_true, decide_false, isiT_lst, isiT_tup, asI_i, sl_lst, tuple_lst, tuple_tup, isNon_non, isNotNon_non, isNotNon_int, isNon_int, isNon_str, isNotNon_str, eqD_int, neD_int, in_char, notIn_char, items_str, items_lst, items_tup, enum_lst, enum_tup, len_lst', len_tup, frz_d, frz_ol, putBack_nil, putBack_0, exists_eq_left', Option.some.injEq, D.int.injEq, D.str.injEq, decide_eq_true_eq, List.length_cons, List.length_nil, List.set, List.cons_append, List.nil_append, List.append_nil, List.replicate, List.map_cons, List.map_nil, List.take, keepIO, Nat.zero_add, Nat.reduceAdd, Nat.reduceLT, Nat.reduceLeDiff, Nat.reduceEqDiff, true_and, and_true, if_true, if_false, Bool.not_true, Bool.not_false, Bool.false_eq_true, List.mem_cons, List.not_mem_nil])
/-! ### controls -/
inductive Ctl where
  | wt (says : Option Str) (nexts : List Nat)
  | dd (letter : Str) (next : Nat)
  | lk (groups : List (Str × Nat)) (next : Nat)
def waitS : Str := Str.ofString "wait"
def doS : Str := Str.ofString "do"
def lookS : Str := Str.ofString "look"
def saysD : Option Str → D
  | none => .non
  | some a => .str a
def numD (n : Nat) : D := .int (n : Int)
def grpD (g : Str × Nat) : D := .tup [.str g.1, numD g.2]
def ctlD : Ctl → D
  | .wt s ns => .tup [.str waitS, saysD s, .tup (ns.map numD)]
  | .dd l n => .tup [.str doS, .str l, numD n]
  | .lk gs n => .tup [.str lookS, .tup (gs.map grpD), numD n]
def Ctl.isLk : Ctl → Bool
  | .lk _ _ => true
  | _ => false
def Ctl.outs : Ctl → List Nat
  | .wt _ ns => ns
  | .dd _ n => [n]
  | .lk gs n => gs.map Prod.snd ++ [n]
structure OkWt (no many : Nat) (s : Option Str) (ns : List Nat) : Prop where
  says : ∀ a, s = some a → isA a = true
  len : ns.length = no
structure OkLk (gs : List (Str × Nat)) : Prop where
  ans : ∀ g ∈ gs, isA g.1 = true
  nd : (gs.map Prod.fst).Nodup
  few : gs.length ≤ 3
def OkCtl (ws : List Str) (no many : Nat) (c : Ctl) : Prop := (∀ n ∈ c.outs, n < many) ∧ match c with
  | .wt s ns => OkWt no many s ns
  | .dd l _ => l ∈ ws
  | .lk gs _ => OkLk gs
structure OkCs (ws us : List Str) (cs : List Ctl) : Prop where
  one : cs ≠ []
  most : cs.length ≤ 24
  all : ∀ c ∈ cs, OkCtl ws us.length cs.length c
  /-- a look leads to no look that is not behind it -/
  ring : ∀ (i n : Nat) (c d : Ctl), cs[i]? = some c → c.isLk = true → n ∈ c.outs → cs[n]? = some d → d.isLk = true → i < n
theorem sok_wait : SOk waitS := (vis_of (by decide +kernel)).sok
theorem sok_do : SOk doS := (vis_of (by decide +kernel)).sok
theorem sok_look : SOk lookS := (vis_of (by decide +kernel)).sok
theorem wait_is : Str.ofString "wait" = waitS := rfl
theorem do_is : Str.ofString "do" = doS := rfl
theorem look_is : Str.ofString "look" = lookS := rfl
theorem eq_ww : eqD (.str waitS) (.str waitS) = some (.bl true) := by rw [eqD_str sok_wait sok_wait]; simp
theorem eq_dw : eqD (.str doS) (.str waitS) = some (.bl false) := by rw [eqD_str sok_do sok_wait, decide_eq_false (by decide +kernel)]
theorem eq_lw : eqD (.str lookS) (.str waitS) = some (.bl false) := by rw [eqD_str sok_look sok_wait, decide_eq_false (by decide +kernel)]
theorem eq_wd : eqD (.str waitS) (.str doS) = some (.bl false) := by rw [eqD_str sok_wait sok_do, decide_eq_false (by decide +kernel)]
theorem eq_dd : eqD (.str doS) (.str doS) = some (.bl true) := by rw [eqD_str sok_do sok_do]; simp
theorem eq_ld : eqD (.str lookS) (.str doS) = some (.bl false) := by rw [eqD_str sok_look sok_do, decide_eq_false (by decide +kernel)]
theorem eq_wl : eqD (.str waitS) (.str lookS) = some (.bl false) := by rw [eqD_str sok_wait sok_look, decide_eq_false (by decide +kernel)]
theorem eq_dl : eqD (.str doS) (.str lookS) = some (.bl false) := by rw [eqD_str sok_do sok_look, decide_eq_false (by decide +kernel)]
theorem eq_ll : eqD (.str lookS) (.str lookS) = some (.bl true) := by rw [eqD_str sok_look sok_look]; simp
theorem ix3_0 {a b c : D} : ixD (.tup [a, b, c]) (.int 0) = some a := rfl
theorem ix3_1 {a b c : D} : ixD (.tup [a, b, c]) (.int 1) = some b := rfl
theorem ix3_2 {a b c : D} : ixD (.tup [a, b, c]) (.int 2) = some c := rfl
theorem tgt3 {i j k : Nat} {a b c : D} {ρ : DL.Env} (hi : i < ρ.length) (hj : j < ρ.length) (hk : k < ρ.length) : tgTup 3 (tgsCons (tgName i) (tgsCons (tgName j) (tgsCons (tgName k) tgsNil))) (.tup [a, b, c]) ρ = some (((ρ.set i (some (.d a))).set j (some (.d b))).set k (some (.d c))) := by
  simp [tgTup, tgsCons, tgName, tgsNil, setV, hi, hj, hk]
theorem check_outer_ok {ws : List Str} (h : OkWs ws) : m_check_outer [some (.d (.lst (ws.map .str)))] = .ok (.d .non) [none] := by
  have hl := h.most
  refine ok_det (ok_runF rfl ?_)
  unfold b_check_outer_
  bv_omega
  rw [ok_eq (wrong_word_ok h.all h.nd h.one)]
  bv_omega
  have : ¬ 3 < (ws.length : Int) := by omega
  simp [this]
theorem is_num_nat {i n : Nat} (h : i < n) : m_is_number_checks [some (.d (numD i)), some (.d (numD n))] = .ok (.d (.bl true)) [none, none] := by
  unfold numD
  rw [is_number_int]
  have : (0 : Int) ≤ (i : Int) ∧ (i : Int) < (n : Int) := by omega
  simp [this]
/-- a comprehension that answers True each time -/
theorem ok_lcTrue {γ : Type} {vs : Nat} {gi : M (List D)} {te : M Sl} {ρ : DL.Env} {Q : Sl → DL.Env → Prop} (xs : List γ) (g : γ → D) (hl : xs.length ≤ 16777216)
    (h : Ok gi ρ fun l ρ1 => l = xs.map g ∧ vs < ρ1.length ∧ ρ1[vs]? = some none ∧ (∀ x ∈ xs, Ok te (ρ1.set vs (some (.d (g x)))) fun y ρ3 => y = .d (.bl true) ∧ ρ3.set vs none = ρ1) ∧ ∀ s, allD [frz s] = some (.bl true) → Q s ρ1) :
    Ok (mLc [vs] gi (tgName vs) (M.pure true) te) ρ Q := by
  refine ok_lcOver xs g (fun _ => .d (.bl true)) (h.imp fun l ρ1 ⟨e, lt, hn, st, q⟩ => ?_)
  have ew : wipeE ρ1 [vs] = ρ1 := by simp only [wipeE]; exact set_get hn
  refine ⟨e, by simp [plainAt, hn], hl, fun x hx => ⟨_, tgName_set (by rw [ew]; exact lt), ?_⟩, ?_⟩
  · rw [ew]
    refine (st x hx).imp fun y ρ3 ⟨e1, e2⟩ => ⟨e1, ?_⟩
    simp only [wipeE]; exact e2
  · have e3 : backE ρ1 (wipeE ρ1 [vs]) [vs] = ρ1 := by
      rw [ew]
      simp only [backE, hn, Option.getD_some]
      exact set_get hn
    rw [e3]
    refine q _ ?_
    have e4 : frzL (xs.map fun _ => Sl.d (.bl true)) = xs.map fun _ => D.bl true := frzL_map _ _
    rw [frz_ol, e4, all_map (fun _ => true)]
    simp
theorem is_groups_ok {gs : List (Str × Nat)} {many : Nat} (h : OkLk gs) (hn : ∀ g ∈ gs, g.2 < many) : m_is_groups [some (.d (.tup (gs.map grpD))), some (.d (numD many))] = .ok (.d (.bl true)) [none, none] := by
  have few := h.few
  refine ok_det (ok_runF rfl ?_)
  unfold b_is_groups_
  bv_omega
  refine ok_lcTrue gs grpD (by omega) ?_
  bv_omega
  refine ⟨rfl, fun g hg => ?_, fun s e => ?_⟩
  · unfold grpD
    bv_omega
    rw [ok_eq is_row_tup]
    rfl
  · rw [e]
    bv_omega
    refine ok_lcTrue gs grpD (by omega) ?_
    bv_omega
    refine ⟨rfl, fun g hg => ?_, fun s e => ?_⟩
    · have ha := h.ans g hg
      have hl := isA_len ha
      unfold grpD
      bv_omega
      rw [ok_eq (is_answer_eq (by omega)), ha]
      bv_omega
      rw [ok_eq (is_num_nat (hn g hg))]
      bv_omega
    · rw [e]
      bv_omega
      refine ok_lcOver gs grpD (fun g => .d (.str g.1)) ?_
      bv_omega
      refine ⟨rfl, by omega, fun g hg => ⟨_, tgName_set (by simp [wipeE]), ?_⟩, ?_⟩
      · unfold grpD
        simp only [wipeE]
        bv_omega
      · simp only [wipeE, backE]
        bv_omega
        have e5 : lenSetD (.lst (frzL (gs.map fun g => Sl.d (.str g.1)))) = some (.int (gs.length : Nat)) := by
          have e6 : frzL (gs.map fun g => Sl.d (.str g.1)) = (gs.map Prod.fst).map D.str := by rw [frzL_map, List.map_map]; rfl
          show (textsOf (frzL (gs.map fun g => Sl.d (.str g.1)))).bind _ = _
          rw [e6, textsOf_map]
          simp only [Option.bind_some, List.length_map]
          rw [if_pos ⟨h.nd, by omega⟩]
        rw [e5]
        bv_omega
        simp
theorem isi_str_non {cs : List Str} : isiD cs [.non, .ty "str"] = some (.bl false) := rfl
theorem len_map' {α β : Type} {f : α → β} {l : List α} : (l.map f).length = l.length := List.length_map ..
theorem is_control_ok {ws us : List Str} {many : Nat} {c : Ctl} (h : OkCtl ws us.length many c) (hl : us.length ≤ 3) (hm : many ≤ 24) :
    m_is_control [some (.d (ctlD c)), some (.d (.lst (ws.map .str))), some (.d (.lst (us.map .str))), some (.d (numD many))] = .ok (.d (.bl true)) [none, none, none, none] := by
  refine ok_det (ok_runF rfl ?_)
  unfold b_is_control_
  obtain ⟨hn, h⟩ := h
  cases c with
  | wt s ns =>
    unfold ctlD
    bv_omega
    rw [ok_eq is_row_tup]
    bv_omega
    simp only [ix3_0, waitS]
    bv_omega
    refine ⟨_, tgt3 (by simp) (by simp) (by simp), ?_⟩
    bv_omega
    simp only [← waitS.eq_1, wait_is, eq_ww]
    bv_omega
    have hok : OkWt us.length many s ns := h
    cases s with
    | none =>
      simp only [saysD]
      bv_omega
      rw [ok_eq is_row_tup]
      bv_omega
      simp only [List.length_map, hok.len, decide_true, if_true]
      refine ok_lcTrue ns numD (by have := hok.len; omega) ?_
      bv_omega
      refine ⟨rfl, fun n hx => ?_, fun s e => ?_⟩
      · rw [ok_eq (is_num_nat (hn n hx))]
      · rw [e]
        bv_omega
    | some a =>
      have ha := hok.says a rfl
      have hal := isA_len ha
      simp only [saysD]
      bv_omega
      rw [ok_eq (is_answer_eq (by omega)), ha]
      bv_omega
      rw [ok_eq is_row_tup]
      bv_omega
      simp only [List.length_map, hok.len, decide_true, if_true]
      refine ok_lcTrue ns numD (by have := hok.len; omega) ?_
      bv_omega
      refine ⟨rfl, fun n hx => ?_, fun s e => ?_⟩
      · rw [ok_eq (is_num_nat (hn n hx))]
      · rw [e]
        bv_omega
  | dd l n =>
    unfold ctlD
    bv_omega
    rw [ok_eq is_row_tup]
    bv_omega
    simp only [ix3_0, doS]
    bv_omega
    refine ⟨_, tgt3 (by simp) (by simp) (by simp), ?_⟩
    bv_omega
    simp only [← doS.eq_1, wait_is, do_is, eq_dw, eq_dd]
    bv_omega
    have hl2 : l ∈ ws := h
    rw [in_strs]
    simp only [hl2, decide_true]
    bv_omega
    rw [ok_eq (is_num_nat (hn n (by simp [Ctl.outs])))]
    bv_omega
  | lk gs n =>
    unfold ctlD
    bv_omega
    rw [ok_eq is_row_tup]
    bv_omega
    simp only [ix3_0, lookS]
    bv_omega
    refine ⟨_, tgt3 (by simp) (by simp) (by simp), ?_⟩
    bv_omega
    simp only [← lookS.eq_1, wait_is, do_is, look_is, eq_lw, eq_ld, eq_ll]
    bv_omega
    rw [ok_eq (is_groups_ok h fun g hg => hn g.2 (by simp only [Ctl.outs, List.mem_append, List.mem_map]; exact .inl ⟨g, hg, rfl⟩))]
    bv_omega
    rw [ok_eq (is_num_nat (hn n (by simp [Ctl.outs])))]
    bv_omega
theorem tup_numD (l : List Nat) : tupleD [.tup (l.map numD)] = some (.tup (l.map numD)) := rfl
theorem as_told_ok {c : Ctl} (h : ∀ gs n, c = .lk gs n → gs.length ≤ 3) : m_as_told [some (.d (ctlD c))] = .ok (.d (ctlD c)) [none] := by
  refine ok_det (ok_runF rfl ?_)
  unfold b_as_told_
  cases c with
  | wt s ns =>
    unfold ctlD
    bv_omega
    refine ⟨_, tgt3 (by simp) (by simp) (by simp), ?_⟩
    bv_omega
    simp only [wait_is, eq_ww]
    bv_omega
    exact ⟨_, rfl, rfl⟩
  | dd l n =>
    unfold ctlD
    bv_omega
    refine ⟨_, tgt3 (by simp) (by simp) (by simp), ?_⟩
    bv_omega
    simp only [wait_is, do_is, eq_dw, eq_dd]
    bv_omega
    exact ⟨_, rfl, rfl⟩
  | lk gs n =>
    have few := h gs n rfl
    unfold ctlD
    bv_omega
    refine ⟨_, tgt3 (by simp) (by simp) (by simp), ?_⟩
    bv_omega
    simp only [wait_is, do_is, eq_lw, eq_ld]
    bv_omega
    refine ok_lcOver gs grpD (fun g => .d (grpD g)) ?_
    bv_omega
    refine ⟨rfl, by omega, fun g hg => ⟨_, tgt2 (a := .str g.1) (b := numD g.2) (by simp [wipeE]) (by simp [wipeE]), ?_⟩, ?_⟩
    · simp only [wipeE]
      bv_omega
      exact ⟨_, rfl, rfl⟩
    · simp only [wipeE, backE]
      bv_omega
      rw [frzL_map]
      exact ⟨_, rfl, rfl⟩
theorem targets_ok {c : Ctl} (h : ∀ gs n, c = .lk gs n → gs.length ≤ 3) : Ok m_targets [some (.d (ctlD c))] fun s ρ => frz s = .lst (c.outs.map numD) ∧ ρ = [none] := by
  refine ok_runF rfl ?_
  unfold b_targets_
  cases c with
  | wt s ns =>
    unfold ctlD
    bv_omega
    refine ⟨_, tgt3 (by simp) (by simp) (by simp), ?_⟩
    bv_omega
    simp only [wait_is, eq_ww]
    bv_omega
    refine ⟨_, rfl, ?_⟩
    rw [frz_ol, frzL_d]
    rfl
  | dd l n =>
    unfold ctlD
    bv_omega
    refine ⟨_, tgt3 (by simp) (by simp) (by simp), ?_⟩
    bv_omega
    simp only [wait_is, do_is, eq_dw, eq_dd]
    bv_omega
    exact ⟨_, rfl, rfl⟩
  | lk gs n =>
    have few := h gs n rfl
    unfold ctlD
    bv_omega
    refine ⟨_, tgt3 (by simp) (by simp) (by simp), ?_⟩
    bv_omega
    simp only [wait_is, do_is, eq_lw, eq_ld]
    bv_omega
    refine ok_lcOver gs grpD (fun g => .d (numD g.2)) ?_
    bv_omega
    refine ⟨rfl, by omega, fun g hg => ⟨_, tgt2 (a := .str g.1) (b := numD g.2) (by simp [wipeE]) (by simp [wipeE]), ?_⟩, ?_⟩
    · simp only [wipeE]
      bv_omega
    · simp only [wipeE, backE]
      bv_omega
      rw [frzL_map]
      refine ⟨_, rfl, .lst ((gs.map fun g => numD g.2) ++ [numD n]), ?_, ?_⟩
      · refine if_pos (decide_eq_true ?_)
        have e1 : (frzL [Sl.d (numD n)]).length = 1 := rfl
        rw [e1, List.length_map]; omega
      · simp [frz, Ctl.outs]
end G72

end
section
set_option Elab.async false
set_option linter.all false
set_option autoImplicit false
set_option maxRecDepth 100000
set_option maxHeartbeats 4000000
namespace G72
open PySem PySem.Spec L2 NdefX DL
open TL (tl)
local macro_rules
  | `(tactic| bv_omega) => `(tactic| try simp only [okS_seq, ok_jsNil, ok_jsCons, seq_tup, seq_lst, ok_f0, ok_g0, ok_f1, ok_g1, ok_f2, ok_g2, ok_f3, ok_g3, ok_f4, ok_g4, ok_f5, ok_g5, ok_f6, ok_g6, ok_f7, ok_g7, ok_f8, ok_g8, ok_f9, ok_g9, ok_f10, ok_g10, ok_f11, ok_g11, okS_attr, okS_asg, okS_ret, okS_drop, okS_sIf, okS_next, okS_for, okS_tgt, okS_fail, okS_retN, ok_C, ok_op2, ok_op1, ok_opN, ok_opNO, ok_nil, ok_cons, ok_OD, ok_Fz, ok_test, ok_B, ok_and, ok_or, ok_not, ok_mIf, ok_lst, ok_tup, ok_callE, ok_items, ok_itemsN, ok_mt1, ok_chain, ok_sl, ok_noPart, ok_part, ok_star, ok_isiT, ok_truB, ok_v0, ok_v1, ok_v2, ok_v3, ok_v4, ok_v5, ok_v6, ok_v7, ok_v8, ok_v9, ok_v10, ok_m0, ok_m1, ok_m2, ok_m3, ok_m4, ok_m5, ok_m6, ok_m7, ok_m8, ok_m9, ok_m10, gt_ii, ge_ii, lt_ii, le_ii, add_ii, sub_ii, asB_b, int_i, isi_str_str, isi_int_str, isi_int_int, isi_int_bool, ix2_0, ix2_1, ofStr_inj, String.reduceEq, or_false, false_or, or_true, true_or, decide_true, decide_false, isiT_lst, isiT_tup, asI_i, sl_lst, tuple_lst, tuple_tup, isNon_non, isNotNon_non, isNotNon_int, isNon_int, isNon_str, isNotNon_str, eqD_int, neD_int, in_char, notIn_char, items_str, items_lst, items_tup, enum_lst, enum_tup, len_lst', len_tup, frz_d, frz_ol, putBack_nil, putBack_0, exists_eq_left', Option.some.injEq, D.int.injEq, D.str.injEq, decide_eq_true_eq, List.length_cons, List.length_nil, List.set, List.cons_append, List.nil_append, List.append_nil, List.replicate, List.map_cons, List.map_nil, List.take, keepIO, Nat.zero_add, Nat.reduceAdd, Nat.reduceLT, Nat.reduceLeDiff, Nat.reduceEqDiff, true_and, and_true, if_true, if_false, Bool.not_true, Bool.not_false, Bool.false_eq_true, List.mem_cons, List.not_mem_nil])
/-! ### rings of looks -/
theorem inV_nums {n : Nat} : ∀ l : List Nat, inV (.int n) (l.map fun (m : Nat) => V.int (m : Int)) = decide (n ∈ l)
  | [] => by simp [inV]
  | x :: l => by
    have ih := inV_nums (n := n) l
    unfold inV at ih ⊢
    rw [List.map_cons, List.any_cons, ih]
    by_cases h : x = n
    · subst h; simp [eqV]
    · have h2 : ¬ (x : Int) = n := by omega
      simp [eqV, h2, Ne.symm h]
theorem flatsOf_nums : ∀ l : List Nat, flatsOf (l.map numD) = some (l.map fun (m : Nat) => V.int (m : Int))
  | [] => rfl
  | x :: l => by
    simp only [List.map_cons, flatsOf, flatsOf_nums l]
    rfl
theorem in_nums {n : Nat} {l : List Nat} : inD (numD n) (.lst (l.map numD)) = some (.bl (decide (n ∈ l))) := by
  show (inB (.int (n : Int)) (.lst (l.map numD))).map D.bl = _
  unfold inB
  simp only [flatOf, flatsOf_nums, Option.map_some, inV_nums]
theorem notIn_nums {n : Nat} {l : List Nat} : notInD (numD n) (.lst (l.map numD)) = some (.bl (!decide (n ∈ l))) := by
  show (inB (.int (n : Int)) (.lst (l.map numD))).map (fun b => D.bl !b) = _
  unfold inB
  simp only [flatOf, flatsOf_nums, Option.map_some, inV_nums]
/-- the controls that were not met yet -/
def unmet (m : Nat) (found : List Nat) : Nat := ((List.range m).filter fun n => decide (n ∉ found)).length
theorem filter_le {α : Type} {p q : α → Bool} : ∀ {l : List α}, (∀ x ∈ l, p x = true → q x = true) → (l.filter p).length ≤ (l.filter q).length
  | [], _ => Nat.le_refl _
  | x :: l, h => by
    have ih := filter_le (l := l) fun y hy => h y (List.mem_cons_of_mem _ hy)
    have hx := h x List.mem_cons_self
    rw [List.filter_cons, List.filter_cons]
    cases e : p x with
    | false => cases q x <;> simp <;> omega
    | true => rw [hx e]; simpa using ih
theorem filter_lt {α : Type} {p q : α → Bool} : ∀ {l : List α} {z : α}, (∀ x ∈ l, p x = true → q x = true) → z ∈ l → p z = false → q z = true → (l.filter p).length < (l.filter q).length
  | [], _, _, h, _, _ => by cases h
  | x :: l, z, h, hz, hp, hq => by
    have hx := h x List.mem_cons_self
    have sub : ∀ y ∈ l, p y = true → q y = true := fun y hy => h y (List.mem_cons_of_mem _ hy)
    rw [List.filter_cons, List.filter_cons]
    rcases List.mem_cons.mp hz with e | hz
    · subst e
      have ih := filter_le sub
      rw [hp, hq]
      simp; omega
    · have ih := filter_lt sub hz hp hq
      cases e : p x with
      | false => cases q x <;> simp <;> omega
      | true => rw [hx e]; simpa using ih
theorem unmet_le {m : Nat} {found : List Nat} : unmet m found ≤ m := by
  unfold unmet
  have := List.length_filter_le (fun n => decide (n ∉ found)) (List.range m)
  simpa using this
theorem unmet_more {m : Nat} {found more : List Nat} : unmet m (found ++ more) ≤ unmet m found := by
  unfold unmet
  exact filter_le fun x _ h => by
    simp only [decide_eq_true_eq, List.mem_append, not_or] at h ⊢
    exact h.1
theorem unmet_lt {m : Nat} {found more : List Nat} {z : Nat} (h1 : z < m) (h2 : z ∉ found) (h3 : z ∈ more) : unmet m (found ++ more) < unmet m found := by
  unfold unmet
  exact filter_lt (fun x _ h => by
    simp only [decide_eq_true_eq, List.mem_append, not_or] at h ⊢
    exact h.1) (List.mem_range.mpr h1) (by simp [h3]) (by simp [h2])
theorem tru_nums {l : List Nat} : truD (.lst (l.map numD)) = some (decide (l ≠ [])) := by
  rw [tru_lst]
  cases l <;> simp
theorem outs_le {c : Ctl} {ws : List Str} {no many : Nat} (h : OkCtl ws no many c) (hno : no ≤ 3) : c.outs.length ≤ 4 := by
  obtain ⟨_, h⟩ := h
  cases c with
  | wt s ns =>
    have h : OkWt no many s ns := h
    have := h.len
    simp only [Ctl.outs]; omega
  | dd l n => simp [Ctl.outs]
  | lk gs n =>
    have h : OkLk gs := h
    have := h.few
    simp only [Ctl.outs, List.length_append, List.length_map, List.length_cons, List.length_nil]; omega
theorem OkCs.told {ws us : List Str} {cs : List Ctl} (h : OkCs ws us cs) {c : Ctl} (hc : c ∈ cs) : ∀ gs n, c = .lk gs n → gs.length ≤ 3 := fun gs n e => by
  have := (h.all c hc).2
  rw [e] at this
  have this : OkLk gs := this
  exact this.few
theorem kind_look {c : Ctl} : ∃ a b x, ctlD c = .tup [x, a, b] ∧ eqD x (.str lookS) = some (.bl c.isLk) := by
  cases c with
  | wt s ns => exact ⟨_, _, _, rfl, eq_wl⟩
  | dd l n => exact ⟨_, _, _, rfl, eq_dl⟩
  | lk gs n => exact ⟨_, _, _, rfl, eq_ll⟩
theorem mExt_ok {i : Nat} {g : M Sl} {ρ : DL.Env} {l : List Sl} {Q : Sl → DL.Env → Prop} (h : ρ[i]? = some (some (.ol l))) (hg : Ok g ρ fun t ρ1 => ∃ l2 m, slItems t = some m ∧ ρ1[i]? = some (some (.ol l2)) ∧ l2.length + m.length ≤ 16777216 ∧ Q (.d .non) (ρ1.set i (some (.ol (l2 ++ m))))) : Ok (mExt i g) ρ Q := by
  have c : isOl i ρ = true := by unfold isOl; rw [h]
  obtain ⟨t, ρ1, e, l2, m, e2, e3, e4, q⟩ := hg.get
  have z : lineOk (l2.length + m.length) = true := decide_eq_true e4
  unfold Ok mExt DL.guard M.bind
  simp only [c, if_true, e, e2, e3, z]
  exact q
theorem mPop_ok {i : Nat} {ρ : DL.Env} {l : List Sl} {t : Sl} {Q : Sl → DL.Env → Prop} (h : ρ[i]? = some (some (.ol (l ++ [t])))) (q : Q t (ρ.set i (some (.ol l)))) : Ok (mPop i) ρ Q := by
  unfold Ok mPop
  rw [h]
  have e : (l ++ [t]).length - 1 = l.length := by simp
  have e2 : (l ++ [t]).eraseIdx l.length = l := by
    rw [List.eraseIdx_append_of_length_le (Nat.le_refl _)]; simp
  dsimp only
  rw [e, e2]
  simp
  exact q
def olN (l : List Nat) : Sl := .ol ((l.map numD).map .d)
theorem frz_olN (l : List Nat) : frz (olN l) = .lst (l.map numD) := by unfold olN; rw [frz_ol, frzL_d]
/-- the targets that were not met -/
theorem ok_fresh {xs found : List Nat} {c : Ctl} {o0 o1 o2 o5 : Option Sl} {Q : Sl → DL.Env → Prop} (hx : c.outs = xs) (hl : xs.length ≤ 4) (ht : ∀ gs n, c = .lk gs n → gs.length ≤ 3)
    (q : Q (olN (xs.filter fun n => decide (n ∉ found))) [o0, o1, o2, some (olN found), some (.d (ctlD c)), o5, none]) :
    Ok (mLc [6] (mItems itemsS (mFz (mCall 1 m_targets [] (mCons (mOD (mVar 4)) mNil)))) (tgName 6) (mPeekT (mTest (mOp2 notInD (mVar 6) (mVar 3)))) (mOD (mVar 6))) [o0, o1, o2, some (olN found), some (.d (ctlD c)), o5, none] Q := by
  subst hx
  refine ok_lc (fun l acc ρ => ∃ ys zs : List Nat, c.outs = ys ++ zs ∧ l = zs.map numD ∧ acc = ((ys.filter fun n => decide (n ∉ found)).map numD).map .d ∧ ρ = [o0, o1, o2, some (olN found), some (.d (ctlD c)), o5, none]) ?_ ?_
  · rintro d l acc ρ ⟨ys, zs, h1, h2, rfl, rfl⟩
    cases zs with
    | nil => cases h2
    | cons z zs =>
      simp only [List.map_cons, List.cons.injEq] at h2
      obtain ⟨rfl, rfl⟩ := h2
      refine ⟨_, tgName_set (by simp), ok_peekT ?_⟩
      simp only [frzE, List.set, List.map_cons, List.map_nil, Option.map_some, frz_olN, frz_d]
      bv_omega
      rw [notIn_nums]
      bv_omega
      have hy : ys.length ≤ 4 := by
        have := congrArg List.length h1
        simp only [List.length_append, List.length_cons] at this
        omega
      have hf := List.length_filter_le (fun n => decide (n ∉ found)) ys
      by_cases hz : z ∈ found
      · simp only [hz, decide_true, Bool.not_true, Bool.false_eq_true, if_false, wipeE]
        refine ⟨ys ++ [z], zs, by rw [h1]; simp, rfl, ?_, rfl⟩
        rw [List.filter_append]
        simp [hz]
      · simp only [hz, decide_false, Bool.not_false, if_true, wipeE, not_false_eq_true]
        bv_omega
        refine ⟨by rw [List.length_map, List.length_map]; omega, ys ++ [z], zs, by rw [h1]; simp, rfl, ?_⟩
        rw [List.filter_append]
        simp [hz]
  · bv_omega
    refine (targets_ok ht).imp ?_
    rintro s ρf ⟨e1, rfl⟩
    rw [e1]
    try simp only [putBack_nil]
    bv_omega
    refine ⟨rfl, ⟨[], c.outs, rfl, rfl, rfl, rfl⟩, ?_⟩
    rintro acc ρ ⟨ys, zs, h1, h2, rfl, rfl⟩
    have hz : zs = [] := List.map_eq_nil_iff.mp h2.symm
    subst hz
    rw [List.append_nil] at h1
    rw [← h1]
    exact q
theorem on_ring_ok {ws us : List Str} {cs : List Ctl} {start : Nat} (h : OkCs ws us cs) (hu : us.length ≤ 3) (hs : start < cs.length) :
    m_on_ring [some (.d (.tup (cs.map ctlD))), some (.d (numD start))] = .ok (.d (.bl false)) [none, none] := by
  have most := h.most
  refine ok_det (ok_runF rfl ?_)
  unfold b_on_ring_
  rw [okS_seq]
  refine okS_par ?_
  bv_omega
  refine ⟨_, rfl, _, rfl, _, _, _, rfl, rfl, ?_⟩
  refine okS_while (fun k ρ => ∃ (wait found : List Nat) (o4 o5 : Option Sl), k = 5 * unmet cs.length found + wait.length ∧ (∀ n ∈ wait, n < cs.length ∧ (n = start ∨ ((∃ c, cs[start]? = some c ∧ c.isLk = true) ∧ ∀ d, cs[n]? = some d → d.isLk = true → start < n))) ∧
    found.length + wait.length + 4 * k ≤ 2000 ∧
    ρ = [some (.d (.tup (cs.map ctlD))), some (.d (numD start)), some (olN wait), some (olN found), o4, o5, none]) ?_ (n := 5 * unmet cs.length [] + 1) (by
      have := unmet_le (m := cs.length) (found := [])
      unfold fuel; omega) ⟨[start], [], none, none, rfl, fun n hn => ?_, ?_, rfl⟩
  · rintro k ρ ⟨wait, found, o4, o5, rfl, hw, hb, rfl⟩
    bv_omega
    refine ok_peekT ?_
    simp only [frzE, List.map_cons, List.map_nil, Option.map_some, frz, olN, frzL_d, Option.map_none]
    bv_omega
    refine ⟨_, tru_nums, ?_⟩
    rcases List.eq_nil_or_concat wait with rfl | ⟨rest, n, rfl⟩
    · simp
    · rw [List.concat_eq_append] at hw hb ⊢
      have hne : rest ++ [n] ≠ [] := by simp
      simp only [hne, decide_true, if_true, ne_eq, not_false_eq_true]
      obtain ⟨hn, hn2⟩ := hw n (by simp)
      obtain ⟨c, ec⟩ : ∃ c, cs[n]? = some c := ⟨cs[n], List.getElem?_eq_getElem hn⟩
      have hcm : c ∈ cs := List.mem_of_getElem? ec
      have hoc := h.all c hcm
      have htold := h.told hcm
      rw [List.map_append, List.map_append]
      refine mPop_ok (l := (rest.map numD).map .d) (t := .d (numD n)) rfl ?_
      bv_omega
      refine ⟨_, L2.atI_nat (xs := cs.map ctlD) (j := n) (v := ctlD c) (by rw [List.getElem?_map, ec]; rfl), ?_⟩
      bv_omega
      obtain ⟨a, b, x, e1, e2⟩ := kind_look (c := c)
      rw [e1]
      simp only [ix3_0, Option.some.injEq, exists_eq_left', look_is]
      rw [e2]
      simp only [asB_b, Option.some.injEq, exists_eq_left']
      rw [← e1]
      have lrest : ∀ m ∈ rest, m < cs.length ∧ (m = start ∨ ((∃ c, cs[start]? = some c ∧ c.isLk = true) ∧ ∀ d, cs[m]? = some d → d.isLk = true → start < m)) := fun m hm => hw m (by simp [hm])
      have lw : (rest ++ [n]).length = rest.length + 1 := by simp
      rw [lw] at hb ⊢
      cases hlk : c.isLk with
      | false =>
        simp only [Bool.false_eq_true, if_false]
        exact ⟨5 * unmet cs.length found + rest.length, by omega, rest, found, some (.d (ctlD c)), o5, rfl, lrest, by omega, rfl⟩
      | true =>
        simp only [if_true]
        -- the start is a look
        have hst : ∃ c, cs[start]? = some c ∧ c.isLk = true := by
          rcases hn2 with e | ⟨h1, _⟩
          · rw [e] at ec; exact ⟨c, ec, hlk⟩
          · exact h1
        have hge : start ≤ n := by
          rcases hn2 with e | ⟨_, h1⟩
          · omega
          · have := h1 c ec hlk; omega
        have hno : ¬ start ∈ c.outs := fun z => by
          obtain ⟨d, ed, hd⟩ := hst
          have := h.ring n start c d ec hlk z ed hd
          omega
        refine (targets_ok htold).imp ?_
        rintro s ρf ⟨e3, _⟩
        rw [e3, in_nums]
        simp only [hno, decide_false, asB_b, Option.some.injEq, exists_eq_left', Bool.false_eq_true, if_false]
        have lo := outs_le hoc hu
        refine ok_fresh rfl lo htold ?_
        bv_omega
        generalize hfr : (c.outs.filter fun m => decide (m ∉ found)) = fresh
        have lf : fresh.length ≤ 4 := by
          have := List.length_filter_le (fun m => decide (m ∉ found)) c.outs
          rw [hfr] at this; omega
        have hfm : ∀ m ∈ fresh, m ∈ c.outs ∧ m ∉ found := fun m hm => by
          rw [← hfr] at hm
          simpa using hm
        refine mExt_ok rfl ?_
        unfold olN
        bv_omega
        rw [frzL_d]
        refine ⟨_, _, rfl, rfl, by simp only [List.length_map]; omega, ?_⟩
        refine mExt_ok rfl ?_
        bv_omega
        refine ⟨_, _, rfl, rfl, by simp only [List.length_map]; omega, ?_⟩
        have hmeas : 5 * unmet cs.length (found ++ fresh) + (rest.length + fresh.length) < 5 * unmet cs.length found + (rest.length + 1) := by
          cases fresh with
          | nil => simp
          | cons z zs =>
            have hz := hfm z List.mem_cons_self
            have := unmet_lt (m := cs.length) (found := found) (more := z :: zs) (z := z) (hoc.1 z hz.1) hz.2 List.mem_cons_self
            omega
        refine ⟨_, hmeas, rest ++ fresh, found ++ fresh, some (.d (ctlD c)), some (.d (.lst (fresh.map numD))), by rw [List.length_append], fun m hm => ?_, ?_, ?_⟩
        · rcases List.mem_append.mp hm with hm | hm
          · exact lrest m hm
          · have hmo := (hfm m hm).1
            refine ⟨hoc.1 m hmo, .inr ⟨hst, fun d ed hd => ?_⟩⟩
            have := h.ring n m c d ec hlk hmo ed hd
            omega
        · simp only [List.length_append]
          omega
        · simp
  · have : n = start := by simpa using hn
    subst this
    exact ⟨hs, .inl rfl⟩
  · have := unmet_le (m := cs.length) (found := [])
    simp; omega
end G72

end
section
set_option Elab.async false
set_option linter.all false
set_option autoImplicit false
set_option maxRecDepth 100000
set_option maxHeartbeats 4000000
namespace G72
open PySem PySem.Spec L2 NdefX DL
open TL (tl)
local macro_rules
  | `(tactic| bv_omega) => `(tactic| try simp only [okS_seq, ok_jsNil, ok_jsCons, seq_tup, seq_lst, ok_f0, ok_g0, ok_f1, ok_g1, ok_f2, ok_g2, ok_f3, ok_g3, ok_f4, ok_g4, ok_f5, ok_g5, ok_f6, ok_g6, ok_f7, ok_g7, ok_f8, ok_g8, ok_f9, ok_g9, ok_f10, ok_g10, ok_f11, ok_g11, okS_attr, okS_asg, okS_ret, okS_drop, okS_sIf, okS_next, okS_for, okS_tgt, okS_fail, okS_retN, ok_C, ok_op2, ok_op1, ok_opN, ok_opNO, ok_nil, ok_cons, ok_OD, ok_Fz, ok_test, ok_B, ok_and, ok_or, ok_not, ok_mIf, ok_lst, ok_tup, ok_callE, ok_items, ok_itemsN, ok_mt1, ok_chain, ok_sl, ok_noPart, ok_part, ok_star, ok_isiT, ok_truB, ok_v0, ok_v1, ok_v2, ok_v3, ok_v4, ok_v5, ok_v6, ok_v7, ok_v8, ok_v9, ok_v10, ok_m0, ok_m1, ok_m2, ok_m3, ok_m4, ok_m5, ok_m6, ok_m7, ok_m8, ok_m9, ok_m10, gt_ii, ge_ii, lt_ii, le_ii, add_ii, sub_ii, asB_b, int_i, isi_str_str, isi_int_str, isi_int_int, isi_int_bool, ix2_0, ix2_1, ofStr_inj, String.reduceEq, or_false, false_or, or_true, true_or, decide_true, decide_false, isiT_lst, isiT_tup, asI_i, sl_lst, tuple_lst, tuple_tup, isNon_non, isNotNon_non, isNotNon_int, isNon_int, isNon_str, isNotNon_str, eqD_int, neD_int, in_char, notIn_char, items_str, items_lst, items_tup, enum_lst, enum_tup, len_lst', len_tup, frz_d, frz_ol, putBack_nil, putBack_0, exists_eq_left', Option.some.injEq, D.int.injEq, D.str.injEq, decide_eq_true_eq, List.length_cons, List.length_nil, List.set, List.cons_append, List.nil_append, List.append_nil, List.replicate, List.map_cons, List.map_nil, List.take, keepIO, Nat.zero_add, Nat.reduceAdd, Nat.reduceLT, Nat.reduceLeDiff, Nat.reduceEqDiff, true_and, and_true, if_true, if_false, Bool.not_true, Bool.not_false, Bool.false_eq_true, List.mem_cons, List.not_mem_nil])
/-! ### adapters -/
def cA : Str := Str.ofString "Adapter"
def adL (ws us : List Str) (cs : List Ctl) : List (Str × Sl) := [(Str.ofString "letters", .d (.tup (ws.map .str))), (Str.ofString "outer", .d (.tup (us.map .str))), (Str.ofString "controls", .d (.tup (cs.map ctlD)))]
def adO (ws us : List Str) (cs : List Ctl) : Sl := .oi (Str.ofString "Adapter") (adL ws us cs)
def adD (ws us : List Str) (cs : List Ctl) : D := .ins (Str.ofString "Adapter") [(Str.ofString "letters", .tup (ws.map .str)), (Str.ofString "outer", .tup (us.map .str)), (Str.ofString "controls", .tup (cs.map ctlD))]
theorem frz_ad {ws us : List Str} {cs : List Ctl} : frz (adO ws us cs) = adD ws us cs := rfl
section
variable {ws us : List Str} {cs : List Ctl} {t u v : Sl} {ρ : DL.Env} {N : DL.Env → Prop} {Q : D → DL.Env → Prop}
theorem get_letters : attrD [Str.ofString "Adapter"] (Str.ofString "letters") (adD ws us cs) = some (.tup (ws.map .str)) := rfl
theorem get_outer : attrD [Str.ofString "Adapter"] (Str.ofString "outer") (adD ws us cs) = some (.tup (us.map .str)) := rfl
theorem get_controls : attrD [Str.ofString "Adapter"] (Str.ofString "controls") (adD ws us cs) = some (.tup (cs.map ctlD)) := rfl
theorem getO_controls : Ok (mAttrV [Str.ofString "Adapter"] (Str.ofString "controls") 0) (some (adO ws us cs) :: ρ) Q = Q (.tup (cs.map ctlD)) (some (adO ws us cs) :: ρ) := rfl
theorem ad_put1 : attrP [Str.ofString "Adapter"] (Str.ofString "letters") 0 t (some (.oi (Str.ofString "Adapter") []) :: ρ) N = N (some (.oi (Str.ofString "Adapter") [(Str.ofString "letters", t)]) :: ρ) := rfl
theorem ad_put2 : attrP [Str.ofString "Adapter"] (Str.ofString "outer") 0 t (some (.oi (Str.ofString "Adapter") [(Str.ofString "letters", u)]) :: ρ) N = N (some (.oi (Str.ofString "Adapter") [(Str.ofString "letters", u), (Str.ofString "outer", t)]) :: ρ) := rfl
theorem ad_put3 : attrP [Str.ofString "Adapter"] (Str.ofString "controls") 0 t (some (.oi (Str.ofString "Adapter") [(Str.ofString "letters", u), (Str.ofString "outer", v)]) :: ρ) N = N (some (.oi (Str.ofString "Adapter") [(Str.ofString "letters", u), (Str.ofString "outer", v), (Str.ofString "controls", t)]) :: ρ) := rfl
end
theorem Adapter_init_ok {ws us : List Str} {cs : List Ctl} (hw : OkWs ws) (hu : OkWs us) (hc : OkCs ws us cs) :
    m_Adapter_init [some (.oi (Str.ofString "Adapter") []), some (.d (.lst (ws.map .str))), some (.d (.lst (us.map .str))), some (.d (.lst (cs.map ctlD)))] = .ok (.d .non) [some (adO ws us cs), none, none, none] := by
  have h0 : 1 ≤ cs.length := List.length_pos_iff.mpr hc.one
  have h24 := hc.most
  have h3 := hu.most
  refine ok_det (ok_runF rfl ?_)
  unfold b_Adapter_init_
  bv_omega
  rw [ok_eq (check_letters_ok hw.all hw.nd hw.one hw.most)]
  bv_omega
  rw [ok_eq (check_outer_ok hu)]
  bv_omega
  simp only [List.length_map]
  rw [if_pos (by omega), if_neg (by simp; omega)]
  refine okS_enum (fun i ρ => ∃ o1 o2, ρ = [some (.oi (Str.ofString "Adapter") []), some (.d (.lst (ws.map .str))), some (.d (.lst (us.map .str))), some (.d (.lst (cs.map ctlD))), o1, o2, none] ∧ (i = 0 ∨ ∃ d, o2 = some (.d d))) ?_ ⟨_, _, rfl, .inl rfl⟩ ?_
  · rintro i d ρ e ⟨o1, o2, rfl, _⟩
    obtain ⟨c, ec, rfl⟩ := map_get e
    refine ⟨_, tgt2 (by simp) (by simp), ?_⟩
    bv_omega
    have hnum : (D.int ((cs.map ctlD).length : Nat)) = numD cs.length := by rw [List.length_map]; rfl
    rw [hnum, ok_eq (is_control_ok (hc.all c (List.mem_of_getElem? ec)) h3 h24)]
    bv_omega
    exact ⟨_, _, rfl, by first | exact .inr ⟨_, rfl⟩ | exact ⟨_, rfl⟩⟩
  · rintro ρ ⟨o1, o2, rfl, ho⟩
    obtain ⟨d, rfl⟩ : ∃ d, o2 = some (.d d) := by
      rcases ho with ho | ho
      · rw [List.length_map] at ho; omega
      · exact ho
    bv_omega
    simp only [ad_put1]
    bv_omega
    simp only [ad_put2]
    bv_omega
    refine ok_lcOver cs ctlD (fun c => .d (ctlD c)) ?_
    bv_omega
    refine ⟨rfl, by omega, fun c hcm => ⟨_, tgName_set (by simp [wipeE]), ?_⟩, ?_⟩
    · simp only [wipeE]
      bv_omega
      rw [ok_eq (as_told_ok (hc.told hcm))]
      bv_omega
    · simp only [wipeE, backE]
      bv_omega
      rw [frzL_map]
      simp only [ad_put3]
      rw [show Sl.oi (Str.ofString "Adapter") [(Str.ofString "letters", .d (.tup (ws.map .str))), (Str.ofString "outer", .d (.tup (us.map .str))), (Str.ofString "controls", .d (.tup (cs.map ctlD)))] = adO ws us cs from rfl]
      bv_omega
      simp only [getO_controls]
      bv_omega
      simp only [List.length_map]
      rw [rng_ok (by omega)]
      bv_omega
      refine okS_range (fun i ρ => ∃ o6, ρ = [some (adO ws us cs), some (.d (.lst (ws.map .str))), some (.d (.lst (us.map .str))), some (.d (.lst (cs.map ctlD))), o1, some (.d d), o6]) ?_ ⟨_, rfl⟩ ?_
      · rintro i ρ hi ⟨o6, rfl⟩
        refine ⟨_, tgName_set (by simp), ?_⟩
        rw [Int.zero_add]
        bv_omega
        simp only [getO_controls]
        bv_omega
        rw [show D.int (i : Nat) = numD i from rfl, ok_eq (on_ring_ok hc h3 hi)]
        bv_omega
        exact ⟨_, rfl⟩
      · rintro ρ ⟨o6, rfl⟩
        bv_omega
/-! ### texts -/
def saysS : Option Str → Str
  | none => Str.ofString "-"
  | some a => a
def grpL (g : Str × Nat) : List Str := [g.1, natS g.2]
def ctlL : Ctl → List Str
  | .wt s ns => waitS :: saysS s :: ns.map natS
  | .dd l n => [doS, l, natS n]
  | .lk gs n => lookS :: natS n :: (gs.map grpL).flatten
def ctlS (c : Ctl) : Str := Str.join sp (ctlL c)
def headS (ws us : List Str) (n : Nat) : List Str := [Str.join sp (Str.ofString "letters" :: ws), Str.join sp (Str.ofString "outer" :: us), Str.ofString "controls " ++ natS n]
def rowsS (ws us : List Str) (cs : List Ctl) : List Str := headS ws us cs.length ++ cs.map ctlS
def textS (ws us : List Str) (cs : List Ctl) : Str := Str.join nl (rowsS ws us cs)
theorem flat_len : ∀ gs : List (Str × Nat), ((gs.map grpL).flatten).length = 2 * gs.length
  | [] => rfl
  | g :: gs => by
    simp only [List.map_cons, List.flatten_cons, List.length_append, flat_len gs, grpL, List.length_cons, List.length_nil]
    omega
theorem ctlL_len {ws : List Str} {no many : Nat} {c : Ctl} (h : OkCtl ws no many c) (hno : no ≤ 3) : (ctlL c).length ≤ 8 := by
  obtain ⟨_, h⟩ := h
  cases c with
  | wt s ns =>
    have h : OkWt no many s ns := h
    have := h.len
    simp only [ctlL, List.length_cons, List.length_map]; omega
  | dd l n => simp [ctlL]
  | lk gs n =>
    have h : OkLk gs := h
    have := h.few
    simp only [ctlL, List.length_cons, flat_len]; omega
/-- each word of a control's line: short, seen -/
theorem ctlL_word {ws : List Str} {no many : Nat} {c : Ctl} (hw : ∀ w ∈ ws, isW w = true) (h : OkCtl ws no many c) (hm : many ≤ 24) : ∀ x ∈ ctlL c, x.length ≤ 12 ∧ Vis x := by
  obtain ⟨hn, h⟩ := h
  have num : ∀ n, n < many → (natS n).length ≤ 12 ∧ Vis (natS n) := fun n hn => ⟨by have := natS_len (n := n) (by omega); omega, natS_vis n⟩
  have hwait : waitS.length ≤ 12 ∧ Vis waitS := ⟨by decide +kernel, vis_of (by decide +kernel)⟩
  have hdo : doS.length ≤ 12 ∧ Vis doS := ⟨by decide +kernel, vis_of (by decide +kernel)⟩
  have hlook : lookS.length ≤ 12 ∧ Vis lookS := ⟨by decide +kernel, vis_of (by decide +kernel)⟩
  cases c with
  | wt s ns =>
    have h : OkWt no many s ns := h
    intro x hx
    simp only [ctlL, List.mem_cons, List.mem_map] at hx
    rcases hx with rfl | rfl | ⟨n, hns, rfl⟩
    · exact hwait
    · cases s with
      | none => exact ⟨by decide +kernel, vis_of (by decide +kernel)⟩
      | some a => exact ⟨(isA_len (h.says a rfl)).2, isA_vis (h.says a rfl)⟩
    · exact num n (hn n hns)
  | dd l n =>
    have h : l ∈ ws := h
    intro x hx
    simp only [ctlL, List.mem_cons, List.not_mem_nil, or_false] at hx
    rcases hx with rfl | rfl | rfl
    · exact hdo
    · have := isW_len (hw _ h)
      exact ⟨by omega, isW_vis (hw _ h)⟩
    · exact num n (hn n (by simp [Ctl.outs]))
  | lk gs n =>
    have h : OkLk gs := h
    intro x hx
    simp only [ctlL, List.mem_cons, List.mem_flatten, List.mem_map] at hx
    rcases hx with rfl | rfl | ⟨l, ⟨g, hg, rfl⟩, hx⟩
    · exact hlook
    · exact num n (hn n (by simp [Ctl.outs]))
    · simp only [grpL, List.mem_cons, List.not_mem_nil, or_false] at hx
      rcases hx with rfl | rfl
      · exact ⟨(isA_len (h.ans g hg)).2, isA_vis (h.ans g hg)⟩
      · exact num g.2 (hn g.2 (by simp only [Ctl.outs, List.mem_append, List.mem_map]; exact .inl ⟨g, hg, rfl⟩))
theorem ctlL_le {ws : List Str} {no many : Nat} {c : Ctl} (hw : ∀ w ∈ ws, isW w = true) (h : OkCtl ws no many c) (hm : many ≤ 24) : ∀ x ∈ ctlL c, x.length ≤ 12 := fun x hx => (ctlL_word hw h hm x hx).1
theorem ctlS_le {ws : List Str} {no many : Nat} {c : Ctl} (hw : ∀ w ∈ ws, isW w = true) (h : OkCtl ws no many c) (hno : no ≤ 3) (hm : many ≤ 24) : (ctlS c).length ≤ 104 := by
  have a := len_join' (y := sp) (ctlL_le hw h hm)
  have b := ctlL_len h hno
  have e : sp.length = 1 := by decide +kernel
  rw [e] at a
  unfold ctlS
  have : (ctlL c).length * (12 + 1) ≤ 8 * 13 := Nat.mul_le_mul b (by omega)
  omega
theorem headO_le {us : List Str} (h : OkWs us) : ∀ x ∈ Str.ofString "outer" :: us, x.length ≤ 8 := fun x hx => by
  rcases List.mem_cons.mp hx with rfl | hx
  · decide +kernel
  · exact okws_le h x hx
theorem rowsS_le {ws us : List Str} {cs : List Ctl} (hw : OkWs ws) (hu : OkWs us) (hc : OkCs ws us cs) : ∀ x ∈ rowsS ws us cs, x.length ≤ 104 := fun x hx => by
  have h3 := hw.most
  have h4 := hu.most
  have h5 := hc.most
  have e : sp.length = 1 := by decide +kernel
  rcases List.mem_append.mp hx with hx | hx
  · simp only [headS, List.mem_cons, List.not_mem_nil, or_false] at hx
    rcases hx with rfl | rfl | rfl
    · have := len_join' (y := sp) (head1_le hw)
      simp only [List.length_cons, e] at this
      have : (ws.length + 1) * (8 + 1) ≤ 36 := by omega
      omega
    · have := len_join' (y := sp) (headO_le hu)
      simp only [List.length_cons, e] at this
      have : (us.length + 1) * (8 + 1) ≤ 36 := by omega
      omega
    · rw [len_app]
      have := natS_len (n := cs.length) (by omega)
      have e2 : (Str.ofString "controls ").length = 9 := by decide +kernel
      omega
  · obtain ⟨c, hcm, rfl⟩ := List.mem_map.mp hx
    exact ctlS_le hw.all (hc.all c hcm) h4 h5
theorem rowsS_len {ws us : List Str} {cs : List Ctl} (hc : OkCs ws us cs) : (rowsS ws us cs).length ≤ 27 := by
  have := hc.most
  simp only [rowsS, headS, List.length_append, List.length_cons, List.length_nil, List.length_map]
  omega
end G72

end
section
set_option Elab.async false
set_option linter.all false
set_option autoImplicit false
set_option maxRecDepth 100000
set_option maxHeartbeats 4000000
namespace G72
open PySem PySem.Spec L2 NdefX DL
open TL (tl)
local macro_rules
  | `(tactic| bv_omega) => `(tactic| try simp only [okS_seq, ok_jsNil, ok_jsCons, seq_tup, seq_lst, ok_f0, ok_g0, ok_f1, ok_g1, ok_f2, ok_g2, ok_f3, ok_g3, ok_f4, ok_g4, ok_f5, ok_g5, ok_f6, ok_g6, ok_f7, ok_g7, ok_f8, ok_g8, ok_f9, ok_g9, ok_f10, ok_g10, ok_f11, ok_g11, okS_attr, okS_asg, okS_ret, okS_drop, okS_sIf, okS_next, okS_for, okS_tgt, okS_fail, okS_retN, ok_C, ok_op2, ok_op1, ok_opN, ok_opNO, ok_nil, ok_cons, ok_OD, ok_Fz, ok_test, ok_B, ok_and, ok_or, ok_not, ok_mIf, ok_lst, ok_tup, ok_callE, ok_items, ok_itemsN, ok_mt1, ok_chain, ok_sl, ok_noPart, ok_part, ok_star, ok_isiT, ok_truB, ok_v0, ok_v1, ok_v2, ok_v3, ok_v4, ok_v5, ok_v6, ok_v7, ok_v8, ok_v9, ok_v10, ok_m0, ok_m1, ok_m2, ok_m3, ok_m4, ok_m5, ok_m6, ok_m7, ok_m8, ok_m9, ok_m10, gt_ii, ge_ii, lt_ii, le_ii, add_ii, sub_ii, asB_b, int_i, isi_str_str, isi_int_str, isi_int_int, isi_int_bool, ix2_0, ix2_1, ofStr_inj, String.reduceEq, or_false, false_or, or_true, true_or, decide_true, decide_false, isiT_lst, isiT_tup, asI_i, sl_lst, tuple_lst, tuple_tup, isNon_non, isNotNon_non, isNotNon_int, isNon_int, isNon_str, isNotNon_str, eqD_int, neD_int, in_char, notIn_char, items_str, items_lst, items_tup, enum_lst, enum_tup, len_lst', len_tup, frz_d, frz_ol, putBack_nil, putBack_0, exists_eq_left', Option.some.injEq, D.int.injEq, D.str.injEq, decide_eq_true_eq, List.length_cons, List.length_nil, List.set, List.cons_append, List.nil_append, List.append_nil, List.replicate, List.map_cons, List.map_nil, List.take, keepIO, Nat.zero_add, Nat.reduceAdd, Nat.reduceLT, Nat.reduceLeDiff, Nat.reduceEqDiff, true_and, and_true, if_true, if_false, Bool.not_true, Bool.not_false, Bool.false_eq_true, List.mem_cons, List.not_mem_nil])
/-! ### writing -/
theorem str_numD {n : Nat} (h : n < 2 ^ 40) : strD [numD n] = some (.str (natS n)) := str_nat h
theorem ok_strsN {vs : Nat} {gi : M D} {ns : List Nat} {ρ : DL.Env} {Q : Sl → DL.Env → Prop} (hb : ∀ n ∈ ns, n < 2 ^ 30) (hl : ns.length ≤ 1000)
    (h : Ok gi ρ fun d ρ1 => d = .tup (ns.map numD) ∧ vs < ρ1.length ∧ (∀ o, ρ1[vs]? = some (some o) → ∃ d, o = .d d) ∧ Q (.ol ((ns.map natS).map fun x => .d (.str x))) ρ1) :
    Ok (mLc [vs] (mItems itemsS gi) (tgName vs) (M.pure true) (mOD (mOpN strD (mCons (mVar vs) mNil)))) ρ Q := by
  refine ok_lcOver ns numD (fun n => .d (.str (natS n))) ?_
  rw [ok_items]
  refine h.imp fun d ρ1 ⟨e, h2, h3, q⟩ => ?_
  subst e
  refine ⟨_, rfl, rfl, ?_, by omega, fun n hn => ⟨_, tgName_set (by simpa [wipeE] using h2), ?_⟩, ?_⟩
  · unfold plainAt plainAt
    cases e : ρ1[vs]? with
    | none => rfl
    | some o => cases o with
      | none => rfl
      | some s =>
        obtain ⟨d, rfl⟩ := h3 s e
        rfl
  · rw [ok_OD, ok_opN, ok_cons, ok_var (d := numD n) (by simp [wipeE, h2])]
    simp only [ok_nil]
    refine ⟨_, str_numD (by have := hb n hn; omega), rfl, ?_⟩
    simp [wipeE]
  · have e3 : backE ρ1 (wipeE ρ1 [vs]) [vs] = ρ1 := by
      simp only [backE, wipeE, List.set_set]
      have e : ρ1[vs]? = some (ρ1[vs]?.getD none) := by rw [List.getElem?_eq_getElem h2]; rfl
      exact set_get e
    rw [e3]
    have e4 : (ns.map natS).map (fun x => Sl.d (.str x)) = ns.map fun n => .d (.str (natS n)) := by rw [List.map_map]; rfl
    rw [e4] at q
    exact q
theorem says_if (s : Option Str) : ∃ b : Bool, isNonD (saysD s) .non = some (.bl b) ∧ (if b = true then D.str (Str.ofString "-") else saysD s) = .str (saysS s) := by
  cases s with
  | none => exact ⟨true, rfl, rfl⟩
  | some a => exact ⟨false, rfl, rfl⟩
def dstr (l : List Str) : List Sl := l.map fun x => .d (.str x)
theorem dstr_app (a b : List Str) : dstr a ++ dstr b = dstr (a ++ b) := by unfold dstr; rw [List.map_append]
theorem frzL_dstr (l : List Str) : frzL (dstr l) = l.map .str := frzL_strs l
theorem control_words_ok {ws : List Str} {no many : Nat} {c : Ctl} (h : OkCtl ws no many c) (hno : no ≤ 3) (hm : many ≤ 24) : m_control_words [some (.d (ctlD c))] = .ok (.ol (dstr (ctlL c))) [none] := by
  obtain ⟨hn, h⟩ := h
  refine ok_det (ok_runF rfl ?_)
  unfold b_control_words_
  cases c with
  | wt s ns =>
    have h : OkWt no many s ns := h
    have hl := h.len
    unfold ctlD
    bv_omega
    simp only [ix3_0, ix3_1, ix3_2, wait_is, Option.some.injEq, exists_eq_left', eq_ww]
    bv_omega
    have tail : ∀ d, d = D.str (saysS s) → Ok (mLc [1] (mItems itemsS (mOp2 ixD (mVar 0) (mC (.int 2)))) (tgName 1) (M.pure true) (mOD (mOpN strD (mCons (mVar 1) mNil)))) [some (.d (.tup [.str waitS, saysD s, .tup (ns.map numD)])), none, none, none] fun s_1 ρ1 =>
        ∃ l, seqItems (frz s_1) = some l ∧ ∃ z, mkLst (Sl.d (.str waitS) :: Sl.d d :: l.map Sl.d) = some z ∧ z = .ol (dstr (ctlL (.wt s ns))) ∧ keepIO [] 0 (List.take 1 ρ1) = [none] := fun d hd => by
      subst hd
      refine ok_strsN (ns := ns) (fun n hx => by have := hn n hx; omega) (by omega) ?_
      bv_omega
      simp only [ix3_2, Option.some.injEq, exists_eq_left', true_and]
      refine ⟨fun o ho => (by cases ho), _, mkLst_ok (by rw [frzL_strs]; simp; omega), ?_⟩
      rw [frzL_strs]
      simp [dstr, ctlL]
    obtain ⟨b, e1, e2⟩ := says_if s
    rw [e1]
    simp only [Option.some.injEq, exists_eq_left', asB_b]
    cases b with
    | true =>
      simp only [if_true] at e2 ⊢
      exact tail _ e2
    | false =>
      simp only [Bool.false_eq_true, if_false] at e2 ⊢
      bv_omega
      exact tail _ e2
  | dd l n =>
    have hn := hn n (by simp [Ctl.outs])
    unfold ctlD
    bv_omega
    simp only [ix3_0, ix3_1, ix3_2, wait_is, do_is, Option.some.injEq, exists_eq_left', eq_dw, eq_dd]
    bv_omega
    exact ⟨_, str_numD (by omega), _, mkLst_ok (by simp), rfl⟩
  | lk gs n =>
    have h : OkLk gs := h
    have few := h.few
    have hn2 := hn n (by simp [Ctl.outs])
    unfold ctlD
    bv_omega
    simp only [ix3_0, ix3_1, ix3_2, wait_is, do_is, look_is, Option.some.injEq, exists_eq_left', eq_lw, eq_ld]
    bv_omega
    refine ⟨_, str_numD (by omega), _, mkLst_ok (by simp), ?_⟩
    refine okS_loopI (fun i ρ => ∃ o1 o3, ρ = [some (.d (.tup [.str lookS, .tup (gs.map grpD), numD n])), o1, some (.ol (dstr (lookS :: natS n :: ((gs.take i).map grpL).flatten))), o3]) ?_ ⟨_, _, rfl⟩ ?_
    · rintro i d ρ e ⟨o1, o3, rfl⟩
      obtain ⟨g, eg, rfl⟩ := map_get e
      have hg : g ∈ gs := List.mem_of_getElem? eg
      have hgn := hn g.2 (by simp only [Ctl.outs, List.mem_append, List.mem_map]; exact .inl ⟨g, hg, rfl⟩)
      refine ⟨_, tgt2 (a := .str g.1) (b := numD g.2) (by simp) (by simp), ?_⟩
      bv_omega
      refine mExt_ok (l := dstr (lookS :: natS n :: ((gs.take i).map grpL).flatten)) rfl ?_
      bv_omega
      refine ⟨_, str_numD (by omega), _, mkLst_ok (by simp), ?_⟩
      refine ⟨_, _, rfl, rfl, ?_, ?_⟩
      · simp only [dstr, List.length_map, List.length_cons, flat_len, List.length_take, List.length_nil]
        omega
      · refine ⟨some (.d (numD g.2)), some (.d (.str g.1)), ?_⟩
        rw [show [Sl.d (.str g.1), Sl.d (.str (natS g.2))] = dstr (grpL g) from rfl, dstr_app]
        have e5 : gs.take (i + 1) = gs.take i ++ [g] := by rw [List.take_add_one, eg]; rfl
        rw [e5, List.map_append, List.flatten_append]
        simp
    · rintro ρ ⟨o1, o3, rfl⟩
      rw [List.length_map, List.take_length]
      bv_omega
      rfl
end G72

end
section
set_option Elab.async false
set_option linter.all false
set_option autoImplicit false
set_option maxRecDepth 100000
set_option maxHeartbeats 4000000
namespace G72
open PySem PySem.Spec L2 NdefX DL
open TL (tl)
local macro_rules
  | `(tactic| bv_omega) => `(tactic| try simp only [okS_seq, ok_jsNil, ok_jsCons, seq_tup, seq_lst, ok_f0, ok_g0, ok_f1, ok_g1, ok_f2, ok_g2, ok_f3, ok_g3, ok_f4, ok_g4, ok_f5, ok_g5, ok_f6, ok_g6, ok_f7, ok_g7, ok_f8, ok_g8, ok_f9, ok_g9, ok_f10, ok_g10, ok_f11, ok_g11, okS_attr, okS_asg, okS_ret, okS_drop, okS_sIf, okS_next, okS_for, okS_tgt, okS_fail, okS_retN, ok_C, ok_op2, ok_op1, ok_opN, ok_opNO, ok_nil, ok_cons, ok_OD, ok_Fz, ok_test, ok_B, ok_and, ok_or, ok_not, ok_mIf, ok_lst, ok_tup, ok_callE, ok_items, ok_itemsN, ok_mt1, ok_chain, ok_sl, ok_noPart, ok_part, ok_star, ok_isiT, ok_truB, ok_v0, ok_v1, ok_v2, ok_v3, ok_v4, ok_v5, ok_v6, ok_v7, ok_v8, ok_v9, ok_v10, ok_m0, ok_m1, ok_m2, ok_m3, ok_m4, ok_m5, ok_m6, ok_m7, ok_m8, ok_m9, ok_m10, gt_ii, ge_ii, lt_ii, le_ii, add_ii, sub_ii, asB_b, int_i, isi_str_str, isi_int_str, isi_int_int, isi_int_bool, ix2_0, ix2_1, ofStr_inj, String.reduceEq, or_false, false_or, or_true, true_or, decide_true, decide_false, isiT_lst, isiT_tup, asI_i, sl_lst, tuple_lst, tuple_tup, isNon_non, isNotNon_non, isNotNon_int, isNon_int, isNon_str, isNotNon_str, eqD_int, neD_int, in_char, notIn_char, items_str, items_lst, items_tup, enum_lst, enum_tup, len_lst', len_tup, frz_d, frz_ol, putBack_nil, putBack_0, exists_eq_left', Option.some.injEq, D.int.injEq, D.str.injEq, decide_eq_true_eq, List.length_cons, List.length_nil, List.set, List.cons_append, List.nil_append, List.append_nil, List.replicate, List.map_cons, List.map_nil, List.take, keepIO, Nat.zero_add, Nat.reduceAdd, Nat.reduceLT, Nat.reduceLeDiff, Nat.reduceEqDiff, true_and, and_true, if_true, if_false, Bool.not_true, Bool.not_false, Bool.false_eq_true, List.mem_cons, List.not_mem_nil])
/-! ### writing: the whole text -/
theorem one_sp : (Str.ofString " ").length = 1 := by decide +kernel
theorem one_nl : (Str.ofString "\n").length = 1 := by decide +kernel
theorem join_ctl {ws : List Str} {no many : Nat} {c : Ctl} (hw : ∀ w ∈ ws, isW w = true) (h : OkCtl ws no many c) (hno : no ≤ 3) (hm : many ≤ 24) : joinD (.str (Str.ofString " ")) (.lst ((ctlL c).map .str)) = some (.str (ctlS c)) := by
  have := ctlL_len h hno
  exact join_ok (ctlL_le hw h hm) (by rw [one_sp]; omega)
theorem frz_cons_strs {a : Str} {ws : List Str} : frz (.ol (Sl.d (.str a) :: (ws.map D.str).map Sl.d)) = .lst ((a :: ws).map .str) := by
  rw [frz_ol, show Sl.d (.str a) :: (ws.map D.str).map Sl.d = (a :: ws).map fun x => .d (.str x) by rw [map_dstr]; rfl, frzL_strs]
theorem write_adapter_ok {ws us : List Str} {cs : List Ctl} {s0 : Sl} (hf : frz s0 = adD ws us cs) (hw : OkWs ws) (hu : OkWs us) (hc : OkCs ws us cs) :
    m_write_adapter [some s0] = .ok (.d (.str (textS ws us cs))) [none] := by
  have h3 := hw.most
  have h4 := hu.most
  have h5 := hc.most
  refine ok_det (ok_runF rfl ?_)
  unfold b_write_adapter_
  bv_omega
  rw [okV_F (s := s0) rfl, hf]
  bv_omega
  simp only [get_letters, get_outer, get_controls]
  bv_omega
  have e9 : (Str.ofString "controls ").length = 9 := by decide +kernel
  have ee : Str.empty ++ Str.ofString "controls " = Str.ofString "controls " := by decide +kernel
  have nlen := natS_len (n := cs.length) (by omega)
  have j1 : joinD (.str (Str.ofString " ")) (frz (.ol (Sl.d (.str (Str.ofString "letters")) :: (ws.map D.str).map Sl.d))) = some (.str (Str.join sp (Str.ofString "letters" :: ws))) := by
    rw [frz_cons_strs]; exact join_ok (head1_le hw) (by simp only [List.length_cons, one_sp]; omega)
  have j2 : joinD (.str (Str.ofString " ")) (frz (.ol (Sl.d (.str (Str.ofString "outer")) :: (us.map D.str).map Sl.d))) = some (.str (Str.join sp (Str.ofString "outer" :: us))) := by
    rw [frz_cons_strs]; exact join_ok (headO_le hu) (by simp only [List.length_cons, one_sp]; omega)
  refine ⟨_, mkLst_ok (by simp; omega), _, j1, _, mkLst_ok (by simp; omega), _, j2, _, mkLst_ok (by simp), ?_⟩
  refine ok_app rfl ?_
  bv_omega
  simp only [get_controls]
  bv_omega
  simp only [List.length_map, ee]
  refine ⟨by omega, _, fmt_nat (by omega), _, rfl, by rw [len_app]; omega, _, rfl, by simp, ?_⟩
  refine ok_lcOver cs ctlD (fun c => .d (.str (ctlS c))) ?_
  bv_omega
  simp only [get_controls]
  bv_omega
  refine ⟨rfl, by omega, fun c hcm => ⟨_, tgName_set (by simp [wipeE]), ?_⟩, ?_⟩
  · simp only [wipeE]
    bv_omega
    rw [ok_eq (control_words_ok (hc.all c hcm) h4 h5)]
    bv_omega
    have ej := join_ctl hw.all (hc.all c hcm) h4 h5
    rw [← frzL_dstr, ← frz_ol] at ej
    exact ⟨_, ej, rfl⟩
  · simp only [wipeE, backE]
    bv_omega
    have e3 : ∀ a b c : Str, frzL [Sl.d (.str a), .d (.str b), .d (.str c)] = [.str a, .str b, .str c] := fun _ _ _ => rfl
    have ec : frzL (cs.map fun c => Sl.d (.str (ctlS c))) = cs.map fun c => D.str (ctlS c) := frzL_map _ _
    rw [e3, ec]
    have ef : frz (.ol ([D.str (Str.join sp (Str.ofString "letters" :: ws)), .str (Str.join sp (Str.ofString "outer" :: us)), .str (Str.ofString "controls " ++ natS cs.length)].map Sl.d ++ (cs.map fun c => D.str (ctlS c)).map Sl.d)) = .lst ((rowsS ws us cs).map .str) := by
      rw [frz_ol, ← List.map_append, frzL_d]
      simp [rowsS, headS]
    refine ⟨_, mkLst_ok (by simp; omega), .str (textS ws us cs), ?_, rfl⟩
    rw [ef]
    have := rowsS_len hc
    exact join_ok (rowsS_le hw hu hc) (by rw [one_nl]; omega)
theorem addO_strs {a b : List Str} (h : a.length + b.length ≤ 16777216) : DL.addO (.lst (a.map .str)) (.lst (b.map .str)) = some (.ol (dstr (a ++ b))) := by
  have z : lineOk ((a.map D.str).length + (b.map D.str).length) = true := decide_eq_true (by simpa using h)
  unfold DL.addO
  simp only [z, if_true, ← List.map_append, map_dstr]
  rfl
theorem addD_strs {a b : List Str} (h : a.length + b.length ≤ 16777216) : DL.addD (.lst (a.map .str)) (.lst (b.map .str)) = some (.lst ((a ++ b).map .str)) := by
  have z : (a.map D.str).length + (b.map D.str).length ≤ 16777216 := by simpa using h
  rw [List.map_append]
  exact if_pos (decide_eq_true z)
theorem ok_op2O {f : D → D → Option Sl} {g h : M D} {ρ : DL.Env} {Q : Sl → DL.Env → Prop} : Ok (mOp2O f g h) ρ Q = Ok g ρ fun x ρ1 => Ok h ρ1 fun y ρ2 => ∃ z, f x y = some z ∧ Q z ρ2 := by
  unfold mOp2O; simp only [ok_bind, ok_of]
theorem ok_five {o0 o1 o2 o3 o4 o6 o7 : Option Sl} {l : List Str} {Q : D → DL.Env → Prop} : Ok (mVar 5) [o0, o1, o2, o3, o4, some (.ol (dstr l)), o6, o7] Q = Q (.lst (l.map .str)) [o0, o1, o2, o3, o4, some (.d (.lst (l.map .str))), o6, o7] := by
  rw [okV_F (s := .ol (dstr l)) rfl, frz_ol, frzL_dstr]; rfl
def says4 : M D := (mIf (mTest (mOp2 isNonD (mOp2 ixD (mVar 4) (mC (.int 1))) (mC .non))) (mC (.str (PySem.Str.ofString "-"))) (mOp2 ixD (mVar 4) (mC (.int 1))))
theorem ok_says4 {o0 o1 o2 o3 o5 o6 o7 : Option Sl} {a c : D} {s : Option Str} {Q : D → DL.Env → Prop} : Ok says4 [o0, o1, o2, o3, some (.d (.tup [a, saysD s, c])), o5, o6, o7] Q = Q (.str (saysS s)) [o0, o1, o2, o3, some (.d (.tup [a, saysD s, c])), o5, o6, o7] := by
  unfold says4
  cases s <;> rfl
def lawBody : SM := (sSeq (sAsg 5 (mLst (mCons (mOD (mOp2 ixD (mVar 4) (mC (.int 0)))) mNil))) (sSeq (sIf (mTest (mOp2 eqD (mOp2 ixD (mVar 4) (mC (.int 0))) (mC (.str (PySem.Str.ofString "wait"))))) (sAsg 5 (mOp2O addO (mOp2 addD (mVar 5) (mFz (mLst (mCons (mOD says4) mNil)))) (mFz (mLc [6] (mItems itemsS (mOp2 ixD (mVar 4) (mC (.int 2)))) (tgName 6) (M.pure true) (mOD (mOpN strD (mCons (mVar 6) mNil))))))) sNext) (sSeq (sIf (mTest (mOp2 eqD (mOp2 ixD (mVar 4) (mC (.int 0))) (mC (.str (PySem.Str.ofString "do"))))) (sAsg 5 (mOp2O addO (mVar 5) (mFz (mLst (mCons (mOD (mOp2 ixD (mVar 4) (mC (.int 1)))) (mCons (mOD (mOpN strD (mCons (mOp2 ixD (mVar 4) (mC (.int 2))) mNil))) mNil)))))) sNext) (sSeq (sIf (mTest (mOp2 eqD (mOp2 ixD (mVar 4) (mC (.int 0))) (mC (.str (PySem.Str.ofString "look"))))) (sSeq (sDrop (mApp 5 (mOD (mOpN strD (mCons (mOp2 ixD (mVar 4) (mC (.int 2))) mNil))))) (sForI (mItems itemsS (mOp2 ixD (mVar 4) (mC (.int 1)))) (tgTup 2 (tgsCons (tgName 7) (tgsCons (tgName 6) tgsNil))) (sAsg 5 (mOp2O addO (mVar 5) (mFz (mLst (mCons (mOD (mVar 7)) (mCons (mOD (mOpN strD (mCons (mVar 6) mNil))) mNil)))))))) sNext) (sDrop (mApp 3 (mOD (mMt1 joinD (mC (.str (PySem.Str.ofString " "))) (mVar 5)))))))))
theorem lawBody_ok {ws : List Str} {no many : Nat} {c : Ctl} {o0 o1 o2 o5 o6 o7 : Option Sl} {rows : List Str} {R : Sl → DL.Env → Prop} (hw : ∀ w ∈ ws, isW w = true) (h : OkCtl ws no many c) (hno : no ≤ 3) (hm : many ≤ 24) (hr : rows.length ≤ 1000) (h6 : ∀ o, o6 = some o → ∃ d, o = .d d) :
    OkS lawBody [o0, o1, o2, some (.ol (dstr rows)), some (.d (ctlD c)), o5, o6, o7] (fun ρ => ∃ o5 o6 o7, (∀ o, o6 = some o → ∃ d, o = .d d) ∧ ρ = [o0, o1, o2, some (.ol (dstr (rows ++ [ctlS c]))), some (.d (ctlD c)), o5, o6, o7]) R := by
  have ej := join_ctl hw h hno hm
  have e1 : ∀ o6 o7 : Option Sl, (∀ o, o6 = some o → ∃ d, o = .d d) → Ok (mApp 3 (mOD (mMt1 joinD (mC (.str (Str.ofString " "))) (mVar 5)))) [o0, o1, o2, some (.ol (dstr rows)), some (.d (ctlD c)), some (.ol (dstr (ctlL c))), o6, o7] fun _ ρ => ∃ o5 o6 o7, (∀ o, o6 = some o → ∃ d, o = .d d) ∧ ρ = [o0, o1, o2, some (.ol (dstr (rows ++ [ctlS c]))), some (.d (ctlD c)), o5, o6, o7] := fun o6 o7 h6 => by
    refine ok_app rfl ?_
    bv_omega
    rw [frzL_dstr]
    refine ⟨_, ej, _, rfl, by simp [dstr]; omega, some (.d (.lst ((ctlL c).map .str))), o6, o7, h6, ?_⟩
    rw [← dstr_app]
    rfl
  obtain ⟨hn, h⟩ := h
  unfold lawBody
  cases c with
  | wt s ns =>
    have h : OkWt no many s ns := h
    have hl := h.len
    unfold ctlD
    bv_omega
    simp only [ix3_0, ix3_1, ix3_2, wait_is, do_is, look_is, Option.some.injEq, exists_eq_left', eq_ww, eq_wd, eq_wl]
    bv_omega
    refine ⟨_, mkLst_ok (by simp), ?_⟩
    rw [show [Sl.d (.str waitS)] = dstr [waitS] from rfl]
    simp only [ok_op2O, ok_five]
    bv_omega
    simp only [ok_says4]
    bv_omega
    refine ⟨_, mkLst_ok (by simp), _, addD_strs (a := [waitS]) (b := [saysS s]) (by simp), ?_⟩
    refine ok_strsN (ns := ns) (fun n hx => by have := hn n hx; omega) (by omega) ?_
    bv_omega
    simp only [ix3_2, Option.some.injEq, exists_eq_left', true_and]
    rw [frzL_strs]
    refine ⟨fun o ho => h6 o (by simpa using ho), _, addO_strs (a := [waitS] ++ [saysS s]) (b := ns.map natS) (by simp; omega), ?_⟩
    bv_omega
    simp only [ix3_0, Option.some.injEq, exists_eq_left', eq_wd, eq_wl]
    bv_omega
    exact e1 _ _ h6
  | dd l n =>
    have hn := hn n (by simp [Ctl.outs])
    unfold ctlD
    bv_omega
    simp only [ix3_0, ix3_1, ix3_2, wait_is, do_is, look_is, Option.some.injEq, exists_eq_left', eq_dw, eq_dd, eq_dl]
    bv_omega
    refine ⟨_, mkLst_ok (by simp), ?_⟩
    rw [show [Sl.d (.str doS)] = dstr [doS] from rfl]
    simp only [ok_op2O, ok_five]
    bv_omega
    refine ⟨_, ix3_1, _, ix3_2, _, str_numD (by omega), _, mkLst_ok (by simp), _, addO_strs (a := [doS]) (b := [l, natS n]) (by simp), ?_⟩
    bv_omega
    simp only [ix3_0, Option.some.injEq, exists_eq_left', eq_dd, eq_dl]
    bv_omega
    exact e1 _ _ h6
  | lk gs n =>
    have h : OkLk gs := h
    have few := h.few
    have hn2 := hn n (by simp [Ctl.outs])
    unfold ctlD
    bv_omega
    simp only [ix3_0, ix3_1, ix3_2, wait_is, do_is, look_is, Option.some.injEq, exists_eq_left', eq_lw, eq_ld, eq_ll]
    bv_omega
    refine ⟨_, mkLst_ok (by simp), ?_⟩
    rw [show [Sl.d (.str lookS)] = dstr [lookS] from rfl]
    refine ok_app rfl ?_
    bv_omega
    simp only [ix3_0, ix3_1, ix3_2, Option.some.injEq, exists_eq_left']
    refine ⟨_, str_numD (by omega), _, rfl, by simp [dstr], ?_⟩
    rw [show dstr [lookS] ++ [Sl.d (.str (natS n))] = dstr [lookS, natS n] from rfl]
    try bv_omega
    try simp only [ix3_0, ix3_1, ix3_2, Option.some.injEq, exists_eq_left']
    try bv_omega
    refine okS_loopI (fun i ρ => ∃ o6 o7, (∀ o, o6 = some o → ∃ d, o = .d d) ∧ ρ = [o0, o1, o2, some (.ol (dstr rows)), some (.d (.tup [.str lookS, .tup (gs.map grpD), numD n])), some (.ol (dstr (lookS :: natS n :: ((gs.take i).map grpL).flatten))), o6, o7]) ?_ ⟨_, _, h6, rfl⟩ ?_
    · rintro i d ρ e ⟨o6, o7, h6, rfl⟩
      obtain ⟨g, eg, rfl⟩ := map_get e
      have hg : g ∈ gs := List.mem_of_getElem? eg
      have hgn := hn g.2 (by simp only [Ctl.outs, List.mem_append, List.mem_map]; exact .inl ⟨g, hg, rfl⟩)
      refine ⟨_, tgt2 (a := .str g.1) (b := numD g.2) (by simp) (by simp), ?_⟩
      bv_omega
      simp only [ok_op2O, ok_five]
      bv_omega
      refine ⟨_, str_numD (by omega), _, mkLst_ok (by simp), _, addO_strs (a := lookS :: natS n :: ((gs.take i).map grpL).flatten) (b := grpL g) (by
        simp only [List.length_cons, flat_len, List.length_take, grpL, List.length_nil]; omega), ?_⟩
      try bv_omega
      refine ⟨some (.d (numD g.2)), some (.d (.str g.1)), fun o ho => ⟨numD g.2, (Option.some.inj ho).symm⟩, ?_⟩
      have e5 : gs.take (i + 1) = gs.take i ++ [g] := by rw [List.take_add_one, eg]; rfl
      rw [e5, List.map_append, List.flatten_append]
      simp
    · rintro ρ ⟨o6, o7, h6, rfl⟩
      rw [List.length_map, List.take_length]
      exact e1 _ _ h6
theorem law_adapter_text_ok {ws us : List Str} {cs : List Ctl} (hw : OkWs ws) (hu : OkWs us) (hc : OkCs ws us cs) :
    m__law_adapter_text [some (.d (.lst (ws.map .str))), some (.d (.lst (us.map .str))), some (.d (.lst (cs.map ctlD)))] = .ok (.d (.str (textS ws us cs))) [none, none, none] := by
  have h3 := hw.most
  have h4 := hu.most
  have h5 := hc.most
  refine ok_det (ok_runF rfl ?_)
  have T : OkS (sSeq (sForI (mItems itemsS (mVar 2)) (tgName 4) lawBody) (sRet (mOD (mMt1 joinD (mC (.str (Str.ofString "\n"))) (mVar 3))))) [some (.d (.lst (ws.map .str))), some (.d (.lst (us.map .str))), some (.d (.lst (cs.map ctlD))), some (.ol (dstr (headS ws us cs.length))), none, none, none, none] (fun _ => False) fun s ρ => s = .d (.str (textS ws us cs)) ∧ keepIO [] 0 (ρ.take 3) = [none, none, none] := by
    bv_omega
    refine okS_loopI (fun i ρ => ∃ o4 o5 o6 o7, (∀ o, o6 = some o → ∃ d, o = .d d) ∧ ρ = [some (.d (.lst (ws.map .str))), some (.d (.lst (us.map .str))), some (.d (.lst (cs.map ctlD))), some (.ol (dstr (headS ws us cs.length ++ (cs.take i).map ctlS))), o4, o5, o6, o7]) ?_ ⟨none, none, none, none, (by simp), by simp⟩ ?_
    · rintro i d ρ e ⟨o4, o5, o6, o7, h6, rfl⟩
      obtain ⟨c, ec, rfl⟩ := map_get e
      refine ⟨_, tgName_set (by simp), ?_⟩
      refine (lawBody_ok (rows := headS ws us cs.length ++ (cs.take i).map ctlS) hw.all (hc.all c (List.mem_of_getElem? ec)) h4 h5 (by simp [headS]; omega) h6).imp ?_ fun _ _ h => h
      rintro ρ ⟨o5, o6, o7, h6, rfl⟩
      refine ⟨some (.d (ctlD c)), o5, o6, o7, h6, ?_⟩
      rw [List.take_add_one, ec]
      simp
    · rintro ρ ⟨o4, o5, o6, o7, h6, rfl⟩
      rw [List.length_map, List.take_length]
      bv_omega
      rw [frzL_dstr]
      have := rowsS_len hc
      rw [show headS ws us cs.length ++ cs.map ctlS = rowsS ws us cs from rfl]
      exact ⟨_, join_ok (rowsS_le hw hu hc) (by rw [one_nl]; omega), rfl⟩
  unfold lawBody says4 at T
  revert T
  unfold b__law_adapter_text_
  bv_omega
  intro T
  have e8 : (Str.ofString "letters ").length = 8 := by decide +kernel
  have e6 : (Str.ofString "outer ").length = 6 := by decide +kernel
  have e9 : (Str.ofString "controls ").length = 9 := by decide +kernel
  have jl := len_join' (y := Str.ofString " ") (okws_le hw)
  have ju := len_join' (y := Str.ofString " ") (okws_le hu)
  rw [one_sp] at jl ju
  have nlen := natS_len (n := cs.length) (by omega)
  simp only [List.length_map]
  refine ⟨_, join_ok (okws_le hw) (by rw [one_sp]; omega), _, add_str (by rw [e8]; omega), _, join_ok (okws_le hu) (by rw [one_sp]; omega), _, add_str (by rw [e6]; omega), _, str_nat (by omega), _, add_str (by rw [e9]; omega), _, mkLst_ok (by simp), ?_⟩
  have d1 : Str.ofString "letters " ++ (Str.ofString " ").join ws = Str.join sp (Str.ofString "letters" :: ws) := by
    rw [join_cons hw.one]
    have e : Str.ofString "letters " = Str.ofString "letters" ++ sp := by decide +kernel
    rw [e]; rfl
  have d2 : Str.ofString "outer " ++ (Str.ofString " ").join us = Str.join sp (Str.ofString "outer" :: us) := by
    rw [join_cons hu.one]
    have e : Str.ofString "outer " = Str.ofString "outer" ++ sp := by decide +kernel
    rw [e]; rfl
  rw [d1, d2]
  exact T
end G72

end
section
set_option Elab.async false
set_option linter.all false
set_option autoImplicit false
set_option maxRecDepth 100000
set_option maxHeartbeats 4000000
namespace G72
open PySem PySem.Spec L2 NdefX DL
open TL (tl)
local macro_rules
  | `(tactic| bv_omega) => `(tactic| try simp only [okS_seq, ok_jsNil, ok_jsCons, seq_tup, seq_lst, ok_f0, ok_g0, ok_f1, ok_g1, ok_f2, ok_g2, ok_f3, ok_g3, ok_f4, ok_g4, ok_f5, ok_g5, ok_f6, ok_g6, ok_f7, ok_g7, ok_f8, ok_g8, ok_f9, ok_g9, ok_f10, ok_g10, ok_f11, ok_g11, okS_attr, okS_asg, okS_ret, okS_drop, okS_sIf, okS_next, okS_for, okS_tgt, okS_fail, okS_retN, ok_C, ok_op2, ok_op1, ok_opN, ok_opNO, ok_nil, ok_cons, ok_OD, ok_Fz, ok_test, ok_B, ok_and, ok_or, ok_not, ok_mIf, ok_lst, ok_tup, ok_callE, ok_items, ok_itemsN, ok_mt1, ok_chain, ok_sl, ok_noPart, ok_part, ok_star, ok_isiT, ok_truB, ok_v0, ok_v1, ok_v2, ok_v3, ok_v4, ok_v5, ok_v6, ok_v7, ok_v8, ok_v9, ok_v10, ok_m0, ok_m1, ok_m2, ok_m3, ok_m4, ok_m5, ok_m6, ok_m7, ok_m8, ok_m9, ok_m10, gt_ii, ge_ii, lt_ii, le_ii, add_ii, sub_ii, asB_b, int_i, isi_str_str, isi_int_str, isi_int_int, isi_int_bool, ix2_0, ix2_1, ofStr_inj, String.reduceEq, or_false, false_or, or_true, true_or, decide_true, decide_false, isiT_lst, isiT_tup, asI_i, sl_lst, tuple_lst, tuple_tup, isNon_non, isNotNon_non, isNotNon_int, isNon_int, isNon_str, isNotNon_str, eqD_int, neD_int, in_char, notIn_char, items_str, items_lst, items_tup, enum_lst, enum_tup, len_lst', len_tup, frz_d, frz_ol, putBack_nil, putBack_0, exists_eq_left', Option.some.injEq, D.int.injEq, D.str.injEq, decide_eq_true_eq, List.length_cons, List.length_nil, List.set, List.cons_append, List.nil_append, List.append_nil, List.replicate, List.map_cons, List.map_nil, List.take, keepIO, Nat.zero_add, Nat.reduceAdd, Nat.reduceLT, Nat.reduceLeDiff, Nat.reduceEqDiff, true_and, and_true, if_true, if_false, Bool.not_true, Bool.not_false, Bool.false_eq_true, List.mem_cons, List.not_mem_nil])
/-! ### reading a control -/
def dashS : Str := Str.ofString "-"
theorem dash_is : Str.ofString "-" = dashS := rfl
theorem sok_dash : SOk dashS := (vis_of (by decide +kernel)).sok
theorem not_dash {a : Str} (h : isA a = true) : a ≠ dashS := fun z => by
  rw [z] at h
  have : isA dashS = false := by decide +kernel
  rw [this] at h; cases h
theorem take_says_eq {n : Int} {ws : List Str} {a : Nat} {s : Option Str} (hw : ws[a]? = some (saysS s)) (hs : ∀ x, s = some x → isA x = true) :
    m_take_says [some (lineO n ws a)] = .ok (.d (saysD s)) [some (lineO n ws (a + 1))] := by
  refine ok_det (ok_runF rfl ?_)
  unfold b_take_says_
  cases s with
  | none =>
    bv_omega
    refine ok_take rfl (w := dashS) hw (phiOf_eq ?_) ?_
    · unfold l_take_says_0 lamEnv0
      simp only [capD, List.map_cons, List.map_nil, List.getElem?_cons_succ, List.getElem?_cons_zero, Option.map_some, frz_d, dash_is]
      bv_omega
      simp only [eqD_str sok_dash sok_dash, decide_true]
      bv_omega
    · bv_omega
      simp only [dash_is, eqD_str sok_dash sok_dash, decide_true]
      bv_omega
      rfl
  | some x =>
    have hx := hs x rfl
    have nd := not_dash hx
    have hl := isA_len hx
    have sx := (isA_vis hx).sok
    bv_omega
    refine ok_take rfl (w := x) hw (phiOf_eq ?_) ?_
    · unfold l_take_says_0 lamEnv0
      simp only [capD, List.map_cons, List.map_nil, List.getElem?_cons_succ, List.getElem?_cons_zero, Option.map_some, frz_d, dash_is]
      bv_omega
      simp only [eqD_str sx sok_dash, nd, decide_false]
      bv_omega
      rw [ok_eq (is_answer_eq (by omega)), hx]
      bv_omega
    · bv_omega
      simp only [dash_is, eqD_str sx sok_dash, nd, decide_false]
      bv_omega
      rfl
theorem grpL_flat : ∀ (gs : List (Str × Nat)) (j : Nat) (g : Str × Nat), gs[j]? = some g → ((gs.map grpL).flatten)[2 * j]? = some g.1 ∧ ((gs.map grpL).flatten)[2 * j + 1]? = some (natS g.2)
  | [], j, g, h => by cases h
  | x :: gs, 0, g, h => by
    cases h
    exact ⟨rfl, rfl⟩
  | x :: gs, j + 1, g, h => by
    have := grpL_flat gs j g (by simpa using h)
    rw [show 2 * (j + 1) = 2 * j + 1 + 1 by omega]
    exact this
theorem take_groups_eq {n : Int} {hd : List Str} {gs : List (Str × Nat)} {many : Nat} (h : OkLk gs) (hn : ∀ g ∈ gs, g.2 < many) (hm : many ≤ 24) :
    m_take_groups [some (lineO n (hd ++ (gs.map grpL).flatten) hd.length), some (.d (numD many))] = .ok (.d (.tup (gs.map grpD))) [some (lineO n (hd ++ (gs.map grpL).flatten) (hd.length + 2 * gs.length)), none] := by
  have few := h.few
  generalize ew : hd ++ (gs.map grpL).flatten = ws
  have hlen : ws.length = hd.length + 2 * gs.length := by rw [← ew, List.length_append, flat_len]
  refine ok_det (ok_runF rfl ?_)
  unfold b_take_groups_
  bv_omega
  refine ⟨_, rfl, ?_⟩
  refine okS_while (fun k ρ => ∃ j o3, j ≤ gs.length ∧ k = gs.length - j ∧ ρ = [some (lineO n ws (hd.length + 2 * j)), some (.d (numD many)), some (.ol (((gs.take j).map grpD).map Sl.d)), o3]) ?_ (n := gs.length) (by unfold fuel; omega) ⟨0, none, by omega, by omega, rfl⟩
  rintro k ρ ⟨j, o3, hj, rfl, rfl⟩
  bv_omega
  rw [ok_methIO (t := lineO n ws (hd.length + 2 * j)) rfl (line_is (by simp [ofStr_inj]))]
  bv_omega
  simp only [ok_eq is_done_eq, shift, List.map_nil, putBack_0]
  bv_omega
  by_cases hlt : j < gs.length
  · have e : decide (ws.length ≤ hd.length + 2 * j) = false := decide_eq_false (by omega)
    rw [e]
    bv_omega
    obtain ⟨g, eg⟩ : ∃ g, gs[j]? = some g := ⟨gs[j], List.getElem?_eq_getElem _⟩
    have hg := List.mem_of_getElem? eg
    have ha := h.ans g hg
    have hal := isA_len ha
    obtain ⟨w1, w2⟩ := grpL_flat gs j g eg
    have w1 : ws[hd.length + 2 * j]? = some g.1 := by rw [← ew, List.getElem?_append_right (by omega), show hd.length + 2 * j - hd.length = 2 * j by omega, w1]
    have w2 : ws[hd.length + 2 * j + 1]? = some (natS g.2) := by rw [← ew, List.getElem?_append_right (by omega), show hd.length + 2 * j + 1 - hd.length = 2 * j + 1 by omega, w2]
    refine ok_take rfl w1 (phiOf_eq ?_) ?_
    · unfold l_take_groups_0 lamEnv0
      simp only [capD, List.map_cons, List.map_nil, List.getElem?_cons_succ, List.getElem?_cons_zero, Option.map_some, frz, frzL_d]
      bv_omega
      rw [ok_eq (is_answer_eq (by omega)), ha]
      bv_omega
      refine ok_lcOver (gs.take j) grpD (fun g => .d (.str g.1)) ?_
      bv_omega
      refine ⟨rfl, by rw [List.length_take]; omega, fun g _ => ⟨_, tgName_set (by simp [wipeE]), ?_⟩, ?_⟩
      · unfold grpD
        simp only [wipeE]
        bv_omega
      · rw [show (gs.take j).map (fun g => Sl.d (.str g.1)) = ((gs.take j).map Prod.fst).map fun x => .d (.str x) by rw [List.map_map]; rfl, frzL_strs, notIn_strs]
        have nt : g.1 ∉ (gs.take j).map Prod.fst := by
          rw [List.map_take]
          exact nodup_take h.nd (by rw [List.getElem?_map, eg]; rfl)
        rw [decide_eq_false nt]
        exact ⟨_, rfl, _, rfl, rfl⟩
    · bv_omega
      refine ok_app rfl ?_
      bv_omega
      rw [ok_methIO (t := lineO n ws (hd.length + 2 * j + 1)) rfl (line_is (by simp [ofStr_inj]))]
      unfold numD
      bv_omega
      have hgn := hn g hg
      rw [ok_eq (take_number_eq (k := g.2) w2 (by omega) (by omega) (by omega))]
      simp only [shift, List.map_nil, putBack_0]
      bv_omega
      refine ⟨_, rfl, _, rfl, by simp only [List.length_map, List.length_take]; omega, gs.length - (j + 1), by omega, j + 1, some (.d (.str g.1)), by omega, rfl, ?_⟩
      rw [List.take_add_one, eg]
      simp [grpD, numD, Nat.mul_add, Nat.add_assoc]
  · have ej : j = gs.length := by omega
    subst ej
    have e : decide (ws.length ≤ hd.length + 2 * gs.length) = true := decide_eq_true (by omega)
    rw [e]
    bv_omega
    rw [List.take_length, frzL_d]
theorem kinds_in {x : Str} (h : x ∈ [waitS, doS, lookS]) : inD (.str x) (.tup [.str waitS, .str doS, .str lookS]) = some (.bl true) := by
  rw [show [D.str waitS, D.str doS, D.str lookS] = [waitS, doS, lookS].map D.str from rfl, in_strsT, decide_eq_true h]
theorem take_control_eq {n : Int} {ws us : List Str} {many : Nat} {c : Ctl} (hw : ∀ w ∈ ws, isW w = true) (h : OkCtl ws us.length many c) (hno : us.length ≤ 3) (hm : many ≤ 24) :
    m_take_control [some (lineO n (ctlL c) 0), some (.d (.lst (ws.map .str))), some (.d (.lst (us.map .str))), some (.d (.int many))] = .ok (.d (ctlD c)) [some (lineO n (ctlL c) (ctlL c).length), none, none, none] := by
  obtain ⟨hn, h⟩ := h
  refine ok_det (ok_runF rfl ?_)
  unfold b_take_control_
  have kind : ∀ x, x ∈ [waitS, doS, lookS] → phiOf 0 l_take_control_0 [] (.str x) = some true := fun x hx => phiOf_eq (by
    unfold l_take_control_0 lamEnv0
    simp only [List.map_nil, wait_is, do_is, look_is]
    bv_omega
    refine ⟨_, rfl, ?_⟩
    exact ⟨_, kinds_in hx, rfl⟩)
  cases c with
  | wt s ns =>
    have h : OkWt us.length many s ns := h
    have hl := h.len
    bv_omega
    refine ok_take rfl (w := waitS) rfl (kind _ (by simp)) ?_
    bv_omega
    simp only [wait_is, eq_ww]
    bv_omega
    rw [ok_eq (take_says_eq (s := s) rfl h.says)]
    bv_omega
    refine ok_lc (fun l acc ρ => ∃ j, l.length + j = us.length ∧ acc = ((ns.take j).map numD).map Sl.d ∧ ρ = [some (lineO n (ctlL (.wt s ns)) (2 + j)), some (.d (.lst (ws.map .str))), some (.d (.lst (us.map .str))), some (.d (.int many)), some (.d (.str waitS)), some (.d (saysD s)), none, none, none]) ?_ ?_
    · rintro d l acc ρ ⟨j, h1, rfl, rfl⟩
      simp only [List.length_cons] at h1
      refine ⟨_, tgName_set (by simp), ?_⟩
      rw [ok_pure, if_pos rfl]
      bv_omega
      rw [ok_methIO (t := lineO n (ctlL (.wt s ns)) (2 + j)) rfl (line_is (by simp [ofStr_inj]))]
      bv_omega
      have hj : j < ns.length := by omega
      have ej : ns[j]? = some ns[j] := List.getElem?_eq_getElem hj
      have hnj := hn ns[j] (List.getElem_mem hj)
      have w2 : (ctlL (.wt s ns))[2 + j]? = some (natS ns[j]) := by
        rw [Nat.add_comm 2 j]
        show (ns.map natS)[j]? = _
        rw [List.getElem?_map, ej]; rfl
      rw [ok_eq (take_number_eq (k := ns[j]) w2 (by omega) (by omega) (by omega))]
      simp only [shift, List.map_nil, putBack_0, wipeE]
      bv_omega
      refine ⟨by simp only [List.length_map, List.length_take]; omega, j + 1, by omega, ?_, by rw [Nat.add_assoc]⟩
      rw [List.take_add_one, ej, List.map_append, List.map_append]
      rfl
    · bv_omega
      refine ⟨rfl, ⟨0, by simp, rfl, rfl⟩, ?_⟩
      rintro acc ρ ⟨j, h1, rfl, rfl⟩
      have ej : j = ns.length := by
        have : j = us.length := by simpa using h1
        omega
      subst ej
      rw [List.take_length]
      simp only [backE]
      bv_omega
      rw [frzL_d]
      refine ⟨_, rfl, ?_⟩
      rw [ok_methIO (t := lineO n (ctlL (.wt s ns)) (2 + ns.length)) rfl (line_is (by simp [ofStr_inj]))]
      bv_omega
      have el : (ctlL (.wt s ns)).length = 2 + ns.length := by simp [ctlL]; omega
      rw [ok_eq (close_eq (by omega))]
      simp only [shift, List.map_nil, putBack_0]
      bv_omega
      rw [el]
      exact ⟨rfl, rfl⟩
  | dd l nx =>
    have hl : l ∈ ws := h
    have hn := hn nx (by simp [Ctl.outs])
    bv_omega
    refine ok_take rfl (w := doS) rfl (kind _ (by simp)) ?_
    bv_omega
    simp only [wait_is, do_is, eq_dw, eq_dd]
    bv_omega
    refine ok_take rfl (w := l) rfl (phiOf_eq ?_) ?_
    · unfold l_take_control_1 lamEnv0
      simp only [capD, List.map_cons, List.map_nil, List.getElem?_cons_succ, List.getElem?_cons_zero, Option.map_some, frz_d]
      bv_omega
      rw [in_strs, decide_eq_true hl]
      exact ⟨_, rfl, rfl⟩
    · bv_omega
      rw [ok_methIO (t := lineO n (ctlL (.dd l nx)) 2) rfl (line_is (by simp [ofStr_inj]))]
      bv_omega
      rw [ok_eq (take_number_eq (k := nx) rfl (by omega) (by omega) (by omega))]
      simp only [shift, List.map_nil, putBack_0]
      bv_omega
      refine ⟨_, rfl, ?_⟩
      rw [ok_methIO (t := lineO n (ctlL (.dd l nx)) 3) rfl (line_is (by simp [ofStr_inj]))]
      bv_omega
      rw [ok_eq (close_eq (by simp [ctlL]))]
      simp only [shift, List.map_nil, putBack_0]
      bv_omega
      exact ⟨rfl, rfl⟩
  | lk gs nx =>
    have h : OkLk gs := h
    have hn2 := hn nx (by simp [Ctl.outs])
    bv_omega
    refine ok_take rfl (w := lookS) rfl (kind _ (by simp)) ?_
    bv_omega
    simp only [wait_is, do_is, look_is, eq_lw, eq_ld]
    bv_omega
    rw [ok_methIO (t := lineO n (ctlL (.lk gs nx)) 1) rfl (line_is (by simp [ofStr_inj]))]
    bv_omega
    rw [ok_eq (take_number_eq (k := nx) rfl (by omega) (by omega) (by omega))]
    simp only [shift, List.map_nil, putBack_0]
    bv_omega
    have G := take_groups_eq (n := n) (hd := [lookS, natS nx]) (gs := gs) (many := many) h (fun g hg => hn g.2 (by simp only [Ctl.outs, List.mem_append, List.mem_map]; exact .inl ⟨g, hg, rfl⟩)) hm
    have eL : ctlL (.lk gs nx) = [lookS, natS nx] ++ (gs.map grpL).flatten := rfl
    rw [eL]
    unfold numD at G
    have G2 : m_take_groups [some (lineO n ([lookS, natS nx] ++ (gs.map grpL).flatten) 2), some (.d (.int many))] = _ := G
    rw [ok_eq G2]
    bv_omega
    refine ⟨_, rfl, ?_⟩
    have ef := flat_len gs
    rw [ok_methIO (t := lineO n ([lookS, natS nx] ++ (gs.map grpL).flatten) (2 + 2 * gs.length)) rfl (line_is (by simp [ofStr_inj]))]
    bv_omega
    rw [ok_eq (close_eq (by simp only [List.length_cons, ef]; omega))]
    simp only [shift, List.map_nil, putBack_0]
    bv_omega
    rw [ef]
    refine ⟨rfl, ?_⟩
    rw [show 2 * gs.length + 1 + 1 = 2 + 2 * gs.length by omega]
end G72

end
section
set_option Elab.async false
set_option linter.all false
set_option autoImplicit false
set_option maxRecDepth 100000
set_option maxHeartbeats 4000000
namespace G72
open PySem PySem.Spec L2 NdefX DL
open TL (tl)
local macro_rules
  | `(tactic| bv_omega) => `(tactic| try simp only [okS_seq, ok_jsNil, ok_jsCons, seq_tup, seq_lst, ok_f0, ok_g0, ok_f1, ok_g1, ok_f2, ok_g2, ok_f3, ok_g3, ok_f4, ok_g4, ok_f5, ok_g5, ok_f6, ok_g6, ok_f7, ok_g7, ok_f8, ok_g8, ok_f9, ok_g9, ok_f10, ok_g10, ok_f11, ok_g11, okS_attr, okS_asg, okS_ret, okS_drop, okS_sIf, okS_next, okS_for, okS_tgt, okS_fail, okS_retN, ok_C, ok_op2, ok_op1, ok_opN, ok_opNO, ok_nil, ok_cons, ok_OD, ok_Fz, ok_test, ok_B, ok_and, ok_or, ok_not, ok_mIf, ok_lst, ok_tup, ok_callE, ok_items, ok_itemsN, ok_mt1, ok_chain, ok_sl, ok_noPart, ok_part, ok_star, ok_isiT, ok_truB, ok_v0, ok_v1, ok_v2, ok_v3, ok_v4, ok_v5, ok_v6, ok_v7, ok_v8, ok_v9, ok_v10, ok_m0, ok_m1, ok_m2, ok_m3, ok_m4, ok_m5, ok_m6, ok_m7, ok_m8, ok_m9, ok_m10, gt_ii, ge_ii, lt_ii, le_ii, add_ii, sub_ii, asB_b, int_i, isi_str_str, isi_int_str, isi_int_int, isi_int_bool, ix2_0, ix2_1, ofStr_inj, String.reduceEq, or_false, false_or, or_true, true_or, decide_true, decide_false, isiT_lst, isiT_tup, asI_i, sl_lst, tuple_lst, tuple_tup, isNon_non, isNotNon_non, isNotNon_int, isNon_int, isNon_str, isNotNon_str, eqD_int, neD_int, in_char, notIn_char, items_str, items_lst, items_tup, enum_lst, enum_tup, len_lst', len_tup, frz_d, frz_ol, putBack_nil, putBack_0, exists_eq_left', Option.some.injEq, D.int.injEq, D.str.injEq, decide_eq_true_eq, List.length_cons, List.length_nil, List.set, List.cons_append, List.nil_append, List.append_nil, List.replicate, List.map_cons, List.map_nil, List.take, keepIO, Nat.zero_add, Nat.reduceAdd, Nat.reduceLT, Nat.reduceLeDiff, Nat.reduceEqDiff, true_and, and_true, if_true, if_false, Bool.not_true, Bool.not_false, Bool.false_eq_true, List.mem_cons, List.not_mem_nil])
/-! ### reading an adapter -/
theorem ctlL_ne (c : Ctl) : ctlL c ≠ [] := by cases c <;> simp [ctlL]
theorem headW_vis {hd : Str} {ws : List Str} (h : Vis hd) (hw : OkWs ws) : ∀ x ∈ hd :: ws, Vis x := fun y hy => by
  rcases List.mem_cons.mp hy with rfl | hy
  · exact h
  · exact isW_vis (hw.all y hy)
theorem vis_let : Vis (Str.ofString "letters") := vis_of (by decide +kernel)
theorem vis_out : Vis (Str.ofString "outer") := vis_of (by decide +kernel)
theorem vis_con : Vis (Str.ofString "controls") := vis_of (by decide +kernel)
theorem con_eq {n : Nat} : Str.ofString "controls " ++ natS n = Str.join (Str.ofString " ") [Str.ofString "controls", natS n] := by
  have e : Str.ofString "controls " = Str.ofString "controls" ++ Str.ofString " " := by decide +kernel
  rw [e]; rfl
theorem con_vis {n : Nat} : ∀ x ∈ [Str.ofString "controls", natS n], Vis x := fun y hy => by
  rcases List.mem_cons.mp hy with rfl | hy
  · exact vis_con
  · rw [List.mem_singleton] at hy
    subst hy
    exact natS_vis _
theorem rows_no10 {ws us : List Str} {cs : List Ctl} (hw : OkWs ws) (hu : OkWs us) (hc : OkCs ws us cs) : ∀ x ∈ rowsS ws us cs, ∃ l, x = Str.join (Str.ofString " ") l ∧ l ≠ [] ∧ ∀ y ∈ l, Vis y := by
  intro x hx
  rcases List.mem_append.mp hx with hx | hx
  · simp only [headS, List.mem_cons, List.not_mem_nil, or_false] at hx
    rcases hx with rfl | rfl | rfl
    · exact ⟨_, rfl, by simp, headW_vis vis_let hw⟩
    · exact ⟨_, rfl, by simp, headW_vis vis_out hu⟩
    · exact ⟨_, con_eq, by simp, con_vis⟩
  · obtain ⟨c, hcm, rfl⟩ := List.mem_map.mp hx
    exact ⟨ctlL c, rfl, ctlL_ne c, fun y hy => (ctlL_word hw.all (hc.all c hcm) hc.most y hy).2⟩
theorem text_split {ws us : List Str} {cs : List Ctl} (hw : OkWs ws) (hu : OkWs us) (hc : OkCs ws us cs) : Txt.split (textS ws us cs) (Str.ofString "\n") = rowsS ws us cs := by
  refine split_lines (by simp [rowsS, headS]) fun x hx z => ?_
  obtain ⟨l, rfl, _, hv⟩ := rows_no10 hw hu hc x hx
  rcases mem_join z with z | ⟨y, hy, z⟩
  · have e : tl (Str.ofString " ") = [32] := by decide +kernel
    rw [e] at z; simp at z
  · have := hv y hy 10 z; omega
theorem text_len {ws us : List Str} {cs : List Ctl} (hw : OkWs ws) (hu : OkWs us) (hc : OkCs ws us cs) : (textS ws us cs).length ≤ 1000000 := by
  have a := len_join' (y := nl) (rowsS_le hw hu hc)
  have b := rowsS_len hc
  have e : nl.length = 1 := by decide +kernel
  rw [e] at a
  unfold textS
  have : (rowsS ws us cs).length * (104 + 1) ≤ 27 * 105 := Nat.mul_le_mul b (by omega)
  omega
theorem frz_dstr (l : List Str) : frz (.ol (l.map fun w => .d (.str w))) = .lst (l.map .str) := by rw [frz_ol, frzL_strs]
theorem read_adapter_ok {ws us : List Str} {cs : List Ctl} (hw : OkWs ws) (hu : OkWs us) (hc : OkCs ws us cs) :
    m_read_adapter [some (.d (.str (textS ws us cs)))] = .ok (adO ws us cs) [none] := by
  have h3 := hu.most
  have h24 := hc.most
  have h0 : 1 ≤ cs.length := List.length_pos_iff.mpr hc.one
  have hrl := rowsS_le hw hu hc
  have hrow : ∀ (i : Nat) (r : Str), (rowsS ws us cs)[i]? = some r → r.length ≤ 1000000 := fun i r e => by
    have := hrl r (List.mem_of_getElem? e); omega
  refine ok_det (ok_runF rfl ?_)
  unfold b_read_adapter_
  bv_omega
  rw [ok_makeE]
  bv_omega
  rw [ok_eq (Lines_init_eq (text_len hw hu hc)), text_split hw hu hc]
  refine ⟨rfl, _, rfl, ?_⟩
  simp only [shift, List.map_nil, putBack_nil]
  bv_omega
  have r0 : (rowsS ws us cs)[0]? = some (Str.join sp (Str.ofString "letters" :: ws)) := rfl
  have r1 : (rowsS ws us cs)[1]? = some (Str.join sp (Str.ofString "outer" :: us)) := rfl
  have r2 : (rowsS ws us cs)[2]? = some (Str.ofString "controls " ++ natS cs.length) := rfl
  rw [ok_methIO (t := linesO (rowsS ws us cs) 0) rfl (lines_is (by simp [ofStr_inj]))]
  bv_omega
  rw [ok_eq (next_line_eq (l := Str.ofString "letters" :: ws) r0 rfl (hrow 0 _ r0) (by simp) (headW_vis vis_let hw))]
  simp only [shift, List.map_nil, putBack_0]
  bv_omega
  rw [ok_eq (take_letters_eq vis_let.sok hw)]
  bv_omega
  rw [ok_methIO (t := linesO (rowsS ws us cs) 1) rfl (lines_is (by simp [ofStr_inj]))]
  bv_omega
  rw [ok_eq (next_line_eq (l := Str.ofString "outer" :: us) r1 rfl (hrow 1 _ r1) (by simp) (headW_vis vis_out hu))]
  simp only [shift, List.map_nil, putBack_0]
  bv_omega
  rw [ok_eq (take_letters_eq vis_out.sok hu)]
  bv_omega
  rw [ok_methIO (t := linesO (rowsS ws us cs) 2) rfl (lines_is (by simp [ofStr_inj]))]
  bv_omega
  rw [ok_eq (next_line_eq (l := [Str.ofString "controls", natS cs.length]) r2 con_eq (hrow 2 _ r2) (by simp) con_vis)]
  simp only [shift, List.map_nil, putBack_0]
  bv_omega
  obtain ⟨z, hz, T3⟩ : ∃ z : Sl, z = .d (.int cs.length) ∧ ∀ n : Int, m_take_many [some (lineO n [Str.ofString "controls", natS cs.length] 0), some (.d (.str (Str.ofString "controls"))), some (.d (.int 24))] = .ok z [some (lineO n [Str.ofString "controls", natS cs.length] 2), none, none] :=
    ⟨_, rfl, fun n => take_many_eq vis_con.sok h0 (by omega) (by omega) (by omega)⟩
  rw [ok_eq (T3 _)]
  refine ok_lc (fun l acc ρ => ∃ j s2 s3, l.length + j = cs.length ∧ acc = ((cs.take j).map ctlD).map Sl.d ∧ frz s2 = .lst (ws.map .str) ∧ frz s3 = .lst (us.map .str) ∧
    ρ = [some (.d (.str (textS ws us cs))), some (linesO (rowsS ws us cs) (3 + j)), some s2, some s3, some z, none, none]) ?_ ?_
  · rintro d l acc ρ ⟨j, s2, s3, h1, rfl, hs2, hs3, rfl⟩
    simp only [List.length_cons] at h1
    subst hz
    refine ⟨_, tgName_set (by simp), ?_⟩
    rw [ok_pure, if_pos rfl]
    have hj : j < cs.length := by omega
    have ej : cs[j]? = some cs[j] := List.getElem?_eq_getElem hj
    have hcj := hc.all cs[j] (List.getElem_mem hj)
    have rj : (rowsS ws us cs)[3 + j]? = some (ctlS cs[j]) := by
      rw [Nat.add_comm 3 j]
      show (cs.map ctlS)[j]? = _
      rw [List.getElem?_map, ej]; rfl
    bv_omega
    rw [ok_methIO (t := linesO (rowsS ws us cs) (3 + j)) rfl (lines_is (by simp [ofStr_inj]))]
    bv_omega
    rw [ok_eq (next_line_eq (l := ctlL cs[j]) rj rfl (hrow _ _ rj) (ctlL_ne _) fun y hy => (ctlL_word hw.all hcj h24 y hy).2)]
    simp only [shift, List.map_nil, putBack_0]
    bv_omega
    rw [ok_varF (s := s2) rfl]
    bv_omega
    rw [ok_varF (s := s3) rfl]
    bv_omega
    rw [hs2, hs3]
    rw [ok_eq (take_control_eq hw.all hcj h3 h24)]
    bv_omega
    simp only [wipeE]
    refine ⟨by simp only [List.length_map, List.length_take]; omega, j + 1, .d (.lst (ws.map .str)), .d (.lst (us.map .str)), by omega, ?_, rfl, rfl, rfl⟩
    rw [List.take_add_one, ej, List.map_append, List.map_append]
    rfl
  · subst hz
    bv_omega
    rw [rng_ok (by omega)]
    bv_omega
    refine ⟨rfl, ⟨0, _, _, by rw [intsFrom_len]; rfl, rfl, frz_dstr ws, frz_dstr us, rfl⟩, ?_⟩
    rintro acc ρ ⟨j, s2, s3, h1, rfl, hs2, hs3, rfl⟩
    have ej : j = cs.length := by simpa using h1
    subst ej
    rw [List.take_length]
    simp only [backE]
    bv_omega
    rw [ok_methIO (t := linesO (rowsS ws us cs) (3 + cs.length)) rfl (lines_is (by simp [ofStr_inj]))]
    bv_omega
    rw [ok_eq is_left_eq]
    have el : (rowsS ws us cs).length = 3 + cs.length := by simp [rowsS, headS]; omega
    rw [el, decide_eq_false (by omega)]
    simp only [shift, List.map_nil, putBack_0]
    bv_omega
    rw [ok_makeE]
    bv_omega
    rw [ok_varF (s := s2) rfl]
    bv_omega
    rw [ok_varF (s := s3) rfl]
    bv_omega
    rw [hs2, hs3, frzL_d]
    rw [ok_eq (Adapter_init_ok hw hu hc)]
    exact ⟨rfl, _, rfl, rfl, rfl⟩
theorem isi_adapter {l : List (Str × D)} : isiD [Str.ofString "Adapter"] [.ins (Str.ofString "Adapter") l, .glo (Str.ofString "Adapter")] = some (.bl true) := by
  show (if Str.ofString "Adapter" = Str.ofString "Adapter" ∧ [Str.ofString "Adapter"].contains (Str.ofString "Adapter") then some (D.bl true) else none) = _
  rw [if_pos ⟨rfl, by simp⟩]
theorem isIns_adapter {ws us : List Str} {cs : List Ctl} : isInsD (Str.ofString "Adapter") (adD ws us cs) = true := by
  unfold adD isInsD
  simp
theorem cmp_nums {n : Nat} {l : List Nat} : Cmp (n + 1) (.tup (l.map numD)) := Cmp.tup fun d hd => by
  obtain ⟨x, _, rfl⟩ := List.mem_map.mp hd
  exact Cmp.int
theorem cmp_says {n : Nat} {s : Option Str} (h : ∀ a, s = some a → isA a = true) : Cmp n (saysD s) := by
  cases s with
  | none => exact ⟨.none, rfl, by simp [PyData.canLay0], by simp [PyData.depth]⟩
  | some a => exact Cmp.str (isA_vis (h a rfl)).sok
theorem cmp_ctl {ws : List Str} {no many : Nat} {c : Ctl} (hw : ∀ w ∈ ws, isW w = true) (h : OkCtl ws no many c) : Cmp 3 (ctlD c) := by
  obtain ⟨_, h⟩ := h
  cases c with
  | wt s ns =>
    have h : OkWt no many s ns := h
    refine Cmp.tup fun d hd => ?_
    simp only [List.mem_cons, List.not_mem_nil, or_false] at hd
    rcases hd with rfl | rfl | rfl
    · exact Cmp.str sok_wait
    · exact cmp_says h.says
    · exact cmp_nums
  | dd l n =>
    have h : l ∈ ws := h
    refine Cmp.tup fun d hd => ?_
    simp only [List.mem_cons, List.not_mem_nil, or_false] at hd
    rcases hd with rfl | rfl | rfl
    · exact Cmp.str sok_do
    · exact Cmp.str (isW_vis (hw l h)).sok
    · exact Cmp.int
  | lk gs n =>
    have h : OkLk gs := h
    refine Cmp.tup fun d hd => ?_
    simp only [List.mem_cons, List.not_mem_nil, or_false] at hd
    rcases hd with rfl | rfl | rfl
    · exact Cmp.str sok_look
    · refine Cmp.tup fun d hd => ?_
      obtain ⟨g, hg, rfl⟩ := List.mem_map.mp hd
      refine Cmp.tup fun d hd => ?_
      simp only [List.mem_cons, List.not_mem_nil, or_false] at hd
      rcases hd with rfl | rfl
      · exact Cmp.str (isA_vis (h.ans g hg)).sok
      · exact Cmp.int
    · exact Cmp.int
theorem cmp_ctls {ws us : List Str} {cs : List Ctl} (hw : OkWs ws) (hc : OkCs ws us cs) : Cmp 64 (.tup (cs.map ctlD)) := by
  refine (Cmp.tup (n := 3) fun d hd => ?_).le (by omega)
  obtain ⟨c, hcm, rfl⟩ := List.mem_map.mp hd
  exact cmp_ctl hw.all (hc.all c hcm)
theorem Adapter_eq_ok {ws us : List Str} {cs : List Ctl} (hw : OkWs ws) (hu : OkWs us) (hc : OkCs ws us cs) : m_Adapter_eq [some (.d (adD ws us cs)), some (.d (adD ws us cs))] = .ok (.d (.bl true)) [none, none] := by
  refine ok_det (ok_runF rfl ?_)
  unfold b_Adapter_eq_
  bv_omega
  have e : isiD [Str.ofString "Adapter"] [adD ws us cs, .glo (Str.ofString "Adapter")] = some (.bl true) := isi_adapter
  simp only [e, get_letters, get_outer, get_controls]
  bv_omega
  rw [neD_same (cmp_letters hw.all)]
  bv_omega
  rw [eqD_same (cmp_letters hu.all)]
  bv_omega
  rw [eqD_same (cmp_ctls hw hc)]
  bv_omega
end G72

end
section
set_option Elab.async false
set_option linter.all false
set_option autoImplicit false
set_option maxRecDepth 100000
set_option maxHeartbeats 4000000
namespace G72
open PySem PySem.Spec L2 NdefX DL
open TL (tl)
local macro_rules
  | `(tactic| bv_omega) => `(tactic| try simp only [okS_seq, ok_jsNil, ok_jsCons, seq_tup, seq_lst, ok_f0, ok_g0, ok_f1, ok_g1, ok_f2, ok_g2, ok_f3, ok_g3, ok_f4, ok_g4, ok_f5, ok_g5, ok_f6, ok_g6, ok_f7, ok_g7, ok_f8, ok_g8, ok_f9, ok_g9, ok_f10, ok_g10, ok_f11, ok_g11, okS_attr, okS_asg, okS_ret, okS_drop, okS_sIf, okS_next, okS_for, okS_tgt, okS_fail, okS_retN, ok_C, ok_op2, ok_op1, ok_opN, ok_opNO, ok_nil, ok_cons, ok_OD, ok_Fz, ok_test, ok_B, ok_and, ok_or, ok_not, ok_mIf, ok_lst, ok_tup, ok_callE, ok_items, ok_itemsN, ok_mt1, ok_chain, ok_sl, ok_noPart, ok_part, ok_star, ok_isiT, ok_truB, ok_v0, ok_v1, ok_v2, ok_v3, ok_v4, ok_v5, ok_v6, ok_v7, ok_v8, ok_v9, ok_v10, ok_m0, ok_m1, ok_m2, ok_m3, ok_m4, ok_m5, ok_m6, ok_m7, ok_m8, ok_m9, ok_m10, gt_ii, ge_ii, lt_ii, le_ii, add_ii, sub_ii, asB_b, int_i, isi_str_str, isi_int_str, isi_int_int, isi_int_bool, ix2_0, ix2_1, ofStr_inj, String.reduceEq, or_false, false_or, or_true, true_or, decide_true, decide_false, isiT_lst, isiT_tup, asI_i, sl_lst, tuple_lst, tuple_tup, isNon_non, isNotNon_non, isNotNon_int, isNon_int, isNon_str, isNotNon_str, eqD_int, neD_int, in_char, notIn_char, items_str, items_lst, items_tup, enum_lst, enum_tup, len_lst', len_tup, frz_d, frz_ol, putBack_nil, putBack_0, exists_eq_left', Option.some.injEq, D.int.injEq, D.str.injEq, decide_eq_true_eq, List.length_cons, List.length_nil, List.set, List.cons_append, List.nil_append, List.append_nil, List.replicate, List.map_cons, List.map_nil, List.take, keepIO, Nat.zero_add, Nat.reduceAdd, Nat.reduceLT, Nat.reduceLeDiff, Nat.reduceEqDiff, true_and, and_true, if_true, if_false, Bool.not_true, Bool.not_false, Bool.false_eq_true, List.mem_cons, List.not_mem_nil])
/-! ### drawing: answers, kinds -/
theorem said_nd {k : Int} {t : Sl} {many : Nat} (h : Pen k t) (hk : k < 2 ^ 36) (hm : many ≤ 3) :
    Ok m__law_said [some t, some (.d (.int many))] fun s ρ => ∃ (t2 : Sl) (as : List Str), s = .ol ((as.map D.str).map .d) ∧ ρ = [some t2, none] ∧ Pen (k + 30) t2 ∧ as.length = many ∧ as.Nodup ∧ ∀ a ∈ as, isA a = true := by
  refine ok_runF rfl ?_
  unfold b__law_said_
  bv_omega
  refine ok_lc (fun l acc ρ => ∃ (t2 : Sl) (as ws pre : List Str), l = ws.map D.str ∧ as.length + ws.length = many ∧ (pre ++ ws).Nodup ∧ as.map (fun a => (tl a).dropLast) = pre.map tl ∧ (∀ w ∈ ws, isW w = true) ∧ (∀ a ∈ as, isA a = true) ∧ acc = (as.map D.str).map .d ∧ Pen (k + 20 + as.length) t2 ∧ ρ = [some t2, some (.d (.int many)), none]) ?_ ?_
  · rintro d l acc ρ ⟨t2, as, ws, pre, e1, h2, hnd, hpre, h3, h4, rfl, p, rfl⟩
    cases ws with
    | nil => cases e1
    | cons w ws =>
      simp only [List.map_cons, List.cons.injEq] at e1
      obtain ⟨rfl, rfl⟩ := e1
      simp only [List.length_cons] at h2
      refine ⟨_, tgName_set (by simp), ?_⟩
      rw [ok_pure, if_pos rfl]
      bv_omega
      have elen : lenD [.str digS] = some (.int (10 : Nat)) := by
        have e : digS.length = 10 := by decide +kernel
        rw [len_str (by omega), e]
      refine (pick (P := fun d => ∃ c, d = .str ⟨#[c]⟩ ∧ c ∈ tl digS) p (by omega) elen (by omega) (by omega) fun j a b => ?_).imp ?_
      · obtain ⟨c, e1, e2⟩ := dig_ix a (by simpa using b)
        exact ⟨_, e1, c, rfl, e2⟩
      · rintro s ρf ⟨t3, d', rfl, rfl, p3, c, rfl, hc⟩
        simp only [putBack_0, wipeE, frz_d]
        have hw := h3 w List.mem_cons_self
        have hwl := isW_len hw
        refine ⟨_, add_str (by show w.length + 1 ≤ _; omega), ?_, t3, as ++ [w ++ ⟨#[c]⟩], ws, pre ++ [w], rfl, by simp only [List.length_append, List.length_cons, List.length_nil]; omega, by simpa using hnd, ?_, fun x hx => h3 x (List.mem_cons_of_mem _ hx), fun x hx => ?_, by simp, ?_, rfl⟩
        · rw [List.length_map, List.length_map]; omega
        · rw [List.map_append, List.map_append, hpre]
          have e : tl (w ++ (⟨#[c]⟩ : Str)) = tl w ++ [c] := by rw [TL.tl_append]
          simp [e]
        · rcases List.mem_append.mp hx with hx | hx
          · exact h4 x hx
          · rw [List.mem_singleton] at hx; rw [hx]; exact said_isA hw hc
        · refine p3.le ?_
          simp only [List.length_append, List.length_cons, List.length_nil]
          omega
  · bv_omega
    refine (words_ok h (by omega) hm).imp ?_
    rintro s ρf ⟨t2, ws, rfl, rfl, p, hl, nd, all⟩
    simp only [putBack_0, frz_ol, frzL_d, items_lst, List.set]
    refine ⟨_, rfl, rfl, ⟨t2, [], ws, [], rfl, by simpa using hl, nd, rfl, all, by simp, rfl, p.le (by simp), rfl⟩, ?_⟩
    rintro acc ρ ⟨t3, as, ws2, pre, e1, h2, hnd, hpre, h3, h4, rfl, p3, rfl⟩
    have e2 : ws2 = [] := List.map_eq_nil_iff.mp e1.symm
    subst e2
    simp only [List.length_nil, Nat.add_zero] at h2
    rw [List.append_nil] at hnd
    refine ⟨t3, as, rfl, rfl, p3.le (by omega), h2, ?_, h4⟩
    have n2 : (pre.map tl).Nodup := List.Pairwise.map _ (fun a b hab z => hab (TL.ext_tl z)) hnd
    rw [← hpre] at n2
    exact List.Pairwise.of_map _ (fun a b hab z => hab (by rw [z])) n2
theorem ix_of {l : List D} {j : Int} (h0 : 0 ≤ j) (h1 : j < (l.length : Int)) : ∃ d, ixD (.lst l) (.int j) = some d ∧ d ∈ l := by
  obtain ⟨n, rfl⟩ := Int.eq_ofNat_of_zero_le h0
  have hn : n < l.length := by omega
  exact ⟨l[n], L2.atI_nat (List.getElem?_eq_getElem hn), List.getElem_mem hn⟩
theorem lst_len {l : List D} : lenD [.lst l] = some (.int (l.length : Nat)) := rfl
/-- a pick of a list's item -/
theorem pickL {k : Int} {t s0 : Sl} {l : List D} (h : Pen k t) (hf : frz s0 = .lst l) (hk : k < 2 ^ 39) (hl : l.length ≤ 1000) (h0 : l ≠ []) :
    Ok m__law_pick [some t, some s0] fun s ρ => ∃ t2 d, s = .d d ∧ ρ = [some t2, none] ∧ Pen (k + 1) t2 ∧ d ∈ l := by
  have := List.length_pos_iff.mpr h0
  exact pickF (P := fun d => d ∈ l) h hf (by omega) lst_len (by omega) (by omega) fun j a b => ix_of a b
theorem okS_ixSet {i : Nat} {gv gk : M D} {ρ : DL.Env} {N : DL.Env → Prop} {R : Sl → DL.Env → Prop} (h : Ok gv ρ fun d ρ1 => isOl i ρ1 = true ∧ Ok gk ρ1 fun k ρ2 => ∃ j l, k = .int j ∧ ρ2[i]? = some (some (.ol l)) ∧ 0 ≤ j ∧ j < (l.length : Int) ∧ N (ρ2.set i (some (.ol (l.set j.toNat (.d d)))))) :
    OkS (sIxSet i gv gk) ρ N R := by
  obtain ⟨d, ρ1, e, c, h⟩ := h.get
  obtain ⟨k, ρ2, e2, j, l, rfl, e3, h1, h2, q⟩ := h.get
  unfold OkS sIxSet bindS
  rw [e]
  simp only [c, if_true, e2, e3, h1, h2, and_self]
  exact q
/-- the kinds of the controls -/
theorem kinds_ok {k : Int} {t : Sl} {many : Nat} {z : Sl} {o1 o2 o3 o4 : Option Sl} {r : DL.Env} (hz : z = .d (.int many)) (h : Pen k t) (hk : k < 2 ^ 38) (h0 : 0 < many) (hm : many ≤ 24) {Q : Sl → DL.Env → Prop}
    (q : ∀ t2 (ks : List Str), Pen (k + many) t2 → ks.length = many → (∀ x ∈ ks, x ∈ [waitS, doS, lookS]) → Q (.ol (dstr ks)) (some t2 :: some z :: o2 :: o3 :: o4 :: o1 :: none :: r)) :
    Ok (mLc [6] (mItemsN rng1 (mCons (mVar 1) mNil)) (tgName 6) (M.pure true) (mCall 2 m__law_pick [(0, 0)] (mCons (mMove 0) (mCons (mLst (mCons (mOD (mC (.str (PySem.Str.ofString "wait")))) (mCons (mOD (mC (.str (PySem.Str.ofString "do")))) (mCons (mOD (mC (.str (PySem.Str.ofString "do")))) (mCons (mOD (mC (.str (PySem.Str.ofString "look")))) mNil))))) mNil))))
      (some t :: some z :: o2 :: o3 :: o4 :: o1 :: none :: r) Q := by
  refine ok_lc (fun l acc ρ => ∃ (t2 : Sl) (ks : List Str), l.length + ks.length = many ∧ acc = dstr ks ∧ (∀ x ∈ ks, x ∈ [waitS, doS, lookS]) ∧ Pen (k + ks.length) t2 ∧ ρ = some t2 :: some z :: o2 :: o3 :: o4 :: o1 :: none :: r) ?_ ?_
  · rintro d l acc ρ ⟨t2, ks, h1, rfl, h2, p, rfl⟩
    simp only [List.length_cons] at h1
    refine ⟨_, tgName_set (by simp), ?_⟩
    rw [ok_pure, if_pos rfl]
    bv_omega
    refine ⟨_, mkLst_ok (by simp), ?_⟩
    refine (pickL (l := [.str waitS, .str doS, .str doS, .str lookS]) p rfl (by omega) (by simp) (by simp)).imp ?_
    rintro s ρf ⟨t3, d', rfl, rfl, p3, hd⟩
    obtain ⟨x, rfl, hx⟩ : ∃ x, d' = .str x ∧ x ∈ [waitS, doS, lookS] := by
      simp only [List.mem_cons, List.not_mem_nil, or_false] at hd ⊢
      rcases hd with rfl | rfl | rfl | rfl
      · exact ⟨_, rfl, by simp⟩
      · exact ⟨_, rfl, by simp⟩
      · exact ⟨_, rfl, by simp⟩
      · exact ⟨_, rfl, by simp⟩
    simp only [putBack_0, wipeE]
    refine ⟨by simp only [dstr, List.length_map]; omega, t3, ks ++ [x], by simp only [List.length_append, List.length_cons, List.length_nil]; omega, by simp [dstr], fun y hy => ?_, p3.le (by simp only [List.length_append, List.length_cons, List.length_nil]; omega), rfl⟩
    rcases List.mem_append.mp hy with hy | hy
    · simpa using h2 y hy
    · rw [List.mem_singleton] at hy; rw [hy]; simpa using hx
  · subst hz
    bv_omega
    rw [rng_ok (by omega)]
    bv_omega
    refine ⟨?_, ⟨t, [], by rw [intsFrom_len]; simp, rfl, by simp, h.le (by simp), rfl⟩, ?_⟩
    · rfl
    rintro acc ρ ⟨t3, ks, h1, rfl, h2, p3, rfl⟩
    have e : ks.length = many := by simpa using h1
    simp only [backE]
    exact q t3 ks (by rw [← e]; exact p3) e fun x hx => by simpa using h2 x hx
def bodyW : SM := (sSeq (sAsg 10 (mOD (mIf (mTest (mOp2 eqD (mFz (mCall 2 m__law_draw [(0, 0)] (mCons (mMove 0) (mCons (mOD (mC (.int 3))) mNil)))) (mC (.int 0)))) (mC .non) (mFz (mCall 2 m__law_pick [(0, 0)] (mCons (mMove 0) (mCons (mOD (mVar 4)) mNil))))))) (sDrop (mApp 7 (mOD (mTup (mCons (mC (.str (PySem.Str.ofString "wait"))) (mCons (mVar 10) (mCons (mOpN tupleD (mCons (mFz (mLc [11] (mItems itemsS (mVar 3)) (tgName 11) (M.pure true) (mCall 2 m__law_draw [(0, 0)] (mCons (mMove 0) (mCons (mOD (mVar 1)) mNil))))) mNil)) mNil))))))))
def bodyD : SM := (sDrop (mApp 7 (mOD (mTup (mCons (mC (.str (PySem.Str.ofString "do"))) (mCons (mFz (mCall 2 m__law_pick [(0, 0)] (mCons (mMove 0) (mCons (mOD (mVar 2)) mNil)))) (mCons (mFz (mCall 2 m__law_draw [(0, 0)] (mCons (mMove 0) (mCons (mOD (mVar 1)) mNil)))) mNil)))))))
def bodyL : SM := (sSeq (sAsg 12 (mLc [6] (mItemsN rng1 (mCons (mVar 1) mNil)) (tgName 6) (mOr (mPeekT (mTest (mOp2 neD (mOp2 ixD (mVar 5) (mVar 6)) (mC (.str (PySem.Str.ofString "look")))))) (mTest (mOp2 gtD (mVar 6) (mVar 8)))) (mOD (mVar 6)))) (sSeq (sAsg 13 (mLst mNil)) (sSeq (sForI (mItems itemsS (mSl slD (mFz (mCall 2 m__law_shuffled [(0, 0)] (mCons (mMove 0) (mCons (mOD (mVar 4)) mNil)))) mNoPart (mPart (mFz (mCall 2 m__law_draw [(0, 0)] (mCons (mMove 0) (mCons (mOD (mOp2 addD (mOpN lenD (mCons (mVar 4) mNil)) (mC (.int 1)))) mNil))))))) (tgName 14) (sDrop (mApp 13 (mOD (mTup (mCons (mVar 14) (mCons (mFz (mCall 2 m__law_pick [(0, 0)] (mCons (mMove 0) (mCons (mOD (mVar 12)) mNil)))) mNil))))))) (sDrop (mApp 7 (mOD (mTup (mCons (mC (.str (PySem.Str.ofString "look"))) (mCons (mOpN tupleD (mCons (mVar 13) mNil)) (mCons (mFz (mCall 2 m__law_pick [(0, 0)] (mCons (mMove 0) (mCons (mOD (mVar 12)) mNil)))) mNil))))))))))
/-- what was drawn for a control of a kind -/
structure Drawn (ws us : List Str) (ks : List Str) (at_ : Nat) (c : Ctl) : Prop where
  ok : OkCtl ws us.length ks.length c
  kind : c.isLk = true ↔ ks[at_]? = some lookS
  ring : c.isLk = true → ∀ n ∈ c.outs, ks[n]? ≠ some lookS ∨ at_ < n
/-- after the control was drawn -/
def Post (k : Int) (ws us as ks : List Str) (acc : List D) (at_ : Nat) (x : Str) (ρ : DL.Env) : Prop := ∃ t2 c o10 o12 o13 o14, Pen (k + 20) t2 ∧ Drawn ws us ks at_ c ∧ ρ = [some t2, some (.d (.int ks.length)), some (.d (.lst (ws.map .str))), some (.d (.lst (us.map .str))), some (.d (.lst (as.map .str))), some (.d (.lst (ks.map .str))), none, some (.ol ((acc ++ [ctlD c]).map .d)), some (.d (.int at_)), some (.d (.str x)), o10, none, o12, o13, o14]
theorem wait_ne_look : waitS ≠ lookS := by decide +kernel
theorem do_ne_look : doS ≠ lookS := by decide +kernel
section
variable {k : Int} {t z5 : Sl} {ws us as ks : List Str} {acc : List D} {at_ : Nat} {x : Str} {o10 o12 o13 o14 : Option Sl} {R : Sl → DL.Env → Prop}
theorem num_of {n : Int} {m : Nat} (a : 0 ≤ n) (b : n < (m : Int)) : ∃ j : Nat, n = (j : Int) ∧ j < m := by
  obtain ⟨j, rfl⟩ := Int.eq_ofNat_of_zero_le a
  exact ⟨j, rfl, by omega⟩
theorem bodyW_ok (h : Pen k t) (hk : k < 2 ^ 38) (hm : ks.length ≤ 24) (h0 : 0 < ks.length) (hu : us.length ≤ 3) (ha : as ≠ []) (hal : as.length ≤ 3) (haa : ∀ a ∈ as, isA a = true) (hx : ks[at_]? = some x) (hxw : x = waitS) (hacc : acc.length ≤ 1000) :
    OkS bodyW [some t, some (.d (.int ks.length)), some (.d (.lst (ws.map .str))), some (.d (.lst (us.map .str))), some (.d (.lst (as.map .str))), some (.d (.lst (ks.map .str))), none, some (.ol (acc.map .d)), some (.d (.int at_)), some (.d (.str x)), o10, none, o12, o13, o14]
      (Post k ws us as ks acc at_ x) R := by
  unfold bodyW
  have tail : ∀ (t : Sl) (s : Option Str), Pen (k + 2) t → (∀ a, s = some a → isA a = true) → Ok (mLc [11] (mItems itemsS (mVar 3)) (tgName 11) (M.pure true) (mCall 2 m__law_draw [(0, 0)] (mCons (mMove 0) (mCons (mOD (mVar 1)) mNil)))) [some t, some (.d (.int ks.length)), some (.d (.lst (ws.map .str))), some (.d (.lst (us.map .str))), some (.d (.lst (as.map .str))), some (.d (.lst (ks.map .str))), none, some (.ol (acc.map .d)), some (.d (.int at_)), some (.d (.str x)), some (.d (saysD s)), none, o12, o13, o14]
      fun r ρ => ∃ (t2 : Sl) (ns : List Nat), Pen (k + 20) t2 ∧ ns.length = us.length ∧ (∀ n ∈ ns, n < ks.length) ∧ r = .ol ((ns.map numD).map .d) ∧ ρ = [some t2, some (.d (.int ks.length)), some (.d (.lst (ws.map .str))), some (.d (.lst (us.map .str))), some (.d (.lst (as.map .str))), some (.d (.lst (ks.map .str))), none, some (.ol (acc.map .d)), some (.d (.int at_)), some (.d (.str x)), some (.d (saysD s)), none, o12, o13, o14] := fun t s h hs => by
    refine ok_lc (fun l acc2 ρ => ∃ (t2 : Sl) (ns : List Nat), l.length + ns.length = us.length ∧ acc2 = (ns.map numD).map .d ∧ (∀ n ∈ ns, n < ks.length) ∧ Pen (k + 2 + ns.length) t2 ∧ ρ = [some t2, some (.d (.int ks.length)), some (.d (.lst (ws.map .str))), some (.d (.lst (us.map .str))), some (.d (.lst (as.map .str))), some (.d (.lst (ks.map .str))), none, some (.ol (acc.map .d)), some (.d (.int at_)), some (.d (.str x)), some (.d (saysD s)), none, o12, o13, o14]) ?_ ?_
    · rintro d l acc2 ρ ⟨t2, ns, h1, rfl, h2, p, rfl⟩
      simp only [List.length_cons] at h1
      refine ⟨_, tgName_set (by simp), ?_⟩
      rw [ok_pure, if_pos rfl]
      bv_omega
      refine (draw p (by omega) (m := ks.length) (by omega) (by omega)).imp ?_
      rintro s2 ρf ⟨t3, n, rfl, rfl, p3, a, b⟩
      obtain ⟨j, rfl, hj⟩ := num_of a b
      simp only [putBack_0, wipeE]
      refine ⟨by rw [List.length_map, List.length_map]; omega, t3, ns ++ [j], by simp only [List.length_append, List.length_cons, List.length_nil]; omega, by simp [numD], fun y hy => ?_, p3.le (by simp only [List.length_append, List.length_cons, List.length_nil]; omega), rfl⟩
      rcases List.mem_append.mp hy with hy | hy
      · exact h2 y hy
      · rw [List.mem_singleton] at hy; rw [hy]; exact hj
    · bv_omega
      refine ⟨rfl, ⟨t, [], by simp, rfl, by simp, h.le (by simp), rfl⟩, ?_⟩
      rintro acc2 ρ ⟨t3, ns, h1, rfl, h2, p3, rfl⟩
      have e : ns.length = us.length := by simpa using h1
      refine ⟨t3, ns, p3.le (by omega), e, h2, rfl, rfl⟩
  have finish : ∀ (t : Sl) (s : Option Str), Pen (k + 2) t → (∀ a, s = some a → isA a = true) → Ok (mApp 7 (mOD (mTup (mCons (mC (.str (PySem.Str.ofString "wait"))) (mCons (mVar 10) (mCons (mOpN tupleD (mCons (mFz (mLc [11] (mItems itemsS (mVar 3)) (tgName 11) (M.pure true) (mCall 2 m__law_draw [(0, 0)] (mCons (mMove 0) (mCons (mOD (mVar 1)) mNil))))) mNil)) mNil))))))
      [some t, some (.d (.int ks.length)), some (.d (.lst (ws.map .str))), some (.d (.lst (us.map .str))), some (.d (.lst (as.map .str))), some (.d (.lst (ks.map .str))), none, some (.ol (acc.map .d)), some (.d (.int at_)), some (.d (.str x)), some (.d (saysD s)), none, o12, o13, o14]
      (fun _ ρ => Post k ws us as ks acc at_ x ρ) := fun t s h hs => by
    refine ok_app rfl ?_
    bv_omega
    refine (tail t s h hs).imp ?_
    rintro r ρ ⟨t2, ns, p, e, hn, rfl, rfl⟩
    rw [frz_ol, frzL_d]
    refine ⟨_, rfl, _, rfl, _, rfl, by rw [List.length_map]; omega, t2, .wt s ns, some (.d (saysD s)), o12, o13, o14, p, ⟨⟨fun n hn2 => hn n hn2, (⟨hs, e⟩ : OkWt us.length ks.length s ns)⟩, ?_, fun z => by cases z⟩, ?_⟩
    · rw [hx, hxw]
      simp [Ctl.isLk, wait_ne_look]
    · simp [ctlD, waitS]
  bv_omega
  refine (draw h (by omega) (m := 3) (by omega) (by omega)).imp ?_
  rintro s ρf ⟨t2, n, rfl, rfl, p2, a, b⟩
  simp only [putBack_0, frz_d]
  bv_omega
  by_cases hn : n = 0
  · subst hn
    simp only [if_true]
    bv_omega
    exact finish t2 none (p2.le (by omega)) (by simp)
  · simp only [hn, if_false]
    bv_omega
    refine (pickL (l := as.map .str) p2 rfl (by omega) (by rw [List.length_map]; omega) (by simpa using ha)).imp ?_
    rintro s ρf ⟨t3, d, rfl, rfl, p3, hd⟩
    obtain ⟨w, hw, rfl⟩ := List.mem_map.mp hd
    simp only [putBack_0, frz_d]
    bv_omega
    exact finish t3 (some w) (p3.le (by omega)) (fun y e => by cases e; exact haa _ hw)
theorem bodyD_ok (h : Pen k t) (hk : k < 2 ^ 38) (hm : ks.length ≤ 24) (h0 : 0 < ks.length) (hw : ws ≠ []) (hwl : ws.length ≤ 3) (hx : ks[at_]? = some x) (hxw : x = doS) (hacc : acc.length ≤ 1000) :
    OkS bodyD [some t, some (.d (.int ks.length)), some (.d (.lst (ws.map .str))), some (.d (.lst (us.map .str))), some (.d (.lst (as.map .str))), some (.d (.lst (ks.map .str))), none, some (.ol (acc.map .d)), some (.d (.int at_)), some (.d (.str x)), o10, none, o12, o13, o14] (Post k ws us as ks acc at_ x) R := by
  unfold bodyD
  bv_omega
  refine ok_app rfl ?_
  bv_omega
  refine (pickL (l := ws.map .str) h rfl (by omega) (by rw [List.length_map]; omega) (by simpa using hw)).imp ?_
  rintro s ρf ⟨t3, d, rfl, rfl, p3, hd⟩
  obtain ⟨w, hw, rfl⟩ := List.mem_map.mp hd
  simp only [putBack_0, frz_d]
  bv_omega
  refine (draw p3 (by omega) (m := ks.length) (by omega) (by omega)).imp ?_
  rintro s ρf ⟨t2, n, rfl, rfl, p2, a, b⟩
  obtain ⟨j, rfl, hj⟩ := num_of a b
  simp only [putBack_0, frz_d]
  refine ⟨_, rfl, _, rfl, by rw [List.length_map]; omega, t2, .dd w j, o10, o12, o13, o14, p2.le (by omega), ⟨⟨fun n hn2 => ?_, hw⟩, ?_, fun z => by cases z⟩, ?_⟩
  · simp only [Ctl.outs, List.mem_singleton] at hn2
    omega
  · rw [hx, hxw]
    simp [Ctl.isLk, do_ne_look]
  · simp [ctlD, doS, numD]
theorem cutD_take {l : List D} {n : Nat} : cutD l none (some (n : Int)) = l.take n := by
  unfold cutD
  rw [HT.sIx_none, HT.sIx_nat]
  rw [List.drop_zero, Nat.sub_zero]
  rcases Nat.le_total n l.length with h | h
  · rw [Nat.min_eq_left h]
  · rw [Nat.min_eq_right h, List.take_length, List.take_of_length_le h]
def endsOf (ks : List Str) (at_ : Nat) : List Nat := (List.range ks.length).filter fun n => decide (ks[n]? ≠ some lookS ∨ at_ < n)
theorem intsFrom_map (n : Nat) : DL.intsFrom 0 n = (List.range n).map numD := by
  unfold DL.intsFrom
  refine List.map_congr_left fun i _ => ?_
  rw [Int.zero_add]; rfl
theorem ends_ok {z : D} (hz : z = .int (ks.length : Nat)) (hks : ∀ y ∈ ks, y ∈ [waitS, doS, lookS]) (hm : ks.length ≤ 24) {Q : Sl → DL.Env → Prop} (q : Q (olN (endsOf ks at_)) [some t, some (.d z), some (.d (.lst (ws.map .str))), some (.d (.lst (us.map .str))), some (.d (.lst (as.map .str))), some (.d (.lst (ks.map .str))), none, some (.ol (acc.map .d)), some (.d (.int at_)), some (.d (.str x)), o10, none, o12, o13, o14]) :
    Ok (mLc [6] (mItemsN rng1 (mCons (mVar 1) mNil)) (tgName 6) (mOr (mPeekT (mTest (mOp2 neD (mOp2 ixD (mVar 5) (mVar 6)) (mC (.str (PySem.Str.ofString "look")))))) (mTest (mOp2 gtD (mVar 6) (mVar 8)))) (mOD (mVar 6))) [some t, some (.d z), some (.d (.lst (ws.map .str))), some (.d (.lst (us.map .str))), some (.d (.lst (as.map .str))), some (.d (.lst (ks.map .str))), none, some (.ol (acc.map .d)), some (.d (.int at_)), some (.d (.str x)), o10, none, o12, o13, o14] Q := by
  refine ok_lc (fun l acc2 ρ => ∃ ys zs : List Nat, List.range ks.length = ys ++ zs ∧ l = zs.map numD ∧ acc2 = ((ys.filter fun n => decide (ks[n]? ≠ some lookS ∨ at_ < n)).map numD).map .d ∧ ρ = [some t, some (.d z), some (.d (.lst (ws.map .str))), some (.d (.lst (us.map .str))), some (.d (.lst (as.map .str))), some (.d (.lst (ks.map .str))), none, some (.ol (acc.map .d)), some (.d (.int at_)), some (.d (.str x)), o10, none, o12, o13, o14]) ?_ ?_
  · rintro d l acc2 ρ ⟨ys, zs, h1, h2, rfl, rfl⟩
    cases zs with
    | nil => cases h2
    | cons n zs =>
      simp only [List.map_cons, List.cons.injEq] at h2
      obtain ⟨rfl, rfl⟩ := h2
      refine ⟨_, tgName_set (by simp), ?_⟩
      have hn : n < ks.length := by
        have : n ∈ List.range ks.length := by rw [h1]; simp
        simpa using this
      have hy : ys.length ≤ 24 := by
        have := congrArg List.length h1
        simp only [List.length_append, List.length_cons, List.length_range] at this
        omega
      have hf := List.length_filter_le (fun n => decide (ks[n]? ≠ some lookS ∨ at_ < n)) ys
      have en : ks[n]? = some ks[n] := List.getElem?_eq_getElem hn
      bv_omega
      refine ok_peekT ?_
      simp only [frzE, List.set, List.map_cons, List.map_nil, Option.map_some, Option.map_none, frz]
      bv_omega
      have hk3 : SOk ks[n] := by
        have := hks ks[n] (List.getElem_mem hn)
        simp only [List.mem_cons, List.not_mem_nil, or_false] at this
        rcases this with e | e | e
        · rw [e]; exact sok_wait
        · rw [e]; exact sok_do
        · rw [e]; exact sok_look
      have skip : ¬ (ks[n]? ≠ some lookS ∨ at_ < n) → ∃ ys_1 zs_1 : List Nat, List.range ks.length = ys_1 ++ zs_1 ∧ zs.map numD = zs_1.map numD ∧ ((ys.filter fun n => decide (ks[n]? ≠ some lookS ∨ at_ < n)).map numD).map Sl.d = ((ys_1.filter fun n => decide (ks[n]? ≠ some lookS ∨ at_ < n)).map numD).map Sl.d := fun hc =>
        ⟨ys ++ [n], zs, by rw [h1]; simp, rfl, by rw [List.filter_append]; simp [hc]⟩
      have keep : (ks[n]? ≠ some lookS ∨ at_ < n) → (((ys.filter fun n => decide (ks[n]? ≠ some lookS ∨ at_ < n)).map numD).map Sl.d).length ≤ 16777215 ∧ ∃ ys_1 zs_1 : List Nat, List.range ks.length = ys_1 ++ zs_1 ∧ zs.map numD = zs_1.map numD ∧ ((ys.filter fun n => decide (ks[n]? ≠ some lookS ∨ at_ < n)).map numD).map Sl.d ++ [Sl.d (numD n)] = ((ys_1.filter fun n => decide (ks[n]? ≠ some lookS ∨ at_ < n)).map numD).map Sl.d := fun hc =>
        ⟨by rw [List.length_map, List.length_map]; omega, ys ++ [n], zs, by rw [h1]; simp, rfl, by rw [List.filter_append]; simp [hc]⟩
      refine ⟨_, ix_strs en, _, neD_str hk3 sok_look, ?_⟩
      simp only [wipeE]
      bv_omega
      have eg : gtD (numD n) (.int (at_ : Nat)) = some (.bl (decide (at_ < n))) := by
        show some (D.bl (decide ((n : Int) > (at_ : Int)))) = _
        by_cases h : at_ < n
        · rw [decide_eq_true h, decide_eq_true (by omega)]
        · rw [decide_eq_false h, decide_eq_false (by omega)]
      by_cases hc : ks[n] = lookS
      · rw [hc, look_is, decide_eq_true rfl, eg]
        bv_omega
        have hc2 : ¬ ks[n]? ≠ some lookS := by rw [en, hc]; simp
        by_cases hl : at_ < n
        · simp only [hl, decide_true, if_true]
          exact keep (.inr hl)
        · simp only [hl, decide_false, if_false, Bool.false_eq_true]
          exact skip fun z => z.elim hc2 hl
      · have hc2 : ks[n]? ≠ some lookS := by rw [en]; simpa using hc
        rw [look_is, decide_eq_false hc]
        bv_omega
        exact keep (.inl hc2)
  · subst hz
    bv_omega
    rw [rng_ok (by omega), intsFrom_map]
    bv_omega
    refine ⟨rfl, ⟨[], List.range ks.length, rfl, rfl, rfl, rfl⟩, ?_⟩
    rintro acc2 ρ ⟨ys, zs, h1, h2, rfl, rfl⟩
    have hz : zs = [] := List.map_eq_nil_iff.mp h2.symm
    subst hz
    rw [List.append_nil] at h1
    rw [← h1]
    exact q
end
end G72

end
section
set_option Elab.async false
set_option linter.all false
set_option autoImplicit false
set_option maxRecDepth 100000
set_option maxHeartbeats 4000000
namespace G72
open PySem PySem.Spec L2 NdefX DL
open TL (tl)
local macro_rules
  | `(tactic| bv_omega) => `(tactic| try simp only [okS_seq, ok_jsNil, ok_jsCons, seq_tup, seq_lst, ok_f0, ok_g0, ok_f1, ok_g1, ok_f2, ok_g2, ok_f3, ok_g3, ok_f4, ok_g4, ok_f5, ok_g5, ok_f6, ok_g6, ok_f7, ok_g7, ok_f8, ok_g8, ok_f9, ok_g9, ok_f10, ok_g10, ok_f11, ok_g11, okS_attr, okS_asg, okS_ret, okS_drop, okS_sIf, okS_next, okS_for, okS_tgt, okS_fail, okS_retN, ok_C, ok_op2, ok_op1, ok_opN, ok_opNO, ok_nil, ok_cons, ok_OD, ok_Fz, ok_test, ok_B, ok_and, ok_or, ok_not, ok_mIf, ok_lst, ok_tup, ok_callE, ok_items, ok_itemsN, ok_mt1, ok_chain, ok_sl, ok_noPart, ok_part, ok_star, ok_isiT, ok_truB, ok_v0, ok_v1, ok_v2, ok_v3, ok_v4, ok_v5, ok_v6, ok_v7, ok_v8, ok_v9, ok_v10, ok_m0, ok_m1, ok_m2, ok_m3, ok_m4, ok_m5, ok_m6, ok_m7, ok_m8, ok_m9, ok_m10, gt_ii, ge_ii, lt_ii, le_ii, add_ii, sub_ii, asB_b, int_i, isi_str_str, isi_int_str, isi_int_int, isi_int_bool, ix2_0, ix2_1, ofStr_inj, String.reduceEq, or_false, false_or, or_true, true_or, decide_true, decide_false, isiT_lst, isiT_tup, asI_i, sl_lst, tuple_lst, tuple_tup, isNon_non, isNotNon_non, isNotNon_int, isNon_int, isNon_str, isNotNon_str, eqD_int, neD_int, in_char, notIn_char, items_str, items_lst, items_tup, enum_lst, enum_tup, len_lst', len_tup, frz_d, frz_ol, putBack_nil, putBack_0, exists_eq_left', Option.some.injEq, D.int.injEq, D.str.injEq, decide_eq_true_eq, List.length_cons, List.length_nil, List.set, List.cons_append, List.nil_append, List.append_nil, List.replicate, List.map_cons, List.map_nil, List.take, keepIO, Nat.zero_add, Nat.reduceAdd, Nat.reduceLT, Nat.reduceLeDiff, Nat.reduceEqDiff, true_and, and_true, if_true, if_false, Bool.not_true, Bool.not_false, Bool.false_eq_true, List.mem_cons, List.not_mem_nil])
section
variable {k : Int} {t z5 : Sl} {ws us as ks : List Str} {acc : List D} {at_ : Nat} {x : Str} {o10 o12 o13 o14 : Option Sl} {R : Sl → DL.Env → Prop}
theorem ends_mem {n : Nat} (h : n ∈ endsOf ks at_) : n < ks.length ∧ (ks[n]? ≠ some lookS ∨ at_ < n) := by
  unfold endsOf at h
  rw [List.mem_filter] at h
  exact ⟨by simpa using h.1, of_decide_eq_true h.2⟩
theorem ends_ne {j : Nat} (hj : ks[j]? = some waitS) : endsOf ks at_ ≠ [] := by
  have hl := (List.getElem?_eq_some_iff.mp hj).1
  have : j ∈ endsOf ks at_ := by
    unfold endsOf
    rw [List.mem_filter]
    exact ⟨by simpa using hl, decide_eq_true (.inl (by rw [hj]; simpa using wait_ne_look))⟩
  intro z
  rw [z] at this; cases this
theorem ends_len : (endsOf ks at_).length ≤ ks.length := by
  unfold endsOf
  refine Nat.le_trans (List.length_filter_le _ _) ?_
  rw [List.length_range]; exact Nat.le_refl _
theorem bodyL_okz {z : D} (hz : z = .int (ks.length : Nat)) (h : Pen k t) (hk : k < 2 ^ 37) (hm : ks.length ≤ 24) (hks : ∀ y ∈ ks, y ∈ [waitS, doS, lookS]) {j : Nat} (hj : ks[j]? = some waitS) (ha : as.Nodup) (hal : as.length ≤ 3) (haa : ∀ a ∈ as, isA a = true) (hx : ks[at_]? = some x) (hxw : x = lookS) (hacc : acc.length ≤ 1000) :
    OkS bodyL [some t, some (.d z), some (.d (.lst (ws.map .str))), some (.d (.lst (us.map .str))), some (.d (.lst (as.map .str))), some (.d (.lst (ks.map .str))), none, some (.ol (acc.map .d)), some (.d (.int at_)), some (.d (.str x)), o10, none, o12, o13, o14] (Post k ws us as ks acc at_ x) R := by
  subst hz
  have hne := ends_ne (at_ := at_) hj
  have hel := ends_len (ks := ks) (at_ := at_)
  have pe : ∀ {k : Int} {t : Sl}, Pen k t → k < 2 ^ 38 → Ok m__law_pick [some t, some (.d (.lst ((endsOf ks at_).map numD)))] fun s ρ => ∃ t2 n, s = .d (numD n) ∧ ρ = [some t2, none] ∧ Pen (k + 1) t2 ∧ n ∈ endsOf ks at_ := fun {k t} p hk => by
    refine (pickL (l := (endsOf ks at_).map numD) p rfl (by omega) (by rw [List.length_map]; omega) (by simpa using hne)).imp ?_
    rintro s ρ ⟨t2, d, rfl, rfl, p2, hd⟩
    obtain ⟨n, hn, rfl⟩ := List.mem_map.mp hd
    exact ⟨t2, n, rfl, rfl, p2, hn⟩
  have cmp : ∀ d ∈ as.map D.str, Cmp 63 d := fun d hd => by
    obtain ⟨w, hw, rfl⟩ := List.mem_map.mp hd
    exact Cmp.str (isA_vis (haa w hw)).sok
  unfold bodyL
  rw [okS_seq]
  rw [okS_asg]
  generalize hz : (D.int (ks.length : Nat)) = z
  refine ends_ok hz.symm hks hm ?_
  subst hz
  bv_omega
  refine ⟨_, rfl, ?_⟩
  refine (shuffled h (by omega) (by rw [List.length_map]; omega) cmp).imp ?_
  rintro s ρf ⟨t2, ys, rfl, rfl, p2, perm⟩
  obtain ⟨bs, rfl, perm2⟩ := perm_strs perm
  rw [List.length_map] at p2
  simp only [putBack_0, frz_ol, frzL_d]
  bv_omega
  rw [List.length_map]
  refine (draw p2 (by omega) (m := as.length + 1) (by omega) (by omega)).imp ?_
  rintro s ρf ⟨t4, n, rfl, rfl, p4, a, b⟩
  obtain ⟨m, rfl, hmm⟩ := num_of (m := as.length + 1) a (by omega)
  simp only [putBack_0, frz_d]
  bv_omega
  rw [cutD_take, ← List.map_take]
  generalize hbs : bs.take m = cs
  have nd2 : cs.Nodup := by
    rw [← hbs]
    exact List.Nodup.sublist (List.take_sublist _ _) (perm2.nodup_iff.mpr ha)
  have all2 : ∀ c ∈ cs, isA c = true := fun c hc => by
    rw [← hbs] at hc
    exact haa c (perm2.subset (List.mem_of_mem_take hc))
  have len2 : cs.length ≤ 3 := by
    have := perm2.length_eq
    rw [← hbs, List.length_take]; omega
  refine okS_loopI (fun i ρ => ∃ (t3 : Sl) (gs : List (Str × Nat)) (s12 : Sl) (o14 : Option Sl), gs.length = i ∧ gs.map Prod.fst = cs.take i ∧ (∀ g ∈ gs, g.2 ∈ endsOf ks at_) ∧ frz s12 = .lst ((endsOf ks at_).map numD) ∧ Pen (k + 4 + i) t3 ∧ ρ = [some t3, some (.d (.int ks.length)), some (.d (.lst (ws.map .str))), some (.d (.lst (us.map .str))), some (.d (.lst (as.map .str))), some (.d (.lst (ks.map .str))), none, some (.ol (acc.map .d)), some (.d (.int at_)), some (.d (.str x)), o10, none, some s12, some (.ol ((gs.map grpD).map .d)), o14]) ?_ ⟨_, [], olN (endsOf ks at_), o14, rfl, rfl, by simp, frz_olN _, p4.le (by omega), rfl⟩ ?_
  · rintro i d ρ e ⟨t3, gs, s12, o14, hgl, hgf, hge, h12, p3, rfl⟩
    obtain ⟨w, ew, rfl⟩ := map_get e
    have hi := (List.getElem?_eq_some_iff.mp ew).1
    refine ⟨_, tgName_set (by simp), ?_⟩
    bv_omega
    refine ok_app rfl ?_
    bv_omega
    rw [ok_var (d := .str w) rfl]
    bv_omega
    rw [ok_varF (s := s12) rfl]
    bv_omega
    rw [h12]
    refine (pe p3 (by omega)).imp ?_
    rintro s ρf ⟨t5, n, rfl, rfl, p5, hn⟩
    simp only [putBack_0, frz_d]
    refine ⟨_, rfl, _, rfl, by rw [List.length_map, List.length_map]; omega, t5, gs ++ [(w, n)], .d (.lst ((endsOf ks at_).map numD)), some (.d (.str w)), by simp [hgl], ?_, fun g hg => ?_, rfl, p5.le (by omega), ?_⟩
    · rw [List.map_append, hgf, List.take_add_one, ew]; rfl
    · rcases List.mem_append.mp hg with hg | hg
      · exact hge g hg
      · rw [List.mem_singleton] at hg; rw [hg]; exact hn
    · rw [List.map_append, List.map_append]; rfl
  · rintro ρ ⟨t3, gs, s12, o14, hgl, hgf, hge, h12, p3, rfl⟩
    rw [List.length_map] at hgl hgf p3
    rw [List.take_length] at hgf
    refine ok_app rfl ?_
    bv_omega
    rw [okV_F (s := .ol ((gs.map grpD).map .d)) rfl, frz_ol, frzL_d]
    bv_omega
    rw [ok_varF (s := s12) rfl]
    bv_omega
    rw [h12]
    refine (pe p3 (by omega)).imp ?_
    rintro s ρf ⟨t5, n, rfl, rfl, p5, hn⟩
    simp only [putBack_0, frz_d]
    have hok : OkLk gs := ⟨fun g hg => all2 g.1 (by rw [← hgf]; exact List.mem_map.mpr ⟨g, hg, rfl⟩), by rw [hgf]; exact nd2, by omega⟩
    have hout : ∀ n2 ∈ (Ctl.lk gs n).outs, n2 ∈ endsOf ks at_ := fun n2 h2 => by
      simp only [Ctl.outs, List.mem_append, List.mem_map, List.mem_singleton] at h2
      rcases h2 with ⟨g, hg, rfl⟩ | rfl
      · exact hge g hg
      · exact hn
    refine ⟨_, rfl, _, rfl, by rw [List.length_map]; omega, t5, .lk gs n, o10, some (.d (.lst ((endsOf ks at_).map numD))), some (.d (.lst (gs.map grpD))), o14, p5.le (by omega), ⟨⟨fun n2 h2 => (ends_mem (hout n2 h2)).1, hok⟩, ?_, fun _ n2 h2 => (ends_mem (hout n2 h2)).2⟩, ?_⟩
    · rw [hx, hxw]
      simp [Ctl.isLk]
    · simp [ctlD, lookS]
end
end G72

end
section
set_option Elab.async false
set_option linter.all false
set_option autoImplicit false
set_option maxRecDepth 100000
set_option maxHeartbeats 4000000
namespace G72
open PySem PySem.Spec L2 NdefX DL
open TL (tl)
local macro_rules
  | `(tactic| bv_omega) => `(tactic| try simp only [okS_seq, ok_jsNil, ok_jsCons, seq_tup, seq_lst, ok_f0, ok_g0, ok_f1, ok_g1, ok_f2, ok_g2, ok_f3, ok_g3, ok_f4, ok_g4, ok_f5, ok_g5, ok_f6, ok_g6, ok_f7, ok_g7, ok_f8, ok_g8, ok_f9, ok_g9, ok_f10, ok_g10, ok_f11, ok_g11, okS_attr, okS_asg, okS_ret, okS_drop, okS_sIf, okS_next, okS_for, okS_tgt, okS_fail, okS_retN, ok_C, ok_op2, ok_op1, ok_opN, ok_opNO, ok_nil, ok_cons, ok_OD, ok_Fz, ok_test, ok_B, ok_and, ok_or, ok_not, ok_mIf, ok_lst, ok_tup, ok_callE, ok_items, ok_itemsN, ok_mt1, ok_chain, ok_sl, ok_noPart, ok_part, ok_star, ok_isiT, ok_truB, ok_v0, ok_v1, ok_v2, ok_v3, ok_v4, ok_v5, ok_v6, ok_v7, ok_v8, ok_v9, ok_v10, ok_m0, ok_m1, ok_m2, ok_m3, ok_m4, ok_m5, ok_m6, ok_m7, ok_m8, ok_m9, ok_m10, gt_ii, ge_ii, lt_ii, le_ii, add_ii, sub_ii, asB_b, int_i, isi_str_str, isi_int_str, isi_int_int, isi_int_bool, ix2_0, ix2_1, ofStr_inj, String.reduceEq, or_false, false_or, or_true, true_or, decide_true, decide_false, isiT_lst, isiT_tup, asI_i, sl_lst, tuple_lst, tuple_tup, isNon_non, isNotNon_non, isNotNon_int, isNon_int, isNon_str, isNotNon_str, eqD_int, neD_int, in_char, notIn_char, items_str, items_lst, items_tup, enum_lst, enum_tup, len_lst', len_tup, frz_d, frz_ol, putBack_nil, putBack_0, exists_eq_left', Option.some.injEq, D.int.injEq, D.str.injEq, decide_eq_true_eq, List.length_cons, List.length_nil, List.set, List.cons_append, List.nil_append, List.append_nil, List.replicate, List.map_cons, List.map_nil, List.take, keepIO, Nat.zero_add, Nat.reduceAdd, Nat.reduceLT, Nat.reduceLeDiff, Nat.reduceEqDiff, true_and, and_true, if_true, if_false, Bool.not_true, Bool.not_false, Bool.false_eq_true, List.mem_cons, List.not_mem_nil])
def bodyAll : SM := sIf (mTest (mOp2 eqD (mVar 9) (mC (.str (Str.ofString "wait"))))) bodyW (sIf (mTest (mOp2 eqD (mVar 9) (mC (.str (Str.ofString "do"))))) bodyD bodyL)
section
variable {k : Int} {t z5 : Sl} {ws us as ks : List Str} {acc : List D} {at_ : Nat} {x : Str} {o10 o12 o13 o14 : Option Sl} {R : Sl → DL.Env → Prop}
theorem bodyAll_ok {z : D} (hz : z = .int (ks.length : Nat)) (h : Pen k t) (hk : k < 2 ^ 37) (hm : ks.length ≤ 24) (hks : ∀ y ∈ ks, y ∈ [waitS, doS, lookS]) {j : Nat} (hj : ks[j]? = some waitS) (hw : OkWs ws) (hu : OkWs us) (ha0 : as ≠ []) (ha : as.Nodup) (hal : as.length ≤ 3) (haa : ∀ a ∈ as, isA a = true) (hx : ks[at_]? = some x) (hacc : acc.length ≤ 1000) :
    OkS bodyAll [some t, some (.d z), some (.d (.lst (ws.map .str))), some (.d (.lst (us.map .str))), some (.d (.lst (as.map .str))), some (.d (.lst (ks.map .str))), none, some (.ol (acc.map .d)), some (.d (.int at_)), some (.d (.str x)), o10, none, o12, o13, o14] (Post k ws us as ks acc at_ x) R := by
  have h0 : 0 < ks.length := by have := (List.getElem?_eq_some_iff.mp hj).1; omega
  have hxk := hks x (List.mem_of_getElem? hx)
  simp only [List.mem_cons, List.not_mem_nil, or_false] at hxk
  unfold bodyAll
  rcases hxk with e | e | e
  · subst hz
    have W := bodyW_ok (k := k) (t := t) (ws := ws) (us := us) (as := as) (ks := ks) (acc := acc) (at_ := at_) (x := x) (o10 := o10) (o12 := o12) (o13 := o13) (o14 := o14) (R := R) h (by omega) hm h0 hu.most ha0 hal haa hx e hacc
    subst e
    bv_omega
    simp only [wait_is, eq_ww]
    bv_omega
    exact W
  · subst hz
    have W := bodyD_ok (k := k) (t := t) (ws := ws) (us := us) (as := as) (ks := ks) (acc := acc) (at_ := at_) (x := x) (o10 := o10) (o12 := o12) (o13 := o13) (o14 := o14) (R := R) h (by omega) hm h0 hw.one hw.most hx e hacc
    subst e
    bv_omega
    simp only [wait_is, do_is, eq_dw, eq_dd]
    bv_omega
    exact W
  · have W := bodyL_okz (z := z) (k := k) (t := t) (ws := ws) (us := us) (as := as) (ks := ks) (acc := acc) (at_ := at_) (x := x) (o10 := o10) (o12 := o12) (o13 := o13) (o14 := o14) (R := R) hz h (by omega) hm hks hj ha hal haa hx e hacc
    subst e
    bv_omega
    simp only [wait_is, do_is, eq_lw, eq_ld]
    bv_omega
    exact W
end
theorem controls_ok {k : Int} {t : Sl} {many : Nat} {z : D} {ws us as : List Str} (hz : z = .int (many : Nat)) (h : Pen k t) (hk : k < 2 ^ 36) (h0 : 0 < many) (hm : many ≤ 24) (hw : OkWs ws) (hu : OkWs us) (ha0 : as ≠ []) (ha : as.Nodup) (hal : as.length ≤ 3) (haa : ∀ a ∈ as, isA a = true) :
    Ok m__law_controls [some t, some (.d z), some (.d (.lst (ws.map .str))), some (.d (.lst (us.map .str))), some (.d (.lst (as.map .str)))] fun s ρ => ∃ (t2 : Sl) (cs : List Ctl), s = .ol ((cs.map ctlD).map .d) ∧ ρ = [some t2, none, none, none, none] ∧ Pen (k + 600) t2 ∧ OkCs ws us cs := by
  refine ok_runF rfl ?_
  unfold b__law_controls_
  rw [okS_seq, okS_asg]
  refine kinds_ok (many := many) (congrArg Sl.d hz) h (by omega) h0 hm fun t2 ks p2 hkl hks => ?_
  subst hz
  refine ⟨by simp, ?_⟩
  rw [okS_seq]
  refine okS_ixSet ?_
  bv_omega
  refine ⟨rfl, ?_⟩
  refine (draw p2 (by omega) (m := many) (by omega) (by omega)).imp ?_
  rintro s ρf ⟨t3, n, rfl, rfl, p3, a, b⟩
  obtain ⟨j, rfl, hj⟩ := num_of a b
  simp only [putBack_0, frz_d]
  have hset : (dstr ks).set ((j : Int).toNat) (.d (.str (Str.ofString "wait"))) = dstr (ks.set j waitS) := by
    unfold dstr
    rw [Int.toNat_natCast, ← List.map_set]; rfl
  refine ⟨j, _, rfl, rfl, by omega, by simp only [dstr, List.length_map]; omega, _, rfl, by simp, ?_⟩
  rw [hset]
  generalize hk2 : ks.set j waitS = ks2
  have hl2 : ks2.length = many := by rw [← hk2, List.length_set]; exact hkl
  have hj2 : ks2[j]? = some waitS := by rw [← hk2, List.getElem?_set_self (by omega)]
  have hks2 : ∀ y ∈ ks2, y ∈ [waitS, doS, lookS] := fun y hy => by
    rw [← hk2] at hy
    rcases List.mem_or_eq_of_mem_set hy with hy | rfl
    · exact hks y hy
    · simp
  bv_omega
  rw [frzL_dstr]
  generalize hz : (D.int (many : Nat)) = z
  refine okS_enum (fun i ρ => ∃ (t3 : Sl) (cs : List Ctl) (o8 o9 o10 o12 o13 o14 : Option Sl), cs.length = i ∧ (∀ (n : Nat) (c : Ctl), cs[n]? = some c → Drawn ws us ks2 n c) ∧ Pen (k + 100 + 20 * i) t3 ∧ ρ = [some t3, some (.d z), some (.d (.lst (ws.map .str))), some (.d (.lst (us.map .str))), some (.d (.lst (as.map .str))), some (.d (.lst (ks2.map .str))), none, some (.ol ((cs.map ctlD).map .d)), o8, o9, o10, none, o12, o13, o14]) ?_ ⟨_, [], _, _, _, _, _, _, rfl, (fun n c e => by cases e), p3.le (by omega), rfl⟩ ?_
  · rintro i d ρ e ⟨t4, cs, o8, o9, o10, o12, o13, o14, hcl, hcs, p4, rfl⟩
    obtain ⟨x, ex, rfl⟩ := map_get e
    have hi := (List.getElem?_eq_some_iff.mp ex).1
    refine ⟨_, tgt2 (by simp) (by simp), ?_⟩
    have B := fun R => bodyAll_ok (z := z) (k := k + 100 + 20 * i) (t := t4) (ws := ws) (us := us) (as := as) (ks := ks2) (acc := cs.map ctlD) (at_ := i) (x := x) (o10 := o10) (o12 := o12) (o13 := o13) (o14 := o14) (R := R) (by rw [hl2]; exact hz.symm) p4 (by omega) (by omega) hks2 hj2 hw hu ha0 ha hal haa ex (by rw [List.length_map]; omega)
    unfold bodyAll bodyW bodyD bodyL at B
    refine (B _).imp ?_ fun _ _ r => r
    rintro ρ ⟨t5, c, o10, o12, o13, o14, p5, dr, rfl⟩
    refine ⟨t5, cs ++ [c], some (.d (.int i)), some (.d (.str x)), o10, o12, o13, o14, by simp [hcl], fun n c2 e2 => ?_, p5.le (by omega), ?_⟩
    · rcases Nat.lt_or_ge n cs.length with hn | hn
      · rw [List.getElem?_append_left hn] at e2
        exact hcs n c2 e2
      · rw [List.getElem?_append_right hn] at e2
        have hn2 : n - cs.length = 0 := by
          rcases Nat.eq_zero_or_pos (n - cs.length) with q | q
          · exact q
          · rw [List.getElem?_eq_none (by simp; omega)] at e2; cases e2
        rw [hn2] at e2
        cases e2
        have : n = i := by omega
        rw [this]; exact dr
    · rw [hl2, hz, show (cs ++ [c]).map ctlD = cs.map ctlD ++ [ctlD c] by simp]
  · rintro ρ ⟨t4, cs, o8, o9, o10, o12, o13, o14, hcl, hcs, p4, rfl⟩
    rw [List.length_map, hl2] at hcl p4
    bv_omega
    refine ⟨t4, cs, rfl, rfl, p4.le (by omega), ?_⟩
    have hlen : cs.length = ks2.length := by omega
    refine ⟨fun z => by rw [z] at hcl; simp at hcl; omega, by omega, fun c hc => ?_, fun i n c d e1 e2 e3 e4 e5 => ?_⟩
    · obtain ⟨i, hi⟩ := List.mem_iff_getElem?.mp hc
      rw [hlen]
      exact (hcs i c hi).ok
    · have D1 := hcs i c e1
      have D2 := hcs n d e4
      rcases D1.ring e2 n e3 with q | q
      · exact absurd (D2.kind.mp e5) q
      · exact q
end G72

end
section
set_option Elab.async false
set_option linter.all false
set_option autoImplicit false
set_option maxRecDepth 100000
set_option maxHeartbeats 4000000
namespace G72
open PySem PySem.Spec L2 NdefX DL
open TL (tl)
local macro_rules
  | `(tactic| bv_omega) => `(tactic| try simp only [okS_seq, ok_jsNil, ok_jsCons, seq_tup, seq_lst, ok_f0, ok_g0, ok_f1, ok_g1, ok_f2, ok_g2, ok_f3, ok_g3, ok_f4, ok_g4, ok_f5, ok_g5, ok_f6, ok_g6, ok_f7, ok_g7, ok_f8, ok_g8, ok_f9, ok_g9, ok_f10, ok_g10, ok_f11, ok_g11, okS_attr, okS_asg, okS_ret, okS_drop, okS_sIf, okS_next, okS_for, okS_tgt, okS_fail, okS_retN, ok_C, ok_op2, ok_op1, ok_opN, ok_opNO, ok_nil, ok_cons, ok_OD, ok_Fz, ok_test, ok_B, ok_and, ok_or, ok_not, ok_mIf, ok_lst, ok_tup, ok_callE, ok_items, ok_itemsN, ok_mt1, ok_chain, ok_sl, ok_noPart, ok_part, ok_star, ok_isiT, ok_truB, ok_v0, ok_v1, ok_v2, ok_v3, ok_v4, ok_v5, ok_v6, ok_v7, ok_v8, ok_v9, ok_v10, ok_m0, ok_m1, ok_m2, ok_m3, ok_m4, ok_m5, ok_m6, ok_m7, ok_m8, ok_m9, ok_m10, gt_ii, ge_ii, lt_ii, le_ii, add_ii, sub_ii, asB_b, int_i, isi_str_str, isi_int_str, isi_int_int, isi_int_bool, ix2_0, ix2_1, ofStr_inj, String.reduceEq, or_false, false_or, or_true, true_or, decide_true, decide_false, isiT_lst, isiT_tup, asI_i, sl_lst, tuple_lst, tuple_tup, isNon_non, isNotNon_non, isNotNon_int, isNon_int, isNon_str, isNotNon_str, eqD_int, neD_int, in_char, notIn_char, items_str, items_lst, items_tup, enum_lst, enum_tup, len_lst', len_tup, frz_d, frz_ol, putBack_nil, putBack_0, exists_eq_left', Option.some.injEq, D.int.injEq, D.str.injEq, decide_eq_true_eq, List.length_cons, List.length_nil, List.set, List.cons_append, List.nil_append, List.append_nil, List.replicate, List.map_cons, List.map_nil, List.take, keepIO, Nat.zero_add, Nat.reduceAdd, Nat.reduceLT, Nat.reduceLeDiff, Nat.reduceEqDiff, true_and, and_true, if_true, if_false, Bool.not_true, Bool.not_false, Bool.false_eq_true, List.mem_cons, List.not_mem_nil])
def tailC : SM := (sSeq (sAsg 7 (mCall 5 m__law_controls [(0, 1)] (mCons (mMove 1) (mCons (mOD (mVar 6)) (mCons (mOD (mVar 3)) (mCons (mOD (mVar 4)) (mCons (mOD (mVar 5)) mNil))))))) (sSeq (sPar 8 9 (mCons (mMake (PySem.Str.ofString "Adapter") 4 m_Adapter_init [] (mCons (mOD (mVar 3)) (mCons (mOD (mVar 4)) (mCons (mOD (mVar 7)) mNil)))) (mCons (mCall 3 m__law_adapter_text [] (mCons (mOD (mVar 3)) (mCons (mOD (mVar 4)) (mCons (mOD (mVar 7)) mNil)))) mNil))) (sSeq (sIf (mOr (mTest (mOp2 neD (mFz (mCall 1 m_write_adapter [] (mCons (mOD (mVar 8)) mNil))) (mVar 9))) (mTest (mNeOwn (PySem.Str.ofString "Adapter") m_Adapter_eq (mFz (mCall 1 m_read_adapter [] (mCons (mOD (mVar 9)) mNil))) (mVar 8)))) (sRet (mOD (mC (.bl false)))) sNext) (sIf (mOr (mTest (mOp2 neD (mOp1 (attrD [(PySem.Str.ofString "Adapter")] (PySem.Str.ofString "controls")) (mFz (mCall 1 m_read_adapter [] (mCons (mOD (mVar 9)) mNil)))) (mOpN tupleD (mCons (mVar 7) mNil)))) (mTest (mOp2 neD (mFz (mCall 1 m_write_adapter [] (mCons (mCall 1 m_read_adapter [] (mCons (mOD (mVar 9)) mNil)) mNil))) (mVar 9)))) (sRet (mOD (mC (.bl false)))) sNext))))
theorem tup_ctls (cs : List Ctl) : tupleD [.lst (cs.map ctlD)] = some (.tup (cs.map ctlD)) := rfl
theorem tailC_ok {k : Int} {ws us as : List Str} {many : Nat} {z : D} {s0 o2 o7 o8 o9 : Option Sl} {t s3 s4 s5 : Sl} {N : DL.Env → Prop} {R : Sl → DL.Env → Prop} (h : Pen k t) (hk : k < 2 ^ 36) (hz : z = .int (many : Nat)) (h0 : 0 < many) (hm : many ≤ 24) (hw : OkWs ws) (hu : OkWs us) (ha0 : as ≠ []) (ha : as.Nodup) (hal : as.length ≤ 3) (haa : ∀ a ∈ as, isA a = true)
    (h3 : frz s3 = .lst (ws.map .str)) (h4 : frz s4 = .lst (us.map .str)) (h5 : frz s5 = .lst (as.map .str))
    (n : ∀ (t2 : Sl) (o3 o4 o5 o7 o8 o9 : Option Sl), Pen (k + 600) t2 → N [s0, some t2, o2, o3, o4, o5, some (.d z), o7, o8, o9]) : OkS tailC [s0, some t, o2, some s3, some s4, some s5, some (.d z), o7, o8, o9] N R := by
  unfold tailC
  bv_omega
  rw [ok_varF (s := s3) rfl]
  bv_omega
  rw [ok_varF (s := s4) rfl]
  bv_omega
  rw [ok_varF (s := s5) rfl]
  bv_omega
  rw [h3, h4, h5]
  refine (controls_ok hz h hk h0 hm hw hu ha0 ha hal haa).imp ?_
  rintro s ρf ⟨t2, cs, rfl, rfl, p2, hc⟩
  have most := hc.most
  have sT : SOk (textS ws us cs) := fun c hcc => by
    rcases mem_join hcc with z | ⟨x, hx, z⟩
    · have : c = 10 := by
        have e : tl nl = [10] := by decide +kernel
        rw [e] at z; simpa using z
      omega
    · obtain ⟨l, rfl, _, hv⟩ := rows_no10 hw hu hc x hx
      rcases mem_join z with z | ⟨y, hy, z⟩
      · have : c = 32 := by
          have e : tl (Str.ofString " ") = [32] := by decide +kernel
          rw [e] at z; simpa using z
        omega
      · have := hv y hy c z; omega
  have neT : neD (.str (textS ws us cs)) (.str (textS ws us cs)) = some (.bl false) := neD_same (Cmp.str sT)
  simp only [putBack_0]
  bv_omega
  refine okS_par ?_
  bv_omega
  rw [ok_makeE]
  bv_omega
  rw [frzL_d, ok_eq (Adapter_init_ok hw hu hc)]
  refine ⟨rfl, _, rfl, ?_⟩
  simp only [shift, List.map_nil, putBack_nil]
  bv_omega
  rw [ok_eq (law_adapter_text_ok hw hu hc)]
  try simp only [putBack_nil]
  refine ⟨_, _, _, rfl, rfl, ?_⟩
  simp only [List.set]
  rw [ok_varF (s := adO ws us cs) rfl]
  bv_omega
  rw [frz_ad, ok_eq (write_adapter_ok rfl hw hu hc)]
  bv_omega
  rw [neT]
  bv_omega
  refine ok_neOwn ?_
  bv_omega
  rw [ok_eq (read_adapter_ok hw hu hc)]
  bv_omega
  rw [frz_ad]
  refine ⟨isIns_adapter, isIns_adapter, _, _, _, Adapter_eq_ok hw hu hc, rfl, ?_⟩
  bv_omega
  rw [ok_eq (read_adapter_ok hw hu hc)]
  rw [frz_ad, get_controls]
  bv_omega
  rw [neD_same (cmp_ctls hw hc)]
  bv_omega
  rw [ok_eq (read_adapter_ok hw hu hc)]
  rw [ok_eq (write_adapter_ok frz_ad hw hu hc)]
  bv_omega
  rw [neT]
  bv_omega
  exact n _ _ _ _ _ _ _ p2
def LawInv (i : Nat) (ρ : DL.Env) : Prop := ∃ (t : Sl) (s0 : Option Sl) (o2 o3 o4 o5 o6 o7 o8 o9 : Option Sl), ρ = [s0, some t, o2, o3, o4, o5, o6, o7, o8, o9] ∧ Pen (1000 * i) t
def lawBody2 : SM := (sSeq (sAsg 3 (mCall 3 m__law_words [(0, 1)] (mConsL 1 (mCons (mOD (mOp2 addD (mC (.int 1)) (mFz (mCall 2 m__law_draw [(0, 1)] (mCons (mMove 1) (mCons (mOD (mC (.int 3))) mNil)))))) (mCons (mOD (mC (.int 8))) mNil))))) (sSeq (sAsg 4 (mCall 3 m__law_words [(0, 1)] (mConsL 1 (mCons (mOD (mOp2 addD (mC (.int 1)) (mFz (mCall 2 m__law_draw [(0, 1)] (mCons (mMove 1) (mCons (mOD (mC (.int 3))) mNil)))))) (mCons (mOD (mC (.int 8))) mNil))))) (sSeq (sPar 5 6 (mCons (mCall 2 m__law_said [(0, 1)] (mCons (mMove 1) (mCons (mOD (mC (.int 3))) mNil))) (mCons (mOD (mIf (mTest (mOp2 eqD (mVar 2) (mC (.int 3)))) (mC (.int 24)) (mOp2 addD (mC (.int 1)) (mFz (mCall 2 m__law_draw [(0, 1)] (mCons (mMove 1) (mCons (mOD (mC (.int 9))) mNil))))))) mNil))) tailC)))
theorem lawBody2_ok {i : Nat} {t : Sl} {s0 o3 o4 o5 o6 o7 o8 o9 : Option Sl} {R : Sl → DL.Env → Prop} (hi : i < 4) (p : Pen (1000 * i) t) : OkS lawBody2 [s0, some t, some (.d (.int i)), o3, o4, o5, o6, o7, o8, o9] (LawInv (i + 1)) R := by
  unfold lawBody2
  bv_omega
  refine ok_consL (s := t) rfl ?_
  bv_omega
  refine (draw p (by omega) (m := 3) (by omega) (by omega)).imp ?_
  rintro s ρf ⟨t1, n, rfl, rfl, p1, n0, n1⟩
  obtain ⟨n, rfl⟩ := Int.eq_ofNat_of_zero_le n0
  simp only [putBack_0, frz_d, add_ii, Option.some.injEq, exists_eq_left']
  bv_omega
  refine ⟨_, rfl, ?_⟩
  rw [show (1 : Int) + (n : Int) = ((n + 1 : Nat) : Int) by omega]
  refine (words_ok p1 (by omega) (by omega)).imp ?_
  rintro s ρf ⟨t2, ws, rfl, rfl, p2, hwl, hwn, hwa⟩
  simp only [putBack_0]
  bv_omega
  refine ok_consL (s := t2) rfl ?_
  bv_omega
  refine (draw p2 (by omega) (m := 3) (by omega) (by omega)).imp ?_
  rintro s ρf ⟨t3, m, rfl, rfl, p3, m0, m1⟩
  obtain ⟨m, rfl⟩ := Int.eq_ofNat_of_zero_le m0
  simp only [putBack_0, frz_d, add_ii, Option.some.injEq, exists_eq_left']
  bv_omega
  refine ⟨_, rfl, ?_⟩
  rw [show (1 : Int) + (m : Int) = ((m + 1 : Nat) : Int) by omega]
  refine (words_ok p3 (by omega) (by omega)).imp ?_
  rintro s ρf ⟨t4, us, rfl, rfl, p4, hul, hun, hua⟩
  simp only [putBack_0]
  bv_omega
  refine okS_par ?_
  bv_omega
  refine (said_nd (many := 3) p4 (by omega) (by omega)).imp ?_
  rintro s ρf ⟨t5, as, rfl, rfl, p5, hal, han, haa⟩
  simp only [putBack_0]
  bv_omega
  have hw : OkWs ws := ⟨by intro z; rw [z] at hwl; simp at hwl, by omega, hwn, hwa⟩
  have hu : OkWs us := ⟨by intro z; rw [z] at hul; simp at hul, by omega, hun, hua⟩
  have ha0 : as ≠ [] := by intro z; rw [z] at hal; simp at hal
  have T := fun (z : D) (many : Nat) (hz : z = .int (many : Nat)) (t : Sl) (h0 : 0 < many) (hm : many ≤ 24) (p : Pen (1000 * i + 80) t) => tailC_ok (s0 := s0) (o2 := some (.d (.int (i : Nat)))) (o7 := o7) (o8 := o8) (o9 := o9) (t := t) (s3 := .ol ((ws.map D.str).map .d)) (s4 := .ol ((us.map D.str).map .d)) (s5 := .ol ((as.map D.str).map .d)) (N := LawInv (i + 1)) (R := R) p (by omega) hz h0 hm hw hu ha0 han (by omega) haa (by rw [frz_ol, frzL_d]) (by rw [frz_ol, frzL_d]) (by rw [frz_ol, frzL_d]) fun t2 o3 o4 o5 o7 o8 o9 p2 => ⟨t2, s0, _, o3, o4, o5, _, o7, o8, o9, rfl, p2.le (by omega)⟩
  by_cases h3 : (i : Int) = 3
  · simp only [h3, if_true]
    generalize hz : D.int (24 : Int) = z
    have T1 := T z 24 hz.symm t5 (by omega) (by omega) (p5.le (by omega))
    rw [h3] at T1
    exact ⟨_, _, _, rfl, rfl, T1⟩
  · simp only [h3, if_false]
    bv_omega
    refine (draw p5 (by omega) (m := 9) (by omega) (by omega)).imp ?_
    rintro s ρf ⟨t6, q, rfl, rfl, p6, q0, q1⟩
    obtain ⟨q, rfl⟩ := Int.eq_ofNat_of_zero_le q0
    simp only [putBack_0, frz_d, add_ii, Option.some.injEq, exists_eq_left']
    generalize hz : D.int ((1 : Int) + (q : Int)) = z
    have T1 := T z (q + 1) (by rw [← hz]; congr 1; omega) t6 (by omega) (by omega) (p6.le (by omega))
    exact ⟨_, _, _, rfl, rfl, T1⟩
theorem law_ok {ns : List Int} (h : ns.length ≤ 63) : Ok m_law [some (.d (.sq (ns.map .int)))] fun s _ => s = .d (.bl true) := by
  refine ok_runF rfl ?_
  unfold b_law_
  obtain ⟨t0, e0, p0⟩ := pen_ok h
  bv_omega
  rw [ok_eq e0]
  bv_omega
  refine ⟨_, rfl, ?_⟩
  refine okS_range (n := 4) LawInv ?_ ⟨t0, _, none, none, none, none, none, none, none, none, rfl, p0.le (by omega)⟩ ?_
  · rintro i ρ hi ⟨t, s0, o2, o3, o4, o5, o6, o7, o8, o9, rfl, p⟩
    refine ⟨_, tgName_set (by simp), ?_⟩
    rw [Int.zero_add]
    have B := fun R => lawBody2_ok (R := R) (s0 := s0) (o3 := o3) (o4 := o4) (o5 := o5) (o6 := o6) (o7 := o7) (o8 := o8) (o9 := o9) hi p
    unfold lawBody2 tailC at B
    exact B _
  · rintro ρ ⟨t, s0, o2, o3, o4, o5, o6, o7, o8, o9, rfl, p⟩
    bv_omega
theorem law_pure (ns : List Int) (h : ns.length ≤ 63) : ∃ ρ', m_law [some (.d (.sq (ns.map .int)))] = .ok (.d (.bl true)) ρ' := by
  obtain ⟨s, ρ, e, rfl⟩ := (law_ok h).get
  exact ⟨ρ, e⟩
end G72

end
section
set_option Elab.async false
set_option linter.all false
set_option autoImplicit false
set_option maxRecDepth 100000
set_option maxHeartbeats 4000000
namespace G72
open PySem PySem.Spec L2 NdefX DL
def top (i : Nat) : Stmt := PySem.Challenge.pw_overparts_k72_adapters_as_texts.main.body.getD i (.Pass ⟨0, 0, 0, 0⟩)
def mth (i j : Nat) : Stmt := (C8.clsBody (top i)).getD j (.Pass ⟨0, 0, 0, 0⟩)
def T0 (K : PySem.W.Frag) : List (Addr × Str) := [(tabAt K (He.ma K (He.ga K (PySem.Str.ofString "Line")) (PySem.Str.ofString "take_head")), ((("Line.take_head" : Str) ++ ".<locals>.") ++ "<lambda>" : Str)), (tabAt K (He.ga K (PySem.Str.ofString "take_letters")), ((("take_letters" : Str) ++ ".<locals>.") ++ "<lambda>" : Str)), (tabAt K (He.ma K (He.ga K (PySem.Str.ofString "Line")) (PySem.Str.ofString "take_number")), ((("Line.take_number" : Str) ++ ".<locals>.") ++ "<lambda>" : Str)), (tabAt K (He.ga K (PySem.Str.ofString "take_says")), ((("take_says" : Str) ++ ".<locals>.") ++ "<lambda>" : Str)), (tabAt K (He.ga K (PySem.Str.ofString "take_groups")), ((("take_groups" : Str) ++ ".<locals>.") ++ "<lambda>" : Str)), (tabAt K (He.ga K (PySem.Str.ofString "take_control")), ((("take_control" : Str) ++ ".<locals>.") ++ "<lambda>" : Str))]
structure Fx (K : PySem.W.Frag) (mg : Str → Option Value) (base : Heap) : Prop where
  t_Line_take_head : LamX.TabB base mg (codeAt K (He.ma K (He.ga K (PySem.Str.ofString "Line")) (PySem.Str.ofString "take_head"))) (tabAt K (He.ma K (He.ga K (PySem.Str.ofString "Line")) (PySem.Str.ofString "take_head")))
  tu_Line_take_head : ∀ p ∈ T0 K, p.1 = tabAt K (He.ma K (He.ga K (PySem.Str.ofString "Line")) (PySem.Str.ofString "take_head")) → p.2 = ((("Line.take_head" : Str) ++ ".<locals>.") ++ "<lambda>" : Str)
  t_take_letters : LamX.TabB base mg (codeAt K (He.ga K (PySem.Str.ofString "take_letters"))) (tabAt K (He.ga K (PySem.Str.ofString "take_letters")))
  tu_take_letters : ∀ p ∈ T0 K, p.1 = tabAt K (He.ga K (PySem.Str.ofString "take_letters")) → p.2 = ((("take_letters" : Str) ++ ".<locals>.") ++ "<lambda>" : Str)
  t_Line_take_number : LamX.TabB base mg (codeAt K (He.ma K (He.ga K (PySem.Str.ofString "Line")) (PySem.Str.ofString "take_number"))) (tabAt K (He.ma K (He.ga K (PySem.Str.ofString "Line")) (PySem.Str.ofString "take_number")))
  tu_Line_take_number : ∀ p ∈ T0 K, p.1 = tabAt K (He.ma K (He.ga K (PySem.Str.ofString "Line")) (PySem.Str.ofString "take_number")) → p.2 = ((("Line.take_number" : Str) ++ ".<locals>.") ++ "<lambda>" : Str)
  t_take_says : LamX.TabB base mg (codeAt K (He.ga K (PySem.Str.ofString "take_says"))) (tabAt K (He.ga K (PySem.Str.ofString "take_says")))
  tu_take_says : ∀ p ∈ T0 K, p.1 = tabAt K (He.ga K (PySem.Str.ofString "take_says")) → p.2 = ((("take_says" : Str) ++ ".<locals>.") ++ "<lambda>" : Str)
  t_take_groups : LamX.TabB base mg (codeAt K (He.ga K (PySem.Str.ofString "take_groups"))) (tabAt K (He.ga K (PySem.Str.ofString "take_groups")))
  tu_take_groups : ∀ p ∈ T0 K, p.1 = tabAt K (He.ga K (PySem.Str.ofString "take_groups")) → p.2 = ((("take_groups" : Str) ++ ".<locals>.") ++ "<lambda>" : Str)
  t_take_control : LamX.TabB base mg (codeAt K (He.ga K (PySem.Str.ofString "take_control"))) (tabAt K (He.ga K (PySem.Str.ofString "take_control")))
  tu_take_control : ∀ p ∈ T0 K, p.1 = tabAt K (He.ga K (PySem.Str.ofString "take_control")) → p.2 = ((("take_control" : Str) ++ ".<locals>.") ++ "<lambda>" : Str)
  g_Adapter : mg "Adapter" = some (.ref (He.ga K "Adapter"))
  g_Line : mg "Line" = some (.ref (He.ga K "Line"))
  g_Lines : mg "Lines" = some (.ref (He.ga K "Lines"))
  g__law_adapter_text : mg "_law_adapter_text" = some (.ref (He.ga K "_law_adapter_text"))
  g__law_controls : mg "_law_controls" = some (.ref (He.ga K "_law_controls"))
  g__law_draw : mg "_law_draw" = some (.ref (He.ga K "_law_draw"))
  g__law_pen : mg "_law_pen" = some (.ref (He.ga K "_law_pen"))
  g__law_pick : mg "_law_pick" = some (.ref (He.ga K "_law_pick"))
  g__law_said : mg "_law_said" = some (.ref (He.ga K "_law_said"))
  g__law_shuffled : mg "_law_shuffled" = some (.ref (He.ga K "_law_shuffled"))
  g__law_words : mg "_law_words" = some (.ref (He.ga K "_law_words"))
  g_as_told : mg "as_told" = some (.ref (He.ga K "as_told"))
  g_check_letters : mg "check_letters" = some (.ref (He.ga K "check_letters"))
  g_check_outer : mg "check_outer" = some (.ref (He.ga K "check_outer"))
  g_control_words : mg "control_words" = some (.ref (He.ga K "control_words"))
  g_is_answer : mg "is_answer" = some (.ref (He.ga K "is_answer"))
  g_is_control : mg "is_control" = some (.ref (He.ga K "is_control"))
  g_is_groups : mg "is_groups" = some (.ref (He.ga K "is_groups"))
  g_is_integer : mg "is_integer" = some (.ref (He.ga K "is_integer"))
  g_is_number_checks : mg "is_number_checks" = some (.ref (He.ga K "is_number_checks"))
  g_is_number_texts : mg "is_number_texts" = some (.ref (He.ga K "is_number_texts"))
  g_is_row : mg "is_row" = some (.ref (He.ga K "is_row"))
  g_is_word : mg "is_word" = some (.ref (He.ga K "is_word"))
  g_on_ring : mg "on_ring" = some (.ref (He.ga K "on_ring"))
  g_read_adapter : mg "read_adapter" = some (.ref (He.ga K "read_adapter"))
  g_take_control : mg "take_control" = some (.ref (He.ga K "take_control"))
  g_take_groups : mg "take_groups" = some (.ref (He.ga K "take_groups"))
  g_take_letters : mg "take_letters" = some (.ref (He.ga K "take_letters"))
  g_take_many : mg "take_many" = some (.ref (He.ga K "take_many"))
  g_take_says : mg "take_says" = some (.ref (He.ga K "take_says"))
  g_targets : mg "targets" = some (.ref (He.ga K "targets"))
  g_write_adapter : mg "write_adapter" = some (.ref (He.ga K "write_adapter"))
  g_wrong_word : mg "wrong_word" = some (.ref (He.ga K "wrong_word"))
  h__law_pen : PySem.W.keepIn K (.ref (He.ga K "_law_pen")) = true
  d__law_pen : FunD K "_law_pen" "_law_pen" (defArgs (top 51)) (defBody (top 51)) (defScope (top 51)) [] [] (He.ga K (PySem.Str.ofString "_law_pen")) (fdOf K (He.ga K (PySem.Str.ofString "_law_pen")))
  h__law_draw : PySem.W.keepIn K (.ref (He.ga K "_law_draw")) = true
  d__law_draw : FunD K "_law_draw" "_law_draw" (defArgs (top 52)) (defBody (top 52)) (defScope (top 52)) [] [] (He.ga K (PySem.Str.ofString "_law_draw")) (fdOf K (He.ga K (PySem.Str.ofString "_law_draw")))
  h__law_pick : PySem.W.keepIn K (.ref (He.ga K "_law_pick")) = true
  d__law_pick : FunD K "_law_pick" "_law_pick" (defArgs (top 53)) (defBody (top 53)) (defScope (top 53)) [] [] (He.ga K (PySem.Str.ofString "_law_pick")) (fdOf K (He.ga K (PySem.Str.ofString "_law_pick")))
  h__law_shuffled : PySem.W.keepIn K (.ref (He.ga K "_law_shuffled")) = true
  d__law_shuffled : FunD K "_law_shuffled" "_law_shuffled" (defArgs (top 54)) (defBody (top 54)) (defScope (top 54)) [] [] (He.ga K (PySem.Str.ofString "_law_shuffled")) (fdOf K (He.ga K (PySem.Str.ofString "_law_shuffled")))
  h__law_words : PySem.W.keepIn K (.ref (He.ga K "_law_words")) = true
  d__law_words : FunD K "_law_words" "_law_words" (defArgs (top 55)) (defBody (top 55)) (defScope (top 55)) [] [] (He.ga K (PySem.Str.ofString "_law_words")) (fdOf K (He.ga K (PySem.Str.ofString "_law_words")))
  h__law_controls : PySem.W.keepIn K (.ref (He.ga K "_law_controls")) = true
  d__law_controls : FunD K "_law_controls" "_law_controls" (defArgs (top 56)) (defBody (top 56)) (defScope (top 56)) [] [] (He.ga K (PySem.Str.ofString "_law_controls")) (fdOf K (He.ga K (PySem.Str.ofString "_law_controls")))
  h__law_said : PySem.W.keepIn K (.ref (He.ga K "_law_said")) = true
  d__law_said : FunD K "_law_said" "_law_said" (defArgs (top 57)) (defBody (top 57)) (defScope (top 57)) [] [] (He.ga K (PySem.Str.ofString "_law_said")) (fdOf K (He.ga K (PySem.Str.ofString "_law_said")))
  h_is_word : PySem.W.keepIn K (.ref (He.ga K "is_word")) = true
  d_is_word : FunD K "is_word" "is_word" (defArgs (top 9)) (defBody (top 9)) (defScope (top 9)) [] [] (He.ga K (PySem.Str.ofString "is_word")) (fdOf K (He.ga K (PySem.Str.ofString "is_word")))
  h_wrong_word : PySem.W.keepIn K (.ref (He.ga K "wrong_word")) = true
  d_wrong_word : FunD K "wrong_word" "wrong_word" (defArgs (top 12)) (defBody (top 12)) (defScope (top 12)) [] [] (He.ga K (PySem.Str.ofString "wrong_word")) (fdOf K (He.ga K (PySem.Str.ofString "wrong_word")))
  h_check_letters : PySem.W.keepIn K (.ref (He.ga K "check_letters")) = true
  d_check_letters : FunD K "check_letters" "check_letters" (defArgs (top 23)) (defBody (top 23)) (defScope (top 23)) [] [] (He.ga K (PySem.Str.ofString "check_letters")) (fdOf K (He.ga K (PySem.Str.ofString "check_letters")))
  h_check_outer : PySem.W.keepIn K (.ref (He.ga K "check_outer")) = true
  d_check_outer : FunD K "check_outer" "check_outer" (defArgs (top 27)) (defBody (top 27)) (defScope (top 27)) [] [] (He.ga K (PySem.Str.ofString "check_outer")) (fdOf K (He.ga K (PySem.Str.ofString "check_outer")))
  h_targets : PySem.W.keepIn K (.ref (He.ga K "targets")) = true
  d_targets : FunD K "targets" "targets" (defArgs (top 31)) (defBody (top 31)) (defScope (top 31)) [] [] (He.ga K (PySem.Str.ofString "targets")) (fdOf K (He.ga K (PySem.Str.ofString "targets")))
  h_on_ring : PySem.W.keepIn K (.ref (He.ga K "on_ring")) = true
  d_on_ring : FunD K "on_ring" "on_ring" (defArgs (top 32)) (defBody (top 32)) (defScope (top 32)) [] [] (He.ga K (PySem.Str.ofString "on_ring")) (fdOf K (He.ga K (PySem.Str.ofString "on_ring")))
  h_is_row : PySem.W.keepIn K (.ref (He.ga K "is_row")) = true
  d_is_row : FunD K "is_row" "is_row" (defArgs (top 11)) (defBody (top 11)) (defScope (top 11)) [] [] (He.ga K (PySem.Str.ofString "is_row")) (fdOf K (He.ga K (PySem.Str.ofString "is_row")))
  h_is_answer : PySem.W.keepIn K (.ref (He.ga K "is_answer")) = true
  d_is_answer : FunD K "is_answer" "is_answer" (defArgs (top 10)) (defBody (top 10)) (defScope (top 10)) [] [] (He.ga K (PySem.Str.ofString "is_answer")) (fdOf K (He.ga K (PySem.Str.ofString "is_answer")))
  h_is_integer : PySem.W.keepIn K (.ref (He.ga K "is_integer")) = true
  d_is_integer : FunD K "is_integer" "is_integer" (defArgs (top 6)) (defBody (top 6)) (defScope (top 6)) [] [] (He.ga K (PySem.Str.ofString "is_integer")) (fdOf K (He.ga K (PySem.Str.ofString "is_integer")))
  h_is_number_checks : PySem.W.keepIn K (.ref (He.ga K "is_number_checks")) = true
  d_is_number_checks : FunD K "is_number" "is_number" (defArgs (top 7)) (defBody (top 7)) (defScope (top 7)) [] [] (He.ga K (PySem.Str.ofString "is_number_checks")) (fdOf K (He.ga K (PySem.Str.ofString "is_number_checks")))
  h_is_groups : PySem.W.keepIn K (.ref (He.ga K "is_groups")) = true
  d_is_groups : FunD K "is_groups" "is_groups" (defArgs (top 28)) (defBody (top 28)) (defScope (top 28)) [] [] (He.ga K (PySem.Str.ofString "is_groups")) (fdOf K (He.ga K (PySem.Str.ofString "is_groups")))
  h_is_control : PySem.W.keepIn K (.ref (He.ga K "is_control")) = true
  d_is_control : FunD K "is_control" "is_control" (defArgs (top 29)) (defBody (top 29)) (defScope (top 29)) [] [] (He.ga K (PySem.Str.ofString "is_control")) (fdOf K (He.ga K (PySem.Str.ofString "is_control")))
  h_as_told : PySem.W.keepIn K (.ref (He.ga K "as_told")) = true
  d_as_told : FunD K "as_told" "as_told" (defArgs (top 30)) (defBody (top 30)) (defScope (top 30)) [] [] (He.ga K (PySem.Str.ofString "as_told")) (fdOf K (He.ga K (PySem.Str.ofString "as_told")))
  d_Adapter_init : FunD K "__init__" "Adapter.__init__" (defArgs (mth 33 0)) (defBody (mth 33 0)) (defScope (mth 33 0)) [] [] (He.ma K (He.ga K (PySem.Str.ofString "Adapter")) (PySem.Str.ofString "__init__")) (fdOf K (He.ma K (He.ga K (PySem.Str.ofString "Adapter")) (PySem.Str.ofString "__init__")))
  mk_Adapter : Mk K (He.ga K "Adapter") (He.ma K (He.ga K (PySem.Str.ofString "Adapter")) (PySem.Str.ofString "__init__"))
  h__law_adapter_text : PySem.W.keepIn K (.ref (He.ga K "_law_adapter_text")) = true
  d__law_adapter_text : FunD K "_law_adapter_text" "_law_adapter_text" (defArgs (top 58)) (defBody (top 58)) (defScope (top 58)) [] [] (He.ga K (PySem.Str.ofString "_law_adapter_text")) (fdOf K (He.ga K (PySem.Str.ofString "_law_adapter_text")))
  h_control_words : PySem.W.keepIn K (.ref (He.ga K "control_words")) = true
  d_control_words : FunD K "control_words" "control_words" (defArgs (top 48)) (defBody (top 48)) (defScope (top 48)) [] [] (He.ga K (PySem.Str.ofString "control_words")) (fdOf K (He.ga K (PySem.Str.ofString "control_words")))
  h_write_adapter : PySem.W.keepIn K (.ref (He.ga K "write_adapter")) = true
  d_write_adapter : FunD K "write_adapter" "write_adapter" (defArgs (top 49)) (defBody (top 49)) (defScope (top 49)) [] [] (He.ga K (PySem.Str.ofString "write_adapter")) (fdOf K (He.ga K (PySem.Str.ofString "write_adapter")))
  d_Lines_init : FunD K "__init__" "Lines.__init__" (defArgs (mth 39 0)) (defBody (mth 39 0)) (defScope (mth 39 0)) [] [] (He.ma K (He.ga K (PySem.Str.ofString "Lines")) (PySem.Str.ofString "__init__")) (fdOf K (He.ma K (He.ga K (PySem.Str.ofString "Lines")) (PySem.Str.ofString "__init__")))
  mk_Lines : Mk K (He.ga K "Lines") (He.ma K (He.ga K (PySem.Str.ofString "Lines")) (PySem.Str.ofString "__init__"))
  d_Line_is_done : FunD K "is_done" "Line.is_done" (defArgs (mth 38 1)) (defBody (mth 38 1)) (defScope (mth 38 1)) [] [] (getterOf K (PySem.Str.ofString "Line") (PySem.Str.ofString "is_done")) (fdOf K (getterOf K (PySem.Str.ofString "Line") (PySem.Str.ofString "is_done")))
  p_Line_is_done : PropOf K (He.ga K "Line") "is_done" (propOf K "Line" "is_done") (getterOf K (PySem.Str.ofString "Line") (PySem.Str.ofString "is_done"))
  d_Line_take : FunD K "take" "Line.take" (defArgs (mth 38 2)) (defBody (mth 38 2)) (defScope (mth 38 2)) [] [] (He.ma K (He.ga K (PySem.Str.ofString "Line")) (PySem.Str.ofString "take")) (fdOf K (He.ma K (He.ga K (PySem.Str.ofString "Line")) (PySem.Str.ofString "take")))
  m_Line_take : Meth K (He.ga K "Line") "take" (He.ma K (He.ga K (PySem.Str.ofString "Line")) (PySem.Str.ofString "take"))
  d_Line_take_head : FunD K "take_head" "Line.take_head" (defArgs (mth 38 3)) (defBody (mth 38 3)) (defScope (mth 38 3)) [] [] (He.ma K (He.ga K (PySem.Str.ofString "Line")) (PySem.Str.ofString "take_head")) (fdOf K (He.ma K (He.ga K (PySem.Str.ofString "Line")) (PySem.Str.ofString "take_head")))
  m_Line_take_head : Meth K (He.ga K "Line") "take_head" (He.ma K (He.ga K (PySem.Str.ofString "Line")) (PySem.Str.ofString "take_head"))
  h_take_letters : PySem.W.keepIn K (.ref (He.ga K "take_letters")) = true
  d_take_letters : FunD K "take_letters" "take_letters" (defArgs (top 42)) (defBody (top 42)) (defScope (top 42)) [] [] (He.ga K (PySem.Str.ofString "take_letters")) (fdOf K (He.ga K (PySem.Str.ofString "take_letters")))
  h_is_number_texts : PySem.W.keepIn K (.ref (He.ga K "is_number_texts")) = true
  d_is_number_texts : FunD K "is_number" "is_number" (defArgs (top 40)) (defBody (top 40)) (defScope (top 40)) [] [] (He.ga K (PySem.Str.ofString "is_number_texts")) (fdOf K (He.ga K (PySem.Str.ofString "is_number_texts")))
  d_Line_take_number : FunD K "take_number" "Line.take_number" (defArgs (mth 38 4)) (defBody (mth 38 4)) (defScope (mth 38 4)) [] [] (He.ma K (He.ga K (PySem.Str.ofString "Line")) (PySem.Str.ofString "take_number")) (fdOf K (He.ma K (He.ga K (PySem.Str.ofString "Line")) (PySem.Str.ofString "take_number")))
  m_Line_take_number : Meth K (He.ga K "Line") "take_number" (He.ma K (He.ga K (PySem.Str.ofString "Line")) (PySem.Str.ofString "take_number"))
  d_Line_close : FunD K "close" "Line.close" (defArgs (mth 38 5)) (defBody (mth 38 5)) (defScope (mth 38 5)) [] [] (He.ma K (He.ga K (PySem.Str.ofString "Line")) (PySem.Str.ofString "close")) (fdOf K (He.ma K (He.ga K (PySem.Str.ofString "Line")) (PySem.Str.ofString "close")))
  m_Line_close : Meth K (He.ga K "Line") "close" (He.ma K (He.ga K (PySem.Str.ofString "Line")) (PySem.Str.ofString "close"))
  h_take_many : PySem.W.keepIn K (.ref (He.ga K "take_many")) = true
  d_take_many : FunD K "take_many" "take_many" (defArgs (top 43)) (defBody (top 43)) (defScope (top 43)) [] [] (He.ga K (PySem.Str.ofString "take_many")) (fdOf K (He.ga K (PySem.Str.ofString "take_many")))
  d_Lines_is_left : FunD K "is_left" "Lines.is_left" (defArgs (mth 39 2)) (defBody (mth 39 2)) (defScope (mth 39 2)) [] [] (He.ma K (He.ga K (PySem.Str.ofString "Lines")) (PySem.Str.ofString "is_left")) (fdOf K (He.ma K (He.ga K (PySem.Str.ofString "Lines")) (PySem.Str.ofString "is_left")))
  m_Lines_is_left : Meth K (He.ga K "Lines") "is_left" (He.ma K (He.ga K (PySem.Str.ofString "Lines")) (PySem.Str.ofString "is_left"))
  d_Line_init : FunD K "__init__" "Line.__init__" (defArgs (mth 38 0)) (defBody (mth 38 0)) (defScope (mth 38 0)) [] [] (He.ma K (He.ga K (PySem.Str.ofString "Line")) (PySem.Str.ofString "__init__")) (fdOf K (He.ma K (He.ga K (PySem.Str.ofString "Line")) (PySem.Str.ofString "__init__")))
  mk_Line : Mk K (He.ga K "Line") (He.ma K (He.ga K (PySem.Str.ofString "Line")) (PySem.Str.ofString "__init__"))
  d_Lines_next_line : FunD K "next_line" "Lines.next_line" (defArgs (mth 39 1)) (defBody (mth 39 1)) (defScope (mth 39 1)) [] [] (He.ma K (He.ga K (PySem.Str.ofString "Lines")) (PySem.Str.ofString "next_line")) (fdOf K (He.ma K (He.ga K (PySem.Str.ofString "Lines")) (PySem.Str.ofString "next_line")))
  m_Lines_next_line : Meth K (He.ga K "Lines") "next_line" (He.ma K (He.ga K (PySem.Str.ofString "Lines")) (PySem.Str.ofString "next_line"))
  h_take_says : PySem.W.keepIn K (.ref (He.ga K "take_says")) = true
  d_take_says : FunD K "take_says" "take_says" (defArgs (top 44)) (defBody (top 44)) (defScope (top 44)) [] [] (He.ga K (PySem.Str.ofString "take_says")) (fdOf K (He.ga K (PySem.Str.ofString "take_says")))
  h_take_groups : PySem.W.keepIn K (.ref (He.ga K "take_groups")) = true
  d_take_groups : FunD K "take_groups" "take_groups" (defArgs (top 45)) (defBody (top 45)) (defScope (top 45)) [] [] (He.ga K (PySem.Str.ofString "take_groups")) (fdOf K (He.ga K (PySem.Str.ofString "take_groups")))
  h_take_control : PySem.W.keepIn K (.ref (He.ga K "take_control")) = true
  d_take_control : FunD K "take_control" "take_control" (defArgs (top 46)) (defBody (top 46)) (defScope (top 46)) [] [] (He.ga K (PySem.Str.ofString "take_control")) (fdOf K (He.ga K (PySem.Str.ofString "take_control")))
  h_read_adapter : PySem.W.keepIn K (.ref (He.ga K "read_adapter")) = true
  d_read_adapter : FunD K "read_adapter" "read_adapter" (defArgs (top 47)) (defBody (top 47)) (defScope (top 47)) [] [] (He.ga K (PySem.Str.ofString "read_adapter")) (fdOf K (He.ga K (PySem.Str.ofString "read_adapter")))
  d_Adapter_eq : FunD K "__eq__" "Adapter.__eq__" (defArgs (mth 33 1)) (defBody (mth 33 1)) (defScope (mth 33 1)) [] [] (He.ma K (He.ga K (PySem.Str.ofString "Adapter")) (PySem.Str.ofString "__eq__")) (fdOf K (He.ma K (He.ga K (PySem.Str.ofString "Adapter")) (PySem.Str.ofString "__eq__")))
  ne_Adapter : NeOf K (He.ga K "Adapter") (He.ma K (He.ga K (PySem.Str.ofString "Adapter")) (PySem.Str.ofString "__eq__"))
  i_Adapter : ∀ c ∈ [(PySem.Str.ofString "Adapter")], C8.InsC K (He.ga K c)
  h_law : PySem.W.keepIn K (.ref (He.ga K "law")) = true
  d_law : FunD K "law" "law" (defArgs (top 59)) (defBody (top 59)) (defScope (top 59)) [] [] (He.ga K (PySem.Str.ofString "law")) (fdOf K (He.ga K (PySem.Str.ofString "law")))
  k_Adapter : Cls K (He.ga K "Adapter")
  k_Line : Cls K (He.ga K "Line")
  k_Lines : Cls K (He.ga K "Lines")
  c_DIGITS : ConstG K mg "DIGITS" (.str (PySem.Str.ofString "0123456789"))
  c_MOST_CONTROLS_adapters : ConstG K mg "MOST_CONTROLS_adapters" (.int 24)
  c_MOST_CONTROLS_texts : ConstG K mg "MOST_CONTROLS_texts" (.int 24)
  c_MOST_LETTERS_checks : ConstG K mg "MOST_LETTERS_checks" (.int 8)
  c_MOST_LETTERS_shapes : ConstG K mg "MOST_LETTERS_shapes" (.int 3)
  c_MOST_LETTERS_texts : ConstG K mg "MOST_LETTERS_texts" (.int 3)
  c_MOST_OUTER : ConstG K mg "MOST_OUTER" (.int 3)
  c_MOST_SIGNS : ConstG K mg "MOST_SIGNS" (.int 12)
  c_SIGNS : ConstG K mg "SIGNS" (.str (PySem.Str.ofString "abcdefghijklmnopqrstuvwxyz0123456789"))
  c_SMALL : ConstG K mg "SMALL" (.str (PySem.Str.ofString "abcdefghijklmnopqrstuvwxyz"))
  l_at : FldOk K [(PySem.Str.ofString "Line")] "at"
  l_controls : FldOk K [(PySem.Str.ofString "Adapter")] "controls"
  l_done : FldOk K [(PySem.Str.ofString "Lines")] "done"
  l_letters : FldOk K [(PySem.Str.ofString "Adapter")] "letters"
  l_number : FldOk K [(PySem.Str.ofString "Line")] "number"
  l_outer : FldOk K [(PySem.Str.ofString "Adapter")] "outer"
  l_rows : FldOk K [(PySem.Str.ofString "Lines")] "rows"
  l_words : FldOk K [(PySem.Str.ofString "Line")] "words"
  f_abs : mg "abs" = none
  f_all : mg "all" = none
  f_bool : mg "bool" = none
  f_enumerate : mg "enumerate" = none
  f_int : mg "int" = none
  f_isinstance : mg "isinstance" = none
  f_len : mg "len" = none
  f_list : mg "list" = none
  f_range : mg "range" = none
  f_set : mg "set" = none
  f_str : mg "str" = none
  f_tuple : mg "tuple" = none
section
variable {T : List NTab} {P : Program} {w : World} {K : PySem.W.Frag} {mg : Str → Option Value} {base : Heap}
abbrev s__law_pen : Stmt := (top 51)
theorem sc__law_pen : FnScope ["_law_script"] ["_law_script"] (defScope s__law_pen) := ⟨rfl, rfl, rfl, by decide +kernel, rfl, by decide +kernel, by decide +kernel⟩
theorem b__law_pen {fd : FuncData} {f : Addr} (F : FunD K "_law_pen" "_law_pen" (defArgs (top 51)) (defBody (top 51)) (defScope (top 51)) [] [] f fd) : L2.Binds K fd ["_law_script"] [] := F.bindsN fun _ _ _ _ _ _ us hl => match us, hl with | [_], _ => rfl
theorem w__law_pen (Φ : Fx K mg base) {cdv : Value} {A : Around} {outer : List PySem.Env} {s : Shared} {H : Hp} {E : XK} {f : Addr} (hr : Room 0 (A.deeper (PyProof.Rows.envOfC "_law_pen" (defScope (top 51)) s.heap.objs.size f cdv))) :
    ESs T [] W0 (cxOf CX0 P w K mg base ["_law_script"] "_law_pen" (defScope (top 51)) f cdv A outer s H E).nox (defBody (top 51)) b__law_pen_ :=
  (ess_one (es_ret (eo_disp (ks := [.inr (PySem.Str.ofString "cells"), .inr (PySem.Str.ofString "at"), .inr (PySem.Str.ofString "rest")]) (gs := [(mFz (mOpNO listO (mCons (mSl slD (mVar 0) mNoPart (mPart (mC (.int 63)))) mNil))), (mC (.int 0)), (mC (.int 0))]) (pps_cons pe_str (ed_o (eo_callTy c_list Φ.f_list (by decide +kernel) (ead_cons (ed_slice (ed_var 0) pom_none (pom_some ed_int)) ead_nil))) (pps_cons pe_str ed_int (pps_cons pe_str ed_int pps_nil))) rfl rfl rfl (fun h => nomatch h) (by decide))))
theorem ok__law_pen (Φ : Fx K mg base) : FnOk P w K mg base CX0 1 (He.ga K (PySem.Str.ofString "_law_pen")) (fdOf K (He.ga K (PySem.Str.ofString "_law_pen"))) ["_law_script"] (spD T K 1 m__law_pen) :=
  fn_ok Φ.d__law_pen sc__law_pen fun cdv A outer s H E hr => w__law_pen Φ hr

abbrev s__law_draw : Stmt := (top 52)
theorem sc__law_draw : FnScope ["_law_pen_here", "_law_many", "_law_digit", "_law_at", "_law_cell", "_law_blend"] ["_law_pen_here", "_law_many"] (defScope s__law_draw) := ⟨rfl, rfl, rfl, by decide +kernel, rfl, by decide +kernel, by decide +kernel⟩
theorem b__law_draw {fd : FuncData} {f : Addr} (F : FunD K "_law_draw" "_law_draw" (defArgs (top 52)) (defBody (top 52)) (defScope (top 52)) [] [] f fd) : L2.Binds K fd ["_law_pen_here", "_law_many"] [] := F.bindsN fun _ _ _ _ _ _ us hl => match us, hl with | [_, _], _ => rfl
theorem w__law_draw (Φ : Fx K mg base) {cdv : Value} {A : Around} {outer : List PySem.Env} {s : Shared} {H : Hp} {E : XK} {f : Addr} (hr : Room 0 (A.deeper (PyProof.Rows.envOfC "_law_draw" (defScope (top 52)) s.heap.objs.size f cdv))) :
    ESs T [0] W0 (cxOf CX0 P w K mg base ["_law_pen_here", "_law_many", "_law_digit", "_law_at", "_law_cell", "_law_blend"] "_law_draw" (defScope (top 52)) f cdv A outer s H E).nox (defBody (top 52)) b__law_draw_ :=
  (ess_cons (es_if (et_cmp o_gt (ed_dgetV 0 (units1 hr) (nok 0) ed_str (fun _ _ => rfl)) ed_int) (ess_cons (es_set sc__law_draw.nd (eo_d (ed_op o_mod (ed_callTy c_int Φ.f_int (by decide +kernel) (ead_cons (ed_dgetV 0 (units1 hr) (nok 0) ed_str (fun _ _ => rfl)) ead_nil)) (ed_var 1)))) (ess_cons (es_dput 0 (.inr (PySem.Str.ofString "rest")) (units1 hr) (nok 0) pe_str (eo_d (ed_op o_fdiv (ed_dgetV 0 (units1 hr) (nok 0) ed_str (fun _ _ => rfl)) (ed_var 1)))) (ess_one (es_ret (eo_d (ed_var 2)))))) ess_nil) (ess_cons (es_set sc__law_draw.nd (eo_d (ed_dgetV 0 (units1 hr) (nok 0) ed_str (fun _ _ => rfl)))) (ess_cons (es_dput 0 (.inr (PySem.Str.ofString "at")) (units1 hr) (nok 0) pe_str (eo_d (ed_op o_add (ed_var 3) ed_int))) (ess_cons (es_set sc__law_draw.nd (eo_d (ed_op o_add (ed_op o_mul ed_int (ed_var 3)) ed_int))) (ess_cons (es_if (et_cmp (o_ne hr.units) (ed_dgetV 0 (units1 hr) (nok 0) ed_str (fun _ _ => rfl)) (ed_o (eo_lst ea_nil))) (ess_one (es_set sc__law_draw.nd (eo_d (ed_ix i_seq (ed_dgetV 0 (units1 hr) (nok 0) ed_str (fun _ _ => rfl)) (ed_op o_mod (ed_callTy c_int Φ.f_int (by decide +kernel) (ead_cons (ed_var 3) ead_nil)) (ed_callB c_len Φ.f_len (by decide +kernel) (ead_cons (ed_dgetV 0 (units1 hr) (nok 0) ed_str (fun _ _ => rfl)) ead_nil))) (fun _ _ => rfl))))) ess_nil) (ess_cons (es_if (et_w (ew_and (et_cmp o_lt (ed_var 3) (ed_callB c_len Φ.f_len (by decide +kernel) (ead_cons (ed_dgetV 0 (units1 hr) (nok 0) ed_str (fun _ _ => rfl)) ead_nil))) (ew_and1 (et_cmp o_ge (ed_callB c_abs Φ.f_abs (by decide +kernel) (ead_cons (ed_var 4) ead_nil)) (ed_op o_pow ed_int ed_int))))) (ess_cons (es_dput 0 (.inr (PySem.Str.ofString "rest")) (units1 hr) (nok 0) pe_str (eo_d (ed_op o_fdiv (ed_op o_sub (ed_callB c_abs Φ.f_abs (by decide +kernel) (ead_cons (ed_var 4) ead_nil)) (ed_op o_pow ed_int ed_int)) (ed_var 1)))) (ess_one (es_ret (eo_d (ed_op o_mod (ed_callTy c_int Φ.f_int (by decide +kernel) (ead_cons (ed_op o_sub (ed_callB c_abs Φ.f_abs (by decide +kernel) (ead_cons (ed_var 4) ead_nil)) (ed_op o_pow ed_int ed_int)) ead_nil)) (ed_var 1)))))) ess_nil) (ess_cons (es_set sc__law_draw.nd (eo_d (ed_op o_add (ed_op o_mul (ed_op o_mod (ed_callTy c_int Φ.f_int (by decide +kernel) (ead_cons (ed_var 4) ead_nil)) ed_int) ed_int) (ed_op o_mul (ed_op o_mul ed_int (ed_var 3)) (ed_var 3))))) (ess_cons (es_set sc__law_draw.nd (eo_d (ed_op o_mod (ed_callTy c_int Φ.f_int (by decide +kernel) (ead_cons (ed_op o_add (ed_op o_add (ed_var 5) (ed_op o_mul ed_int (ed_var 3))) ed_int) ead_nil)) ed_int))) (ess_cons (es_set sc__law_draw.nd (eo_d (ed_op o_mod (ed_callTy c_int Φ.f_int (by decide +kernel) (ead_cons (ed_op o_add (ed_op o_add (ed_op o_add (ed_op o_mul (ed_var 5) (ed_var 5)) (ed_op o_mul ed_int (ed_var 5))) (ed_op o_mul ed_int (ed_var 3))) ed_int) ead_nil)) ed_int))) (ess_one (es_ret (eo_d (ed_op o_mod (ed_callTy c_int Φ.f_int (by decide +kernel) (ead_cons (ed_op o_fdiv (ed_op o_mod (ed_callTy c_int Φ.f_int (by decide +kernel) (ead_cons (ed_op o_mul (ed_var 5) (ed_op o_add (ed_var 5) ed_int)) ead_nil)) ed_int) ed_int) ead_nil)) (ed_var 1))))))))))))))
theorem ok__law_draw (Φ : Fx K mg base) : FnOk P w K mg base CX0 1 (He.ga K (PySem.Str.ofString "_law_draw")) (fdOf K (He.ga K (PySem.Str.ofString "_law_draw"))) ["_law_pen_here", "_law_many"] (spD T K 2 m__law_draw) :=
  fn_ok Φ.d__law_draw sc__law_draw fun cdv A outer s H E hr => w__law_draw Φ hr

abbrev s__law_pick : Stmt := (top 53)
theorem sc__law_pick : FnScope ["_law_pen_here", "_law_items"] ["_law_pen_here", "_law_items"] (defScope s__law_pick) := ⟨rfl, rfl, rfl, by decide +kernel, rfl, by decide +kernel, by decide +kernel⟩
theorem b__law_pick {fd : FuncData} {f : Addr} (F : FunD K "_law_pick" "_law_pick" (defArgs (top 53)) (defBody (top 53)) (defScope (top 53)) [] [] f fd) : L2.Binds K fd ["_law_pen_here", "_law_items"] [] := F.bindsN fun _ _ _ _ _ _ us hl => match us, hl with | [_, _], _ => rfl
theorem w__law_pick (Φ : Fx K mg base) {cdv : Value} {A : Around} {outer : List PySem.Env} {s : Shared} {H : Hp} {E : XK} {f : Addr} (hr : Room 1 (A.deeper (PyProof.Rows.envOfC "_law_pick" (defScope (top 53)) s.heap.objs.size f cdv))) :
    ESs T [0] W0 (cxOf CX0 P w K mg base ["_law_pen_here", "_law_items"] "_law_pick" (defScope (top 53)) f cdv A outer s H E).nox (defBody (top 53)) b__law_pick_ :=
  (ess_one (es_ret (eo_d (ed_ix i_seq (ed_var 1) (ed_o (eo_call (ok__law_draw Φ) (hr.mono (by decide)) Φ.g__law_draw Φ.h__law_draw (b__law_draw Φ.d__law_draw) (eaio_io 0 (eaio_cons (eo_d (ed_callB c_len Φ.f_len (by decide +kernel) (ead_cons (ed_var 1) ead_nil))) eaio_nil)))) (fun _ _ => rfl)))))
theorem ok__law_pick (Φ : Fx K mg base) : FnOk P w K mg base CX0 2 (He.ga K (PySem.Str.ofString "_law_pick")) (fdOf K (He.ga K (PySem.Str.ofString "_law_pick"))) ["_law_pen_here", "_law_items"] (spD T K 2 m__law_pick) :=
  fn_ok Φ.d__law_pick sc__law_pick fun cdv A outer s H E hr => w__law_pick Φ hr

abbrev s__law_shuffled : Stmt := (top 54)
theorem sc__law_shuffled : FnScope ["_law_pen_here", "_law_items", "_law_left", "_law_gained"] ["_law_pen_here", "_law_items"] (defScope s__law_shuffled) := ⟨rfl, rfl, rfl, by decide +kernel, rfl, by decide +kernel, by decide +kernel⟩
theorem b__law_shuffled {fd : FuncData} {f : Addr} (F : FunD K "_law_shuffled" "_law_shuffled" (defArgs (top 54)) (defBody (top 54)) (defScope (top 54)) [] [] f fd) : L2.Binds K fd ["_law_pen_here", "_law_items"] [] := F.bindsN fun _ _ _ _ _ _ us hl => match us, hl with | [_, _], _ => rfl
theorem w__law_shuffled (Φ : Fx K mg base) {cdv : Value} {A : Around} {outer : List PySem.Env} {s : Shared} {H : Hp} {E : XK} {f : Addr} (hr : Room 1 (A.deeper (PyProof.Rows.envOfC "_law_shuffled" (defScope (top 54)) s.heap.objs.size f cdv))) :
    ESs T [0] W0 (cxOf CX0 P w K mg base ["_law_pen_here", "_law_items", "_law_left", "_law_gained"] "_law_shuffled" (defScope (top 54)) f cdv A outer s H E).nox (defBody (top 54)) b__law_shuffled_ :=
  (ess_cons (es_par rfl sc__law_shuffled.nd rfl rfl (by decide) rfl rfl (ea_cons (eo_callTy c_list Φ.f_list (by decide +kernel) (ead_cons (ed_var 1) ead_nil)) (ea_cons (eo_lst ea_nil) ea_nil)) (by decide) (by decide) (by rfl)) (ess_cons (es_while fuel PassesOwn.never (et_peek (et_cmp (o_ne hr.units) (ed_var 2) (ed_o (eo_lst ea_nil)))) (ess_one (es_expr (eo_append 3 (nok 3) (eo_popAt 2 (nok 2) (ed_o (eo_call (ok__law_draw Φ) (hr.mono (by decide)) Φ.g__law_draw Φ.h__law_draw (b__law_draw Φ.d__law_draw) (eaio_io 0 (eaio_cons (eo_d (ed_peek (ed_callB c_len Φ.f_len (by decide +kernel) (ead_cons (ed_var 2) ead_nil)))) eaio_nil))))))))) (ess_one (es_ret (eo_move 3)))))
theorem ok__law_shuffled (Φ : Fx K mg base) : FnOk P w K mg base CX0 2 (He.ga K (PySem.Str.ofString "_law_shuffled")) (fdOf K (He.ga K (PySem.Str.ofString "_law_shuffled"))) ["_law_pen_here", "_law_items"] (spD T K 2 m__law_shuffled) :=
  fn_ok Φ.d__law_shuffled sc__law_shuffled fun cdv A outer s H E hr => w__law_shuffled Φ hr

abbrev s__law_words : Stmt := (top 55)
theorem sc__law_words : FnScope ["_law_pen_here", "_law_many", "_law_size", "_law_small", "_law_stem", "_law_k", "_law_at", "_law_first", "_law_pace", "_law_gained", "_law_letter"] ["_law_pen_here", "_law_many", "_law_size"] (defScope s__law_words) := ⟨rfl, rfl, rfl, by decide +kernel, rfl, by decide +kernel, by decide +kernel⟩
theorem b__law_words {fd : FuncData} {f : Addr} (F : FunD K "_law_words" "_law_words" (defArgs (top 55)) (defBody (top 55)) (defScope (top 55)) [] [] f fd) : L2.Binds K fd ["_law_pen_here", "_law_many", "_law_size"] [] := F.bindsN fun _ _ _ _ _ _ us hl => match us, hl with | [_, _, _], _ => rfl
theorem w__law_words (Φ : Fx K mg base) {cdv : Value} {A : Around} {outer : List PySem.Env} {s : Shared} {H : Hp} {E : XK} {f : Addr} (hr : Room 2 (A.deeper (PyProof.Rows.envOfC "_law_words" (defScope (top 55)) s.heap.objs.size f cdv))) :
    ESs T [0] W0 (cxOf CX0 P w K mg base ["_law_pen_here", "_law_many", "_law_size", "_law_small", "_law_stem", "_law_k", "_law_at", "_law_first", "_law_pace", "_law_gained", "_law_letter"] "_law_words" (defScope (top 55)) f cdv A outer s H E).nox (defBody (top 55)) b__law_words_ :=
  (ess_cons (es_set sc__law_words.nd (eo_d ed_str)) (ess_cons (es_set sc__law_words.nd (eo_d (ed_mt1 PySem.F.slot_str_join PySem.F.type_str_join t_join ed_str (ed_o (eo_lc (own := [((PySem.Str.ofString "_law_k"), 5)]) rfl sc__law_words.nd (ei_range1 Φ.f_range (ead_cons (ed_o (eo_call (ok__law_draw Φ) (hr.mono (by decide)) Φ.g__law_draw Φ.h__law_draw (b__law_draw Φ.d__law_draw) (eaio_io 0 (eaio_cons (eo_d (ed_var 2)) eaio_nil)))) ead_nil)) (blkOk_by (by rfl)) (fun _ _ _ _ _ => (eg_name sc__law_words.nd (hio := nin (by rfl)))) (fun _ _ _ _ _ => ets_nil) (fun _ _ _ _ _ => (eo_call (ok__law_pick Φ) (hr.mono (by decide)) Φ.g__law_pick Φ.h__law_pick (b__law_pick Φ.d__law_pick) (eaio_io 0 (eaio_cons (eo_d (ed_var 3)) eaio_nil))))))))) (ess_cons (es_par rfl sc__law_words.nd rfl rfl (by decide) rfl rfl (ea_cons (eo_call (ok__law_draw Φ) (hr.mono (by decide)) Φ.g__law_draw Φ.h__law_draw (b__law_draw Φ.d__law_draw) (eaio_io 0 (eaio_cons (eo_d (ed_op o_add (ed_callB c_len Φ.f_len (by decide +kernel) (ead_cons (ed_var 4) ead_nil)) ed_int)) eaio_nil))) (ea_cons (eo_call (ok__law_draw Φ) (hr.mono (by decide)) Φ.g__law_draw Φ.h__law_draw (b__law_draw Φ.d__law_draw) (eaio_io 0 (eaio_cons (eo_d ed_int) eaio_nil))) ea_nil)) (by decide) (by decide) (by rfl)) (ess_cons (es_set sc__law_words.nd (eo_call (ok__law_pick Φ) (hr.mono (by decide)) Φ.g__law_pick Φ.h__law_pick (b__law_pick Φ.d__law_pick) (eaio_io 0 (eaio_cons (eo_lst (ea_cons (eo_d ed_int) (ea_cons (eo_d ed_int) (ea_cons (eo_d ed_int) (ea_cons (eo_d ed_int) (ea_cons (eo_d ed_int) (ea_cons (eo_d ed_int) ea_nil))))))) eaio_nil)))) (ess_cons (es_set sc__law_words.nd (eo_lst ea_nil)) (ess_cons (es_for PassesOwn.never rfl (ei_range1 Φ.f_range (ead_cons (ed_var 1) ead_nil)) (eg_name sc__law_words.nd) (ess_cons (es_set sc__law_words.nd (eo_d (ed_ix i_seq (ed_var 3) (ed_op o_mod (ed_callTy c_int Φ.f_int (by decide +kernel) (ead_cons (ed_op o_add (ed_var 7) (ed_op o_mul (ed_var 8) (ed_var 5))) ead_nil)) ed_int) (fun _ _ => rfl)))) (ess_one (es_expr (eo_append 9 (nok 9) (eo_d (ed_op o_add (ed_op o_add (ed_slice (ed_var 4) pom_none (pom_some (ed_var 6))) (ed_var 10)) (ed_slice (ed_var 4) (pom_some (ed_var 6)) pom_none)))))))) (ess_one (es_ret (eo_call (ok__law_shuffled Φ) (hr.mono (by decide)) Φ.g__law_shuffled Φ.h__law_shuffled (b__law_shuffled Φ.d__law_shuffled) (eaio_io 0 (eaio_cons (eo_d (ed_var 9)) eaio_nil)))))))))))
theorem ok__law_words (Φ : Fx K mg base) : FnOk P w K mg base CX0 3 (He.ga K (PySem.Str.ofString "_law_words")) (fdOf K (He.ga K (PySem.Str.ofString "_law_words"))) ["_law_pen_here", "_law_many", "_law_size"] (spD T K 3 m__law_words) :=
  fn_ok Φ.d__law_words sc__law_words fun cdv A outer s H E hr => w__law_words Φ hr

abbrev s__law_controls : Stmt := (top 56)
theorem sc__law_controls : FnScope ["_law_pen_here", "_law_many", "_law_letters", "_law_outer", "_law_answers", "_law_kinds", "_law_k", "_law_gained", "_law_at", "_law_kind", "_law_says", "_law_g", "_law_ends", "_law_groups", "_law_answer"] ["_law_pen_here", "_law_many", "_law_letters", "_law_outer", "_law_answers"] (defScope s__law_controls) := ⟨rfl, rfl, rfl, by decide +kernel, rfl, by decide +kernel, by decide +kernel⟩
theorem b__law_controls {fd : FuncData} {f : Addr} (F : FunD K "_law_controls" "_law_controls" (defArgs (top 56)) (defBody (top 56)) (defScope (top 56)) [] [] f fd) : L2.Binds K fd ["_law_pen_here", "_law_many", "_law_letters", "_law_outer", "_law_answers"] [] := F.bindsN fun _ _ _ _ _ _ us hl => match us, hl with | [_, _, _, _, _], _ => rfl
theorem w__law_controls (Φ : Fx K mg base) {cdv : Value} {A : Around} {outer : List PySem.Env} {s : Shared} {H : Hp} {E : XK} {f : Addr} (hr : Room 2 (A.deeper (PyProof.Rows.envOfC "_law_controls" (defScope (top 56)) s.heap.objs.size f cdv))) :
    ESs T [0] W0 (cxOf CX0 P w K mg base ["_law_pen_here", "_law_many", "_law_letters", "_law_outer", "_law_answers", "_law_kinds", "_law_k", "_law_gained", "_law_at", "_law_kind", "_law_says", "_law_g", "_law_ends", "_law_groups", "_law_answer"] "_law_controls" (defScope (top 56)) f cdv A outer s H E).nox (defBody (top 56)) b__law_controls_ :=
  (ess_cons (es_set sc__law_controls.nd (eo_lc (own := [((PySem.Str.ofString "_law_k"), 6)]) rfl sc__law_controls.nd (ei_range1 Φ.f_range (ead_cons (ed_var 1) ead_nil)) (blkOk_by (by rfl)) (fun _ _ _ _ _ => (eg_name sc__law_controls.nd (hio := nin (by rfl)))) (fun _ _ _ _ _ => ets_nil) (fun _ _ _ _ _ => (eo_call (ok__law_pick Φ) (hr.mono (by decide)) Φ.g__law_pick Φ.h__law_pick (b__law_pick Φ.d__law_pick) (eaio_io 0 (eaio_cons (eo_lst (ea_cons (eo_d ed_str) (ea_cons (eo_d ed_str) (ea_cons (eo_d ed_str) (ea_cons (eo_d ed_str) ea_nil))))) eaio_nil)))))) (ess_cons (es_ixSet 5 (nok 5) ed_str (ed_o (eo_call (ok__law_draw Φ) (hr.mono (by decide)) Φ.g__law_draw Φ.h__law_draw (b__law_draw Φ.d__law_draw) (eaio_io 0 (eaio_cons (eo_d (ed_var 1)) eaio_nil))))) (ess_cons (es_set sc__law_controls.nd (eo_lst ea_nil)) (ess_cons (es_for PassesOwn.never rfl (ei_enumS Φ.f_enumerate (ead_cons (ed_var 5) ead_nil)) (eg_tup rfl (egs_cons (eg_name sc__law_controls.nd) (egs_cons (eg_name sc__law_controls.nd) egs_nil))) (ess_one (es_if (et_cmp (o_eq hr.units) (ed_var 9) ed_str) (ess_cons (es_set sc__law_controls.nd (eo_d (ed_if (et_cmp (o_eq hr.units) (ed_o (eo_call (ok__law_draw Φ) (hr.mono (by decide)) Φ.g__law_draw Φ.h__law_draw (b__law_draw Φ.d__law_draw) (eaio_io 0 (eaio_cons (eo_d ed_int) eaio_nil)))) ed_int) ed_non (ed_o (eo_call (ok__law_pick Φ) (hr.mono (by decide)) Φ.g__law_pick Φ.h__law_pick (b__law_pick Φ.d__law_pick) (eaio_io 0 (eaio_cons (eo_d (ed_var 4)) eaio_nil))))))) (ess_one (es_expr (eo_append 7 (nok 7) (eo_d (ed_tup (ead_cons ed_str (ead_cons (ed_var 10) (ead_cons (ed_callTy c_tuple Φ.f_tuple (by decide +kernel) (ead_cons (ed_o (eo_lc (own := [((PySem.Str.ofString "_law_g"), 11)]) rfl sc__law_controls.nd (ei_seq (ed_var 3)) (blkOk_by (by rfl)) (fun _ _ _ _ _ => (eg_name sc__law_controls.nd (hio := nin (by rfl)))) (fun _ _ _ _ _ => ets_nil) (fun _ _ _ _ _ => (eo_call (ok__law_draw Φ) (hr.mono (by decide)) Φ.g__law_draw Φ.h__law_draw (b__law_draw Φ.d__law_draw) (eaio_io 0 (eaio_cons (eo_d (ed_var 1)) eaio_nil)))))) ead_nil)) ead_nil))))))))) (ess_one (es_if (et_cmp (o_eq hr.units) (ed_var 9) ed_str) (ess_one (es_expr (eo_append 7 (nok 7) (eo_d (ed_tup (ead_cons ed_str (ead_cons (ed_o (eo_call (ok__law_pick Φ) (hr.mono (by decide)) Φ.g__law_pick Φ.h__law_pick (b__law_pick Φ.d__law_pick) (eaio_io 0 (eaio_cons (eo_d (ed_var 2)) eaio_nil)))) (ead_cons (ed_o (eo_call (ok__law_draw Φ) (hr.mono (by decide)) Φ.g__law_draw Φ.h__law_draw (b__law_draw Φ.d__law_draw) (eaio_io 0 (eaio_cons (eo_d (ed_var 1)) eaio_nil)))) ead_nil)))))))) (ess_cons (es_setLc (own := [((PySem.Str.ofString "_law_k"), 6)]) rfl sc__law_controls.nd rfl rfl (sw_true rfl rfl rfl (by decide +kernel)) (ei_range1 Φ.f_range (ead_cons (ed_var 1) ead_nil)) (blkOk_by (by rfl)) (by decide) (fun _ _ _ _ _ => (eg_name sc__law_controls.nd (hio := nin (by rfl)))) (fun _ _ _ _ _ => (ets_one (et_w (ew_or (et_peek (et_cmp (o_ne hr.units) (ed_ix i_seq (ed_var 5) (ed_var 6) (fun _ _ => rfl)) ed_str)) (ew_or1 (et_cmp o_gt (ed_var 6) (ed_var 8))))))) (fun _ _ _ _ _ => (eo_d (ed_var 6)))) (ess_cons (es_set sc__law_controls.nd (eo_lst ea_nil)) (ess_cons (es_for PassesOwn.never rfl (ei_seq (ed_slice (ed_o (eo_call (ok__law_shuffled Φ) (hr.mono (by decide)) Φ.g__law_shuffled Φ.h__law_shuffled (b__law_shuffled Φ.d__law_shuffled) (eaio_io 0 (eaio_cons (eo_d (ed_var 4)) eaio_nil)))) pom_none (pom_some (ed_o (eo_call (ok__law_draw Φ) (hr.mono (by decide)) Φ.g__law_draw Φ.h__law_draw (b__law_draw Φ.d__law_draw) (eaio_io 0 (eaio_cons (eo_d (ed_op o_add (ed_callB c_len Φ.f_len (by decide +kernel) (ead_cons (ed_var 4) ead_nil)) ed_int)) eaio_nil))))))) (eg_name sc__law_controls.nd) (ess_one (es_expr (eo_append 13 (nok 13) (eo_d (ed_tup (ead_cons (ed_var 14) (ead_cons (ed_o (eo_call (ok__law_pick Φ) (hr.mono (by decide)) Φ.g__law_pick Φ.h__law_pick (b__law_pick Φ.d__law_pick) (eaio_io 0 (eaio_cons (eo_d (ed_var 12)) eaio_nil)))) ead_nil)))))))) (ess_one (es_expr (eo_append 7 (nok 7) (eo_d (ed_tup (ead_cons ed_str (ead_cons (ed_callTy c_tuple Φ.f_tuple (by decide +kernel) (ead_cons (ed_var 13) ead_nil)) (ead_cons (ed_o (eo_call (ok__law_pick Φ) (hr.mono (by decide)) Φ.g__law_pick Φ.h__law_pick (b__law_pick Φ.d__law_pick) (eaio_io 0 (eaio_cons (eo_d (ed_var 12)) eaio_nil)))) ead_nil)))))))))))))))) (ess_one (es_ret (eo_move 7)))))))
theorem ok__law_controls (Φ : Fx K mg base) : FnOk P w K mg base CX0 3 (He.ga K (PySem.Str.ofString "_law_controls")) (fdOf K (He.ga K (PySem.Str.ofString "_law_controls"))) ["_law_pen_here", "_law_many", "_law_letters", "_law_outer", "_law_answers"] (spD T K 5 m__law_controls) :=
  fn_ok Φ.d__law_controls sc__law_controls fun cdv A outer s H E hr => w__law_controls Φ hr

abbrev s__law_said : Stmt := (top 57)
theorem sc__law_said : FnScope ["_law_pen_here", "_law_many", "_law_word"] ["_law_pen_here", "_law_many"] (defScope s__law_said) := ⟨rfl, rfl, rfl, by decide +kernel, rfl, by decide +kernel, by decide +kernel⟩
theorem b__law_said {fd : FuncData} {f : Addr} (F : FunD K "_law_said" "_law_said" (defArgs (top 57)) (defBody (top 57)) (defScope (top 57)) [] [] f fd) : L2.Binds K fd ["_law_pen_here", "_law_many"] [] := F.bindsN fun _ _ _ _ _ _ us hl => match us, hl with | [_, _], _ => rfl
theorem w__law_said (Φ : Fx K mg base) {cdv : Value} {A : Around} {outer : List PySem.Env} {s : Shared} {H : Hp} {E : XK} {f : Addr} (hr : Room 3 (A.deeper (PyProof.Rows.envOfC "_law_said" (defScope (top 57)) s.heap.objs.size f cdv))) :
    ESs T [0] W0 (cxOf CX0 P w K mg base ["_law_pen_here", "_law_many", "_law_word"] "_law_said" (defScope (top 57)) f cdv A outer s H E).nox (defBody (top 57)) b__law_said_ :=
  (ess_one (es_ret (eo_lc (own := [((PySem.Str.ofString "_law_word"), 2)]) rfl sc__law_said.nd (ei_seq (ed_o (eo_call (ok__law_words Φ) (hr.mono (by decide)) Φ.g__law_words Φ.h__law_words (b__law_words Φ.d__law_words) (eaio_io 0 (eaio_cons (eo_d (ed_var 1)) (eaio_cons (eo_d ed_int) eaio_nil)))))) (blkOk_by (by rfl)) (fun _ _ _ _ _ => (eg_name sc__law_said.nd (hio := nin (by rfl)))) (fun _ _ _ _ _ => ets_nil) (fun _ _ _ _ _ => (eo_d (ed_op o_add (ed_var 2) (ed_o (eo_call (ok__law_pick Φ) (hr.mono (by decide)) Φ.g__law_pick Φ.h__law_pick (b__law_pick Φ.d__law_pick) (eaio_io 0 (eaio_cons (eo_d ed_str) eaio_nil))))))))))
theorem ok__law_said (Φ : Fx K mg base) : FnOk P w K mg base CX0 4 (He.ga K (PySem.Str.ofString "_law_said")) (fdOf K (He.ga K (PySem.Str.ofString "_law_said"))) ["_law_pen_here", "_law_many"] (spD T K 2 m__law_said) :=
  fn_ok Φ.d__law_said sc__law_said fun cdv A outer s H E hr => w__law_said Φ hr

abbrev s_is_word : Stmt := (top 9)
theorem sc_is_word : FnScope ["value", "sign"] ["value"] (defScope s_is_word) := ⟨rfl, rfl, rfl, by decide +kernel, rfl, by decide +kernel, by decide +kernel⟩
theorem b_is_word {fd : FuncData} {f : Addr} (F : FunD K "is_word" "is_word" (defArgs (top 9)) (defBody (top 9)) (defScope (top 9)) [] [] f fd) : L2.Binds K fd ["value"] [] := F.bindsN fun _ _ _ _ _ _ us hl => match us, hl with | [_], _ => rfl
theorem w_is_word (Φ : Fx K mg base) {cdv : Value} {A : Around} {outer : List PySem.Env} {s : Shared} {H : Hp} {E : XK} {f : Addr} (hr : Room 0 (A.deeper (PyProof.Rows.envOfC "is_word" (defScope (top 9)) s.heap.objs.size f cdv))) :
    ESs T [] W0 (cxOf CX0 P w K mg base ["value", "sign"] "is_word" (defScope (top 9)) f cdv A outer s H E).nox (defBody (top 9)) b_is_word_ :=
  (ess_cons (es_if (et_w (ew_or (et_not (et_val (ed_callB (c_isi noCls) Φ.f_isinstance (by decide +kernel) (ead_cons (ed_var 0) (ead_cons (ed_ty Φ.f_str) ead_nil))))) (ew_or1 (et_not (et_chain o_le o_le ed_int (ed_callB c_len Φ.f_len (by decide +kernel) (ead_cons (ed_var 0) ead_nil)) Φ.c_MOST_LETTERS_checks.ed))))) (ess_one (es_ret (eo_d ed_bl))) ess_nil) (ess_one (es_ret (eo_d (ed_callB (c_all rfl) Φ.f_all (by decide +kernel) (ead_cons (ed_o (eo_lc (own := [((PySem.Str.ofString "sign"), 1)]) rfl sc_is_word.nd (ei_seq (ed_var 0)) (blkOk_by (by rfl)) (fun _ _ _ _ _ => (eg_name sc_is_word.nd (hio := nin (by rfl)))) (fun _ _ _ _ _ => ets_nil) (fun _ _ _ _ _ => (eo_d (ed_cmp o_in (ed_var 1) Φ.c_SMALL.ed))))) ead_nil))))))
theorem ok_is_word (Φ : Fx K mg base) : FnOk P w K mg base CX0 1 (He.ga K (PySem.Str.ofString "is_word")) (fdOf K (He.ga K (PySem.Str.ofString "is_word"))) ["value"] (spD T K 1 m_is_word) :=
  fn_ok Φ.d_is_word sc_is_word fun cdv A outer s H E hr => w_is_word Φ hr

abbrev s_wrong_word : Stmt := (top 12)
theorem sc_wrong_word : FnScope ["words", "index", "word"] ["words"] (defScope s_wrong_word) := ⟨rfl, rfl, rfl, by decide +kernel, rfl, by decide +kernel, by decide +kernel⟩
theorem b_wrong_word {fd : FuncData} {f : Addr} (F : FunD K "wrong_word" "wrong_word" (defArgs (top 12)) (defBody (top 12)) (defScope (top 12)) [] [] f fd) : L2.Binds K fd ["words"] [] := F.bindsN fun _ _ _ _ _ _ us hl => match us, hl with | [_], _ => rfl
theorem w_wrong_word (Φ : Fx K mg base) {cdv : Value} {A : Around} {outer : List PySem.Env} {s : Shared} {H : Hp} {E : XK} {f : Addr} (hr : Room 1 (A.deeper (PyProof.Rows.envOfC "wrong_word" (defScope (top 12)) s.heap.objs.size f cdv))) :
    ESs T [] W0 (cxOf CX0 P w K mg base ["words", "index", "word"] "wrong_word" (defScope (top 12)) f cdv A outer s H E).nox (defBody (top 12)) b_wrong_word_ :=
  (ess_cons (es_for PassesOwn.never rfl (ei_enumS Φ.f_enumerate (ead_cons (ed_var 0) ead_nil)) (eg_tup rfl (egs_cons (eg_name sc_wrong_word.nd) (egs_cons (eg_name sc_wrong_word.nd) egs_nil))) (ess_one (es_if (et_w (ew_or (et_not (et_val (ed_o (eo_call (ok_is_word Φ) (hr.mono (by decide)) Φ.g_is_word Φ.h_is_word (b_is_word Φ.d_is_word) (eaio_cons (eo_d (ed_var 2)) eaio_nil))))) (ew_or1 (et_cmp o_in (ed_var 2) (ed_slice (ed_var 0) pom_none (pom_some (ed_var 1))))))) (ess_one (es_ret (eo_d (ed_var 1)))) ess_nil))) (ess_one (es_ret (eo_d (ed_if (et_cmp o_gt (ed_callB c_len Φ.f_len (by decide +kernel) (ead_cons (ed_var 0) ead_nil)) ed_int) ed_non ed_int)))))
theorem ok_wrong_word (Φ : Fx K mg base) : FnOk P w K mg base CX0 2 (He.ga K (PySem.Str.ofString "wrong_word")) (fdOf K (He.ga K (PySem.Str.ofString "wrong_word"))) ["words"] (spD T K 1 m_wrong_word) :=
  fn_ok Φ.d_wrong_word sc_wrong_word fun cdv A outer s H E hr => w_wrong_word Φ hr

abbrev s_check_letters : Stmt := (top 23)
theorem sc_check_letters : FnScope ["letters", "index"] ["letters"] (defScope s_check_letters) := ⟨rfl, rfl, rfl, by decide +kernel, rfl, by decide +kernel, by decide +kernel⟩
theorem b_check_letters {fd : FuncData} {f : Addr} (F : FunD K "check_letters" "check_letters" (defArgs (top 23)) (defBody (top 23)) (defScope (top 23)) [] [] f fd) : L2.Binds K fd ["letters"] [] := F.bindsN fun _ _ _ _ _ _ us hl => match us, hl with | [_], _ => rfl
theorem w_check_letters (Φ : Fx K mg base) {cdv : Value} {A : Around} {outer : List PySem.Env} {s : Shared} {H : Hp} {E : XK} {f : Addr} (hr : Room 2 (A.deeper (PyProof.Rows.envOfC "check_letters" (defScope (top 23)) s.heap.objs.size f cdv))) :
    ESs T [] W0 (cxOf CX0 P w K mg base ["letters", "index"] "check_letters" (defScope (top 23)) f cdv A outer s H E).nox (defBody (top 23)) b_check_letters_ :=
  (ess_cons (es_set sc_check_letters.nd (eo_call (ok_wrong_word Φ) (hr.mono (by decide)) Φ.g_wrong_word Φ.h_wrong_word (b_wrong_word Φ.d_wrong_word) (eaio_cons (eo_d (ed_var 0)) eaio_nil))) (ess_cons (es_if (et_cmp o_isNotN (ed_var 1) ed_non) (ess_one es_never) ess_nil) (ess_one (es_if (et_cmp o_gt (ed_callB c_len Φ.f_len (by decide +kernel) (ead_cons (ed_var 0) ead_nil)) Φ.c_MOST_LETTERS_shapes.ed) (ess_one es_never) ess_nil))))
theorem ok_check_letters (Φ : Fx K mg base) : FnOk P w K mg base CX0 3 (He.ga K (PySem.Str.ofString "check_letters")) (fdOf K (He.ga K (PySem.Str.ofString "check_letters"))) ["letters"] (spD T K 1 m_check_letters) :=
  fn_ok Φ.d_check_letters sc_check_letters fun cdv A outer s H E hr => w_check_letters Φ hr

abbrev s_check_outer : Stmt := (top 27)
theorem sc_check_outer : FnScope ["outer", "index"] ["outer"] (defScope s_check_outer) := ⟨rfl, rfl, rfl, by decide +kernel, rfl, by decide +kernel, by decide +kernel⟩
theorem b_check_outer {fd : FuncData} {f : Addr} (F : FunD K "check_outer" "check_outer" (defArgs (top 27)) (defBody (top 27)) (defScope (top 27)) [] [] f fd) : L2.Binds K fd ["outer"] [] := F.bindsN fun _ _ _ _ _ _ us hl => match us, hl with | [_], _ => rfl
theorem w_check_outer (Φ : Fx K mg base) {cdv : Value} {A : Around} {outer : List PySem.Env} {s : Shared} {H : Hp} {E : XK} {f : Addr} (hr : Room 2 (A.deeper (PyProof.Rows.envOfC "check_outer" (defScope (top 27)) s.heap.objs.size f cdv))) :
    ESs T [] W0 (cxOf CX0 P w K mg base ["outer", "index"] "check_outer" (defScope (top 27)) f cdv A outer s H E).nox (defBody (top 27)) b_check_outer_ :=
  (ess_cons (es_set sc_check_outer.nd (eo_call (ok_wrong_word Φ) (hr.mono (by decide)) Φ.g_wrong_word Φ.h_wrong_word (b_wrong_word Φ.d_wrong_word) (eaio_cons (eo_d (ed_var 0)) eaio_nil))) (ess_cons (es_if (et_cmp o_isNotN (ed_var 1) ed_non) (ess_one es_never) ess_nil) (ess_one (es_if (et_cmp o_gt (ed_callB c_len Φ.f_len (by decide +kernel) (ead_cons (ed_var 0) ead_nil)) Φ.c_MOST_OUTER.ed) (ess_one es_never) ess_nil))))
theorem ok_check_outer (Φ : Fx K mg base) : FnOk P w K mg base CX0 3 (He.ga K (PySem.Str.ofString "check_outer")) (fdOf K (He.ga K (PySem.Str.ofString "check_outer"))) ["outer"] (spD T K 1 m_check_outer) :=
  fn_ok Φ.d_check_outer sc_check_outer fun cdv A outer s H E hr => w_check_outer Φ hr

abbrev s_targets : Stmt := (top 31)
theorem sc_targets : FnScope ["control", "kind", "told", "last", "answer", "number"] ["control"] (defScope s_targets) := ⟨rfl, rfl, rfl, by decide +kernel, rfl, by decide +kernel, by decide +kernel⟩
theorem b_targets {fd : FuncData} {f : Addr} (F : FunD K "targets" "targets" (defArgs (top 31)) (defBody (top 31)) (defScope (top 31)) [] [] f fd) : L2.Binds K fd ["control"] [] := F.bindsN fun _ _ _ _ _ _ us hl => match us, hl with | [_], _ => rfl
theorem w_targets (Φ : Fx K mg base) {cdv : Value} {A : Around} {outer : List PySem.Env} {s : Shared} {H : Hp} {E : XK} {f : Addr} (hr : Room 0 (A.deeper (PyProof.Rows.envOfC "targets" (defScope (top 31)) s.heap.objs.size f cdv))) :
    ESs T [] W0 (cxOf CX0 P w K mg base ["control", "kind", "told", "last", "answer", "number"] "targets" (defScope (top 31)) f cdv A outer s H E).nox (defBody (top 31)) b_targets_ :=
  (ess_cons (es_tgt (ed_var 0) (eg_tup rfl (egs_cons (eg_name sc_targets.nd) (egs_cons (eg_name sc_targets.nd) (egs_cons (eg_name sc_targets.nd) egs_nil))))) (ess_cons (es_if (et_cmp (o_eq hr.units) (ed_var 1) ed_str) (ess_one (es_ret (eo_callTy c_list Φ.f_list (by decide +kernel) (ead_cons (ed_var 3) ead_nil)))) ess_nil) (ess_cons (es_if (et_cmp (o_eq hr.units) (ed_var 1) ed_str) (ess_one (es_ret (eo_lst (ea_cons (eo_d (ed_var 3)) ea_nil)))) ess_nil) (ess_one (es_ret (eo_d (ed_op o_add (ed_o (eo_lc (own := [((PySem.Str.ofString "answer"), 4), ((PySem.Str.ofString "number"), 5)]) rfl sc_targets.nd (ei_seq (ed_var 2)) (blkOk_by (by rfl)) (fun _ _ _ _ _ => (eg_tup rfl (egs_cons (eg_name sc_targets.nd (hio := nin (by rfl))) (egs_cons (eg_name sc_targets.nd (hio := nin (by rfl))) egs_nil)))) (fun _ _ _ _ _ => ets_nil) (fun _ _ _ _ _ => (eo_d (ed_var 5))))) (ed_o (eo_lst (ea_cons (eo_d (ed_var 3)) ea_nil))))))))))
theorem ok_targets (Φ : Fx K mg base) : FnOk P w K mg base CX0 1 (He.ga K (PySem.Str.ofString "targets")) (fdOf K (He.ga K (PySem.Str.ofString "targets"))) ["control"] (spD T K 1 m_targets) :=
  fn_ok Φ.d_targets sc_targets fun cdv A outer s H E hr => w_targets Φ hr

abbrev s_on_ring : Stmt := (top 32)
theorem sc_on_ring : FnScope ["controls", "start", "waiting", "found", "control", "fresh", "number"] ["controls", "start"] (defScope s_on_ring) := ⟨rfl, rfl, rfl, by decide +kernel, rfl, by decide +kernel, by decide +kernel⟩
theorem b_on_ring {fd : FuncData} {f : Addr} (F : FunD K "on_ring" "on_ring" (defArgs (top 32)) (defBody (top 32)) (defScope (top 32)) [] [] f fd) : L2.Binds K fd ["controls", "start"] [] := F.bindsN fun _ _ _ _ _ _ us hl => match us, hl with | [_, _], _ => rfl
theorem w_on_ring (Φ : Fx K mg base) {cdv : Value} {A : Around} {outer : List PySem.Env} {s : Shared} {H : Hp} {E : XK} {f : Addr} (hr : Room 1 (A.deeper (PyProof.Rows.envOfC "on_ring" (defScope (top 32)) s.heap.objs.size f cdv))) :
    ESs T [] W0 (cxOf CX0 P w K mg base ["controls", "start", "waiting", "found", "control", "fresh", "number"] "on_ring" (defScope (top 32)) f cdv A outer s H E).nox (defBody (top 32)) b_on_ring_ :=
  (ess_cons (es_parT rfl sc_on_ring.nd rfl rfl (ea_cons (eo_lst (ea_cons (eo_d (ed_var 1)) ea_nil)) (ea_cons (eo_lst ea_nil) ea_nil)) (by decide) (by decide)) (ess_cons (es_while fuel PassesOwn.never (et_peek (et_tru truD_ok (ed_var 2))) (ess_cons (es_set sc_on_ring.nd (eo_d (ed_ix i_seq (ed_var 0) (ed_o (eo_pop 2 (nok 2))) (fun _ _ => rfl)))) (ess_one (es_if (et_cmp (o_eq hr.units) (ed_ix i_seq (ed_var 4) ed_int (fun _ _ => rfl)) ed_str) (ess_cons (es_if (et_cmp o_in (ed_var 1) (ed_o (eo_call (ok_targets Φ) (hr.mono (by decide)) Φ.g_targets Φ.h_targets (b_targets Φ.d_targets) (eaio_cons (eo_d (ed_var 4)) eaio_nil)))) (ess_one (es_ret (eo_d ed_bl))) ess_nil) (ess_cons (es_setLc (own := [((PySem.Str.ofString "number"), 6)]) rfl sc_on_ring.nd rfl rfl (sw_true rfl rfl rfl (by decide +kernel)) (ei_seq (ed_o (eo_call (ok_targets Φ) (hr.mono (by decide)) Φ.g_targets Φ.h_targets (b_targets Φ.d_targets) (eaio_cons (eo_d (ed_var 4)) eaio_nil)))) (blkOk_by (by rfl)) (by decide) (fun _ _ _ _ _ => (eg_name sc_on_ring.nd (hio := nin (by rfl)))) (fun _ _ _ _ _ => (ets_one (et_peek (et_cmp o_notIn (ed_var 6) (ed_var 3))))) (fun _ _ _ _ _ => (eo_d (ed_var 6)))) (ess_cons (es_expr (eo_extend 3 (nok 3) (eo_d (ed_var 5)))) (ess_one (es_expr (eo_extend 2 (nok 2) (eo_d (ed_var 5)))))))) ess_nil)))) (ess_one (es_ret (eo_d ed_bl)))))
theorem ok_on_ring (Φ : Fx K mg base) : FnOk P w K mg base CX0 2 (He.ga K (PySem.Str.ofString "on_ring")) (fdOf K (He.ga K (PySem.Str.ofString "on_ring"))) ["controls", "start"] (spD T K 2 m_on_ring) :=
  fn_ok Φ.d_on_ring sc_on_ring fun cdv A outer s H E hr => w_on_ring Φ hr

abbrev s_is_row : Stmt := (top 11)
theorem sc_is_row : FnScope ["value", "many"] ["value", "many"] (defScope s_is_row) := ⟨rfl, rfl, rfl, by decide +kernel, rfl, by decide +kernel, by decide +kernel⟩
theorem b_is_row {fd : FuncData} {f : Addr} (F : FunD K "is_row" "is_row" (defArgs (top 11)) (defBody (top 11)) (defScope (top 11)) [] [] f fd) : L2.Binds K fd ["value", "many"] [] := F.bindsN fun _ _ _ _ _ _ us hl => match us, hl with | [_, _], _ => rfl
theorem w_is_row (Φ : Fx K mg base) {cdv : Value} {A : Around} {outer : List PySem.Env} {s : Shared} {H : Hp} {E : XK} {f : Addr} (hr : Room 0 (A.deeper (PyProof.Rows.envOfC "is_row" (defScope (top 11)) s.heap.objs.size f cdv))) :
    ESs T [] W0 (cxOf CX0 P w K mg base ["value", "many"] "is_row" (defScope (top 11)) f cdv A outer s H E).nox (defBody (top 11)) b_is_row_ :=
  (ess_one (es_ret (eo_d (ed_andV (ed_isiT (ns := ["tuple", "list"]) Φ.f_isinstance (ed_var 0) (pa_cons (pty Φ.f_tuple) (pa_cons (pty Φ.f_list) pa_nil)) (by decide)) (ed_one (ed_cmp (o_eq hr.units) (ed_callB c_len Φ.f_len (by decide +kernel) (ead_cons (ed_var 0) ead_nil)) (ed_var 1)))))))
theorem ok_is_row (Φ : Fx K mg base) : FnOk P w K mg base CX0 1 (He.ga K (PySem.Str.ofString "is_row")) (fdOf K (He.ga K (PySem.Str.ofString "is_row"))) ["value", "many"] (spD T K 2 m_is_row) :=
  fn_ok Φ.d_is_row sc_is_row fun cdv A outer s H E hr => w_is_row Φ hr

abbrev s_is_answer : Stmt := (top 10)
theorem sc_is_answer : FnScope ["value", "sign"] ["value"] (defScope s_is_answer) := ⟨rfl, rfl, rfl, by decide +kernel, rfl, by decide +kernel, by decide +kernel⟩
theorem b_is_answer {fd : FuncData} {f : Addr} (F : FunD K "is_answer" "is_answer" (defArgs (top 10)) (defBody (top 10)) (defScope (top 10)) [] [] f fd) : L2.Binds K fd ["value"] [] := F.bindsN fun _ _ _ _ _ _ us hl => match us, hl with | [_], _ => rfl
theorem w_is_answer (Φ : Fx K mg base) {cdv : Value} {A : Around} {outer : List PySem.Env} {s : Shared} {H : Hp} {E : XK} {f : Addr} (hr : Room 0 (A.deeper (PyProof.Rows.envOfC "is_answer" (defScope (top 10)) s.heap.objs.size f cdv))) :
    ESs T [] W0 (cxOf CX0 P w K mg base ["value", "sign"] "is_answer" (defScope (top 10)) f cdv A outer s H E).nox (defBody (top 10)) b_is_answer_ :=
  (ess_cons (es_if (et_w (ew_or (et_not (et_val (ed_callB (c_isi noCls) Φ.f_isinstance (by decide +kernel) (ead_cons (ed_var 0) (ead_cons (ed_ty Φ.f_str) ead_nil))))) (ew_or (et_not (et_chain o_le o_le ed_int (ed_callB c_len Φ.f_len (by decide +kernel) (ead_cons (ed_var 0) ead_nil)) Φ.c_MOST_SIGNS.ed)) (ew_or1 (et_cmp o_notIn (ed_ix i_seq (ed_var 0) ed_int (fun _ _ => rfl)) Φ.c_SMALL.ed))))) (ess_one (es_ret (eo_d ed_bl))) ess_nil) (ess_one (es_ret (eo_d (ed_callB (c_all rfl) Φ.f_all (by decide +kernel) (ead_cons (ed_o (eo_lc (own := [((PySem.Str.ofString "sign"), 1)]) rfl sc_is_answer.nd (ei_seq (ed_var 0)) (blkOk_by (by rfl)) (fun _ _ _ _ _ => (eg_name sc_is_answer.nd (hio := nin (by rfl)))) (fun _ _ _ _ _ => ets_nil) (fun _ _ _ _ _ => (eo_d (ed_cmp o_in (ed_var 1) Φ.c_SIGNS.ed))))) ead_nil))))))
theorem ok_is_answer (Φ : Fx K mg base) : FnOk P w K mg base CX0 1 (He.ga K (PySem.Str.ofString "is_answer")) (fdOf K (He.ga K (PySem.Str.ofString "is_answer"))) ["value"] (spD T K 1 m_is_answer) :=
  fn_ok Φ.d_is_answer sc_is_answer fun cdv A outer s H E hr => w_is_answer Φ hr

abbrev s_is_integer : Stmt := (top 6)
theorem sc_is_integer : FnScope ["value"] ["value"] (defScope s_is_integer) := ⟨rfl, rfl, rfl, by decide +kernel, rfl, by decide +kernel, by decide +kernel⟩
theorem b_is_integer {fd : FuncData} {f : Addr} (F : FunD K "is_integer" "is_integer" (defArgs (top 6)) (defBody (top 6)) (defScope (top 6)) [] [] f fd) : L2.Binds K fd ["value"] [] := F.bindsN fun _ _ _ _ _ _ us hl => match us, hl with | [_], _ => rfl
theorem w_is_integer (Φ : Fx K mg base) {cdv : Value} {A : Around} {outer : List PySem.Env} {s : Shared} {H : Hp} {E : XK} {f : Addr} (hr : Room 0 (A.deeper (PyProof.Rows.envOfC "is_integer" (defScope (top 6)) s.heap.objs.size f cdv))) :
    ESs T [] W0 (cxOf CX0 P w K mg base ["value"] "is_integer" (defScope (top 6)) f cdv A outer s H E).nox (defBody (top 6)) b_is_integer_ :=
  (ess_one (es_ret (eo_d (ed_andV (ed_callB (c_isi noCls) Φ.f_isinstance (by decide +kernel) (ead_cons (ed_var 0) (ead_cons (ed_ty Φ.f_int) ead_nil))) (ed_one (ed_notV (ed_callB (c_isi noCls) Φ.f_isinstance (by decide +kernel) (ead_cons (ed_var 0) (ead_cons (ed_ty Φ.f_bool) ead_nil)))))))))
theorem ok_is_integer (Φ : Fx K mg base) : FnOk P w K mg base CX0 1 (He.ga K (PySem.Str.ofString "is_integer")) (fdOf K (He.ga K (PySem.Str.ofString "is_integer"))) ["value"] (spD T K 1 m_is_integer) :=
  fn_ok Φ.d_is_integer sc_is_integer fun cdv A outer s H E hr => w_is_integer Φ hr

abbrev s_is_number_checks : Stmt := (top 7)
theorem sc_is_number_checks : FnScope ["value", "many"] ["value", "many"] (defScope s_is_number_checks) := ⟨rfl, rfl, rfl, by decide +kernel, rfl, by decide +kernel, by decide +kernel⟩
theorem b_is_number_checks {fd : FuncData} {f : Addr} (F : FunD K "is_number" "is_number" (defArgs (top 7)) (defBody (top 7)) (defScope (top 7)) [] [] f fd) : L2.Binds K fd ["value", "many"] [] := F.bindsN fun _ _ _ _ _ _ us hl => match us, hl with | [_, _], _ => rfl
theorem w_is_number_checks (Φ : Fx K mg base) {cdv : Value} {A : Around} {outer : List PySem.Env} {s : Shared} {H : Hp} {E : XK} {f : Addr} (hr : Room 1 (A.deeper (PyProof.Rows.envOfC "is_number" (defScope (top 7)) s.heap.objs.size f cdv))) :
    ESs T [] W0 (cxOf CX0 P w K mg base ["value", "many"] "is_number" (defScope (top 7)) f cdv A outer s H E).nox (defBody (top 7)) b_is_number_checks_ :=
  (ess_one (es_ret (eo_d (ed_andV (ed_o (eo_call (ok_is_integer Φ) (hr.mono (by decide)) Φ.g_is_integer Φ.h_is_integer (b_is_integer Φ.d_is_integer) (eaio_cons (eo_d (ed_var 0)) eaio_nil))) (ed_one (ed_chain o_le o_lt ed_int (ed_var 0) (ed_var 1)))))))
theorem ok_is_number_checks (Φ : Fx K mg base) : FnOk P w K mg base CX0 2 (He.ga K (PySem.Str.ofString "is_number_checks")) (fdOf K (He.ga K (PySem.Str.ofString "is_number_checks"))) ["value", "many"] (spD T K 2 m_is_number_checks) :=
  fn_ok Φ.d_is_number_checks sc_is_number_checks fun cdv A outer s H E hr => w_is_number_checks Φ hr

abbrev s_is_groups : Stmt := (top 28)
theorem sc_is_groups : FnScope ["value", "many", "pair"] ["value", "many"] (defScope s_is_groups) := ⟨rfl, rfl, rfl, by decide +kernel, rfl, by decide +kernel, by decide +kernel⟩
theorem b_is_groups {fd : FuncData} {f : Addr} (F : FunD K "is_groups" "is_groups" (defArgs (top 28)) (defBody (top 28)) (defScope (top 28)) [] [] f fd) : L2.Binds K fd ["value", "many"] [] := F.bindsN fun _ _ _ _ _ _ us hl => match us, hl with | [_, _], _ => rfl
theorem w_is_groups (Φ : Fx K mg base) {cdv : Value} {A : Around} {outer : List PySem.Env} {s : Shared} {H : Hp} {E : XK} {f : Addr} (hr : Room 2 (A.deeper (PyProof.Rows.envOfC "is_groups" (defScope (top 28)) s.heap.objs.size f cdv))) :
    ESs T [] W0 (cxOf CX0 P w K mg base ["value", "many", "pair"] "is_groups" (defScope (top 28)) f cdv A outer s H E).nox (defBody (top 28)) b_is_groups_ :=
  (ess_cons (es_if (et_w (ew_or (et_not (et_val (ed_isiT (ns := ["tuple", "list"]) Φ.f_isinstance (ed_var 0) (pa_cons (pty Φ.f_tuple) (pa_cons (pty Φ.f_list) pa_nil)) (by decide)))) (ew_or1 (et_not (et_val (ed_callB (c_all rfl) Φ.f_all (by decide +kernel) (ead_cons (ed_o (eo_lc (own := [((PySem.Str.ofString "pair"), 2)]) rfl sc_is_groups.nd (ei_seq (ed_var 0)) (blkOk_by (by rfl)) (fun _ _ _ _ _ => (eg_name sc_is_groups.nd (hio := nin (by rfl)))) (fun _ _ _ _ _ => ets_nil) (fun _ _ _ _ _ => (eo_call (ok_is_row Φ) (hr.mono (by decide)) Φ.g_is_row Φ.h_is_row (b_is_row Φ.d_is_row) (eaio_cons (eo_d (ed_var 2)) (eaio_cons (eo_d ed_int) eaio_nil)))))) ead_nil))))))) (ess_one (es_ret (eo_d ed_bl))) ess_nil) (ess_cons (es_if (et_not (et_val (ed_callB (c_all rfl) Φ.f_all (by decide +kernel) (ead_cons (ed_o (eo_lc (own := [((PySem.Str.ofString "pair"), 2)]) rfl sc_is_groups.nd (ei_seq (ed_var 0)) (blkOk_by (by rfl)) (fun _ _ _ _ _ => (eg_name sc_is_groups.nd (hio := nin (by rfl)))) (fun _ _ _ _ _ => ets_nil) (fun _ _ _ _ _ => (eo_d (ed_andV (ed_o (eo_call (ok_is_answer Φ) (hr.mono (by decide)) Φ.g_is_answer Φ.h_is_answer (b_is_answer Φ.d_is_answer) (eaio_cons (eo_d (ed_ix i_seq (ed_var 2) ed_int (fun _ _ => rfl))) eaio_nil))) (ed_one (ed_o (eo_call (ok_is_number_checks Φ) (hr.mono (by decide)) Φ.g_is_number_checks Φ.h_is_number_checks (b_is_number_checks Φ.d_is_number_checks) (eaio_cons (eo_d (ed_ix i_seq (ed_var 2) ed_int (fun _ _ => rfl))) (eaio_cons (eo_d (ed_var 1)) eaio_nil)))))))))) ead_nil)))) (ess_one (es_ret (eo_d ed_bl))) ess_nil) (ess_one (es_ret (eo_d (ed_cmp (o_eq hr.units) (ed_lenSet Φ.f_len Φ.f_set (ed_o (eo_lc (own := [((PySem.Str.ofString "pair"), 2)]) rfl sc_is_groups.nd (ei_seq (ed_var 0)) (blkOk_by (by rfl)) (fun _ _ _ _ _ => (eg_name sc_is_groups.nd (hio := nin (by rfl)))) (fun _ _ _ _ _ => ets_nil) (fun _ _ _ _ _ => (eo_d (ed_ix i_seq (ed_var 2) ed_int (fun _ _ => rfl))))))) (ed_callB c_len Φ.f_len (by decide +kernel) (ead_cons (ed_var 0) ead_nil))))))))
theorem ok_is_groups (Φ : Fx K mg base) : FnOk P w K mg base CX0 3 (He.ga K (PySem.Str.ofString "is_groups")) (fdOf K (He.ga K (PySem.Str.ofString "is_groups"))) ["value", "many"] (spD T K 2 m_is_groups) :=
  fn_ok Φ.d_is_groups sc_is_groups fun cdv A outer s H E hr => w_is_groups Φ hr

abbrev s_is_control : Stmt := (top 29)
theorem sc_is_control : FnScope ["value", "letters", "outer", "many", "kind", "told", "last", "number"] ["value", "letters", "outer", "many"] (defScope s_is_control) := ⟨rfl, rfl, rfl, by decide +kernel, rfl, by decide +kernel, by decide +kernel⟩
theorem b_is_control {fd : FuncData} {f : Addr} (F : FunD K "is_control" "is_control" (defArgs (top 29)) (defBody (top 29)) (defScope (top 29)) [] [] f fd) : L2.Binds K fd ["value", "letters", "outer", "many"] [] := F.bindsN fun _ _ _ _ _ _ us hl => match us, hl with | [_, _, _, _], _ => rfl
theorem w_is_control (Φ : Fx K mg base) {cdv : Value} {A : Around} {outer : List PySem.Env} {s : Shared} {H : Hp} {E : XK} {f : Addr} (hr : Room 3 (A.deeper (PyProof.Rows.envOfC "is_control" (defScope (top 29)) s.heap.objs.size f cdv))) :
    ESs T [] W0 (cxOf CX0 P w K mg base ["value", "letters", "outer", "many", "kind", "told", "last", "number"] "is_control" (defScope (top 29)) f cdv A outer s H E).nox (defBody (top 29)) b_is_control_ :=
  (ess_cons (es_if (et_w (ew_or (et_not (et_val (ed_o (eo_call (ok_is_row Φ) (hr.mono (by decide)) Φ.g_is_row Φ.h_is_row (b_is_row Φ.d_is_row) (eaio_cons (eo_d (ed_var 0)) (eaio_cons (eo_d ed_int) eaio_nil)))))) (ew_or1 (et_not (et_val (ed_callB (c_isi noCls) Φ.f_isinstance (by decide +kernel) (ead_cons (ed_ix i_seq (ed_var 0) ed_int (fun _ _ => rfl)) (ead_cons (ed_ty Φ.f_str) ead_nil)))))))) (ess_one (es_ret (eo_d ed_bl))) ess_nil) (ess_cons (es_tgt (ed_var 0) (eg_tup rfl (egs_cons (eg_name sc_is_control.nd) (egs_cons (eg_name sc_is_control.nd) (egs_cons (eg_name sc_is_control.nd) egs_nil))))) (ess_cons (es_if (et_cmp (o_eq hr.units) (ed_var 4) ed_str) (ess_cons (es_if (et_w (ew_and (et_cmp o_isNotN (ed_var 5) ed_non) (ew_and1 (et_not (et_val (ed_o (eo_call (ok_is_answer Φ) (hr.mono (by decide)) Φ.g_is_answer Φ.h_is_answer (b_is_answer Φ.d_is_answer) (eaio_cons (eo_d (ed_var 5)) eaio_nil)))))))) (ess_one (es_ret (eo_d ed_bl))) ess_nil) (ess_one (es_ret (eo_d (ed_andV (ed_o (eo_call (ok_is_row Φ) (hr.mono (by decide)) Φ.g_is_row Φ.h_is_row (b_is_row Φ.d_is_row) (eaio_cons (eo_d (ed_var 6)) (eaio_cons (eo_d (ed_callB c_len Φ.f_len (by decide +kernel) (ead_cons (ed_var 2) ead_nil))) eaio_nil)))) (ed_one (ed_callB (c_all rfl) Φ.f_all (by decide +kernel) (ead_cons (ed_o (eo_lc (own := [((PySem.Str.ofString "number"), 7)]) rfl sc_is_control.nd (ei_seq (ed_var 6)) (blkOk_by (by rfl)) (fun _ _ _ _ _ => (eg_name sc_is_control.nd (hio := nin (by rfl)))) (fun _ _ _ _ _ => ets_nil) (fun _ _ _ _ _ => (eo_call (ok_is_number_checks Φ) (hr.mono (by decide)) Φ.g_is_number_checks Φ.h_is_number_checks (b_is_number_checks Φ.d_is_number_checks) (eaio_cons (eo_d (ed_var 7)) (eaio_cons (eo_d (ed_var 3)) eaio_nil)))))) ead_nil)))))))) ess_nil) (ess_cons (es_if (et_cmp (o_eq hr.units) (ed_var 4) ed_str) (ess_one (es_ret (eo_d (ed_andV (ed_callB (c_isi noCls) Φ.f_isinstance (by decide +kernel) (ead_cons (ed_var 5) (ead_cons (ed_ty Φ.f_str) ead_nil))) (ed_andV (ed_cmp o_in (ed_var 5) (ed_var 1)) (ed_one (ed_o (eo_call (ok_is_number_checks Φ) (hr.mono (by decide)) Φ.g_is_number_checks Φ.h_is_number_checks (b_is_number_checks Φ.d_is_number_checks) (eaio_cons (eo_d (ed_var 6)) (eaio_cons (eo_d (ed_var 3)) eaio_nil)))))))))) ess_nil) (ess_one (es_ret (eo_d (ed_andV (ed_cmp (o_eq hr.units) (ed_var 4) ed_str) (ed_andV (ed_o (eo_call (ok_is_groups Φ) (hr.mono (by decide)) Φ.g_is_groups Φ.h_is_groups (b_is_groups Φ.d_is_groups) (eaio_cons (eo_d (ed_var 5)) (eaio_cons (eo_d (ed_var 3)) eaio_nil)))) (ed_one (ed_o (eo_call (ok_is_number_checks Φ) (hr.mono (by decide)) Φ.g_is_number_checks Φ.h_is_number_checks (b_is_number_checks Φ.d_is_number_checks) (eaio_cons (eo_d (ed_var 6)) (eaio_cons (eo_d (ed_var 3)) eaio_nil))))))))))))))
theorem ok_is_control (Φ : Fx K mg base) : FnOk P w K mg base CX0 4 (He.ga K (PySem.Str.ofString "is_control")) (fdOf K (He.ga K (PySem.Str.ofString "is_control"))) ["value", "letters", "outer", "many"] (spD T K 4 m_is_control) :=
  fn_ok Φ.d_is_control sc_is_control fun cdv A outer s H E hr => w_is_control Φ hr

abbrev s_as_told : Stmt := (top 30)
theorem sc_as_told : FnScope ["control", "kind", "told", "last", "answer", "number"] ["control"] (defScope s_as_told) := ⟨rfl, rfl, rfl, by decide +kernel, rfl, by decide +kernel, by decide +kernel⟩
theorem b_as_told {fd : FuncData} {f : Addr} (F : FunD K "as_told" "as_told" (defArgs (top 30)) (defBody (top 30)) (defScope (top 30)) [] [] f fd) : L2.Binds K fd ["control"] [] := F.bindsN fun _ _ _ _ _ _ us hl => match us, hl with | [_], _ => rfl
theorem w_as_told (Φ : Fx K mg base) {cdv : Value} {A : Around} {outer : List PySem.Env} {s : Shared} {H : Hp} {E : XK} {f : Addr} (hr : Room 0 (A.deeper (PyProof.Rows.envOfC "as_told" (defScope (top 30)) s.heap.objs.size f cdv))) :
    ESs T [] W0 (cxOf CX0 P w K mg base ["control", "kind", "told", "last", "answer", "number"] "as_told" (defScope (top 30)) f cdv A outer s H E).nox (defBody (top 30)) b_as_told_ :=
  (ess_cons (es_tgt (ed_var 0) (eg_tup rfl (egs_cons (eg_name sc_as_told.nd) (egs_cons (eg_name sc_as_told.nd) (egs_cons (eg_name sc_as_told.nd) egs_nil))))) (ess_cons (es_if (et_cmp (o_eq hr.units) (ed_var 1) ed_str) (ess_one (es_ret (eo_d (ed_tup (ead_cons (ed_var 1) (ead_cons (ed_var 2) (ead_cons (ed_callTy c_tuple Φ.f_tuple (by decide +kernel) (ead_cons (ed_var 3) ead_nil)) ead_nil))))))) ess_nil) (ess_cons (es_if (et_cmp (o_eq hr.units) (ed_var 1) ed_str) (ess_one (es_ret (eo_d (ed_tup (ead_cons (ed_var 1) (ead_cons (ed_var 2) (ead_cons (ed_var 3) ead_nil))))))) ess_nil) (ess_one (es_ret (eo_d (ed_tup (ead_cons (ed_var 1) (ead_cons (ed_callTy c_tuple Φ.f_tuple (by decide +kernel) (ead_cons (ed_o (eo_lc (own := [((PySem.Str.ofString "answer"), 4), ((PySem.Str.ofString "number"), 5)]) rfl sc_as_told.nd (ei_seq (ed_var 2)) (blkOk_by (by rfl)) (fun _ _ _ _ _ => (eg_tup rfl (egs_cons (eg_name sc_as_told.nd (hio := nin (by rfl))) (egs_cons (eg_name sc_as_told.nd (hio := nin (by rfl))) egs_nil)))) (fun _ _ _ _ _ => ets_nil) (fun _ _ _ _ _ => (eo_d (ed_tup (ead_cons (ed_var 4) (ead_cons (ed_var 5) ead_nil))))))) ead_nil)) (ead_cons (ed_var 3) ead_nil))))))))))
theorem ok_as_told (Φ : Fx K mg base) : FnOk P w K mg base CX0 1 (He.ga K (PySem.Str.ofString "as_told")) (fdOf K (He.ga K (PySem.Str.ofString "as_told"))) ["control"] (spD T K 1 m_as_told) :=
  fn_ok Φ.d_as_told sc_as_told fun cdv A outer s H E hr => w_as_told Φ hr

abbrev s_Adapter_init : Stmt := (mth 33 0)
theorem sc_Adapter_init : FnScope ["self", "letters", "outer", "controls", "index", "control", "number"] ["self", "letters", "outer", "controls"] (defScope s_Adapter_init) := ⟨rfl, rfl, rfl, by decide +kernel, rfl, by decide +kernel, by decide +kernel⟩
theorem b_Adapter_init {fd : FuncData} {f : Addr} (F : FunD K "__init__" "Adapter.__init__" (defArgs (mth 33 0)) (defBody (mth 33 0)) (defScope (mth 33 0)) [] [] f fd) : L2.Binds K fd ["self", "letters", "outer", "controls"] [] := F.bindsN fun _ _ _ _ _ _ us hl => match us, hl with | [_, _, _, _], _ => rfl
theorem w_Adapter_init (Φ : Fx K mg base) {cdv : Value} {A : Around} {outer : List PySem.Env} {s : Shared} {H : Hp} {E : XK} {f : Addr} (hr : Room 4 (A.deeper (PyProof.Rows.envOfC "Adapter.__init__" (defScope (mth 33 0)) s.heap.objs.size f cdv))) :
    ESs T [0] W0 (cxOf CX0 P w K mg base ["self", "letters", "outer", "controls", "index", "control", "number"] "Adapter.__init__" (defScope (mth 33 0)) f cdv A outer s H E).nox (defBody (mth 33 0)) b_Adapter_init_ :=
  (ess_cons (es_expr (eo_call (ok_check_letters Φ) (hr.mono (by decide)) Φ.g_check_letters Φ.h_check_letters (b_check_letters Φ.d_check_letters) (eaio_cons (eo_d (ed_var 1)) eaio_nil))) (ess_cons (es_expr (eo_call (ok_check_outer Φ) (hr.mono (by decide)) Φ.g_check_outer Φ.h_check_outer (b_check_outer Φ.d_check_outer) (eaio_cons (eo_d (ed_var 2)) eaio_nil))) (ess_cons (es_if (et_not (et_chain o_le o_le ed_int (ed_callB c_len Φ.f_len (by decide +kernel) (ead_cons (ed_var 3) ead_nil)) Φ.c_MOST_CONTROLS_adapters.ed)) (ess_one es_never) ess_nil) (ess_cons (es_for PassesOwn.never rfl (ei_enumS Φ.f_enumerate (ead_cons (ed_var 3) ead_nil)) (eg_tup rfl (egs_cons (eg_name sc_Adapter_init.nd) (egs_cons (eg_name sc_Adapter_init.nd) egs_nil))) (ess_one (es_if (et_not (et_val (ed_o (eo_call (ok_is_control Φ) (hr.mono (by decide)) Φ.g_is_control Φ.h_is_control (b_is_control Φ.d_is_control) (eaio_cons (eo_d (ed_var 5)) (eaio_cons (eo_d (ed_var 1)) (eaio_cons (eo_d (ed_var 2)) (eaio_cons (eo_d (ed_callB c_len Φ.f_len (by decide +kernel) (ead_cons (ed_var 3) ead_nil))) eaio_nil)))))))) (ess_one es_never) ess_nil))) (ess_cons (es_attr 0 Φ.l_letters (nok 0) (eo_d (ed_callTy c_tuple Φ.f_tuple (by decide +kernel) (ead_cons (ed_var 1) ead_nil)))) (ess_cons (es_attr 0 Φ.l_outer (nok 0) (eo_d (ed_callTy c_tuple Φ.f_tuple (by decide +kernel) (ead_cons (ed_var 2) ead_nil)))) (ess_cons (es_attr 0 Φ.l_controls (nok 0) (eo_d (ed_callTy c_tuple Φ.f_tuple (by decide +kernel) (ead_cons (ed_o (eo_lc (own := [((PySem.Str.ofString "control"), 5)]) rfl sc_Adapter_init.nd (ei_seq (ed_var 3)) (blkOk_by (by rfl)) (fun _ _ _ _ _ => (eg_name sc_Adapter_init.nd (hio := nin (by rfl)))) (fun _ _ _ _ _ => ets_nil) (fun _ _ _ _ _ => (eo_call (ok_as_told Φ) (hr.mono (by decide)) Φ.g_as_told Φ.h_as_told (b_as_told Φ.d_as_told) (eaio_cons (eo_d (ed_var 5)) eaio_nil))))) ead_nil)))) (ess_one (es_for PassesOwn.never rfl (ei_range1 Φ.f_range (ead_cons (ed_callB c_len Φ.f_len (by decide +kernel) (ead_cons (ed_attrV 0 Φ.l_controls (nok 0)) ead_nil)) ead_nil)) (eg_name sc_Adapter_init.nd) (ess_one (es_if (et_val (ed_o (eo_call (ok_on_ring Φ) (hr.mono (by decide)) Φ.g_on_ring Φ.h_on_ring (b_on_ring Φ.d_on_ring) (eaio_cons (eo_d (ed_attrV 0 Φ.l_controls (nok 0))) (eaio_cons (eo_d (ed_var 6)) eaio_nil))))) (ess_one es_never) ess_nil)))))))))))
theorem ok_Adapter_init (Φ : Fx K mg base) : FnOk P w K mg base CX0 5 (He.ma K (He.ga K (PySem.Str.ofString "Adapter")) (PySem.Str.ofString "__init__")) (fdOf K (He.ma K (He.ga K (PySem.Str.ofString "Adapter")) (PySem.Str.ofString "__init__"))) ["self", "letters", "outer", "controls"] (spD T K 4 m_Adapter_init) :=
  fn_ok Φ.d_Adapter_init sc_Adapter_init fun cdv A outer s H E hr => w_Adapter_init Φ hr

abbrev s__law_adapter_text : Stmt := (top 58)
theorem sc__law_adapter_text : FnScope ["_law_letters", "_law_outer", "_law_controls_here", "_law_rows", "_law_control", "_law_words_here", "_law_number", "_law_answer"] ["_law_letters", "_law_outer", "_law_controls_here"] (defScope s__law_adapter_text) := ⟨rfl, rfl, rfl, by decide +kernel, rfl, by decide +kernel, by decide +kernel⟩
theorem b__law_adapter_text {fd : FuncData} {f : Addr} (F : FunD K "_law_adapter_text" "_law_adapter_text" (defArgs (top 58)) (defBody (top 58)) (defScope (top 58)) [] [] f fd) : L2.Binds K fd ["_law_letters", "_law_outer", "_law_controls_here"] [] := F.bindsN fun _ _ _ _ _ _ us hl => match us, hl with | [_, _, _], _ => rfl
theorem w__law_adapter_text (Φ : Fx K mg base) {cdv : Value} {A : Around} {outer : List PySem.Env} {s : Shared} {H : Hp} {E : XK} {f : Addr} (hr : Room 0 (A.deeper (PyProof.Rows.envOfC "_law_adapter_text" (defScope (top 58)) s.heap.objs.size f cdv))) :
    ESs T [] W0 (cxOf CX0 P w K mg base ["_law_letters", "_law_outer", "_law_controls_here", "_law_rows", "_law_control", "_law_words_here", "_law_number", "_law_answer"] "_law_adapter_text" (defScope (top 58)) f cdv A outer s H E).nox (defBody (top 58)) b__law_adapter_text_ :=
  (ess_cons (es_set sc__law_adapter_text.nd (eo_lst (ea_cons (eo_d (ed_op o_add ed_str (ed_mt1 PySem.F.slot_str_join PySem.F.type_str_join t_join ed_str (ed_var 0)))) (ea_cons (eo_d (ed_op o_add ed_str (ed_mt1 PySem.F.slot_str_join PySem.F.type_str_join t_join ed_str (ed_var 1)))) (ea_cons (eo_d (ed_op o_add ed_str (ed_callTy c_str Φ.f_str (by decide +kernel) (ead_cons (ed_callB c_len Φ.f_len (by decide +kernel) (ead_cons (ed_var 2) ead_nil)) ead_nil)))) ea_nil))))) (ess_cons (es_for PassesOwn.never rfl (ei_seq (ed_var 2)) (eg_name sc__law_adapter_text.nd) (ess_cons (es_set sc__law_adapter_text.nd (eo_lst (ea_cons (eo_d (ed_ix i_seq (ed_var 4) ed_int (fun _ _ => rfl))) ea_nil))) (ess_cons (es_if (et_cmp (o_eq hr.units) (ed_ix i_seq (ed_var 4) ed_int (fun _ _ => rfl)) ed_str) (ess_one (es_set sc__law_adapter_text.nd (eo_op o_addO (ed_op o_add (ed_var 5) (ed_o (eo_lst (ea_cons (eo_d (ed_if (et_cmp o_isN (ed_ix i_seq (ed_var 4) ed_int (fun _ _ => rfl)) ed_non) ed_str (ed_ix i_seq (ed_var 4) ed_int (fun _ _ => rfl)))) ea_nil)))) (ed_o (eo_lc (own := [((PySem.Str.ofString "_law_number"), 6)]) rfl sc__law_adapter_text.nd (ei_seq (ed_ix i_seq (ed_var 4) ed_int (fun _ _ => rfl))) (blkOk_by (by rfl)) (fun _ _ _ _ _ => (eg_name sc__law_adapter_text.nd (hio := nin (by rfl)))) (fun _ _ _ _ _ => ets_nil) (fun _ _ _ _ _ => (eo_d (ed_callTy c_str Φ.f_str (by decide +kernel) (ead_cons (ed_var 6) ead_nil))))))))) ess_nil) (ess_cons (es_if (et_cmp (o_eq hr.units) (ed_ix i_seq (ed_var 4) ed_int (fun _ _ => rfl)) ed_str) (ess_one (es_set sc__law_adapter_text.nd (eo_op o_addO (ed_var 5) (ed_o (eo_lst (ea_cons (eo_d (ed_ix i_seq (ed_var 4) ed_int (fun _ _ => rfl))) (ea_cons (eo_d (ed_callTy c_str Φ.f_str (by decide +kernel) (ead_cons (ed_ix i_seq (ed_var 4) ed_int (fun _ _ => rfl)) ead_nil))) ea_nil))))))) ess_nil) (ess_cons (es_if (et_cmp (o_eq hr.units) (ed_ix i_seq (ed_var 4) ed_int (fun _ _ => rfl)) ed_str) (ess_cons (es_expr (eo_append 5 (nok 5) (eo_d (ed_callTy c_str Φ.f_str (by decide +kernel) (ead_cons (ed_ix i_seq (ed_var 4) ed_int (fun _ _ => rfl)) ead_nil))))) (ess_one (es_for PassesOwn.never rfl (ei_seq (ed_ix i_seq (ed_var 4) ed_int (fun _ _ => rfl))) (eg_tup rfl (egs_cons (eg_name sc__law_adapter_text.nd) (egs_cons (eg_name sc__law_adapter_text.nd) egs_nil))) (ess_one (es_set sc__law_adapter_text.nd (eo_op o_addO (ed_var 5) (ed_o (eo_lst (ea_cons (eo_d (ed_var 7)) (ea_cons (eo_d (ed_callTy c_str Φ.f_str (by decide +kernel) (ead_cons (ed_var 6) ead_nil))) ea_nil)))))))))) ess_nil) (ess_one (es_expr (eo_append 3 (nok 3) (eo_d (ed_mt1 PySem.F.slot_str_join PySem.F.type_str_join t_join ed_str (ed_var 5))))))))))) (ess_one (es_ret (eo_d (ed_mt1 PySem.F.slot_str_join PySem.F.type_str_join t_join ed_str (ed_var 3)))))))
theorem ok__law_adapter_text (Φ : Fx K mg base) : FnOk P w K mg base CX0 1 (He.ga K (PySem.Str.ofString "_law_adapter_text")) (fdOf K (He.ga K (PySem.Str.ofString "_law_adapter_text"))) ["_law_letters", "_law_outer", "_law_controls_here"] (spD T K 3 m__law_adapter_text) :=
  fn_ok Φ.d__law_adapter_text sc__law_adapter_text fun cdv A outer s H E hr => w__law_adapter_text Φ hr

abbrev s_control_words : Stmt := (top 48)
theorem sc_control_words : FnScope ["control", "number", "words", "answer"] ["control"] (defScope s_control_words) := ⟨rfl, rfl, rfl, by decide +kernel, rfl, by decide +kernel, by decide +kernel⟩
theorem b_control_words {fd : FuncData} {f : Addr} (F : FunD K "control_words" "control_words" (defArgs (top 48)) (defBody (top 48)) (defScope (top 48)) [] [] f fd) : L2.Binds K fd ["control"] [] := F.bindsN fun _ _ _ _ _ _ us hl => match us, hl with | [_], _ => rfl
theorem w_control_words (Φ : Fx K mg base) {cdv : Value} {A : Around} {outer : List PySem.Env} {s : Shared} {H : Hp} {E : XK} {f : Addr} (hr : Room 0 (A.deeper (PyProof.Rows.envOfC "control_words" (defScope (top 48)) s.heap.objs.size f cdv))) :
    ESs T [] W0 (cxOf CX0 P w K mg base ["control", "number", "words", "answer"] "control_words" (defScope (top 48)) f cdv A outer s H E).nox (defBody (top 48)) b_control_words_ :=
  (ess_cons (es_if (et_cmp (o_eq hr.units) (ed_ix i_seq (ed_var 0) ed_int (fun _ _ => rfl)) ed_str) (ess_one (es_ret (eo_lst (ea_cons (eo_d ed_str) (ea_cons (eo_d (ed_if (et_cmp o_isN (ed_ix i_seq (ed_var 0) ed_int (fun _ _ => rfl)) ed_non) ed_str (ed_ix i_seq (ed_var 0) ed_int (fun _ _ => rfl)))) (ea_star (ed_o (eo_lc (own := [((PySem.Str.ofString "number"), 1)]) rfl sc_control_words.nd (ei_seq (ed_ix i_seq (ed_var 0) ed_int (fun _ _ => rfl))) (blkOk_by (by rfl)) (fun _ _ _ _ _ => (eg_name sc_control_words.nd (hio := nin (by rfl)))) (fun _ _ _ _ _ => ets_nil) (fun _ _ _ _ _ => (eo_d (ed_callTy c_str Φ.f_str (by decide +kernel) (ead_cons (ed_var 1) ead_nil)))))) ea_nil)))))) ess_nil) (ess_cons (es_if (et_cmp (o_eq hr.units) (ed_ix i_seq (ed_var 0) ed_int (fun _ _ => rfl)) ed_str) (ess_one (es_ret (eo_lst (ea_cons (eo_d ed_str) (ea_cons (eo_d (ed_ix i_seq (ed_var 0) ed_int (fun _ _ => rfl))) (ea_cons (eo_d (ed_callTy c_str Φ.f_str (by decide +kernel) (ead_cons (ed_ix i_seq (ed_var 0) ed_int (fun _ _ => rfl)) ead_nil))) ea_nil)))))) ess_nil) (ess_cons (es_set sc_control_words.nd (eo_lst (ea_cons (eo_d ed_str) (ea_cons (eo_d (ed_callTy c_str Φ.f_str (by decide +kernel) (ead_cons (ed_ix i_seq (ed_var 0) ed_int (fun _ _ => rfl)) ead_nil))) ea_nil)))) (ess_cons (es_for PassesOwn.never rfl (ei_seq (ed_ix i_seq (ed_var 0) ed_int (fun _ _ => rfl))) (eg_tup rfl (egs_cons (eg_name sc_control_words.nd) (egs_cons (eg_name sc_control_words.nd) egs_nil))) (ess_one (es_expr (eo_extend 2 (nok 2) (eo_lst (ea_cons (eo_d (ed_var 3)) (ea_cons (eo_d (ed_callTy c_str Φ.f_str (by decide +kernel) (ead_cons (ed_var 1) ead_nil))) ea_nil))))))) (ess_one (es_ret (eo_move 2)))))))
theorem ok_control_words (Φ : Fx K mg base) : FnOk P w K mg base CX0 1 (He.ga K (PySem.Str.ofString "control_words")) (fdOf K (He.ga K (PySem.Str.ofString "control_words"))) ["control"] (spD T K 1 m_control_words) :=
  fn_ok Φ.d_control_words sc_control_words fun cdv A outer s H E hr => w_control_words Φ hr

abbrev s_write_adapter : Stmt := (top 49)
theorem sc_write_adapter : FnScope ["adapter", "rows", "control"] ["adapter"] (defScope s_write_adapter) := ⟨rfl, rfl, rfl, by decide +kernel, rfl, by decide +kernel, by decide +kernel⟩
theorem b_write_adapter {fd : FuncData} {f : Addr} (F : FunD K "write_adapter" "write_adapter" (defArgs (top 49)) (defBody (top 49)) (defScope (top 49)) [] [] f fd) : L2.Binds K fd ["adapter"] [] := F.bindsN fun _ _ _ _ _ _ us hl => match us, hl with | [_], _ => rfl
theorem w_write_adapter (Φ : Fx K mg base) {cdv : Value} {A : Around} {outer : List PySem.Env} {s : Shared} {H : Hp} {E : XK} {f : Addr} (hr : Room 1 (A.deeper (PyProof.Rows.envOfC "write_adapter" (defScope (top 49)) s.heap.objs.size f cdv))) :
    ESs T [] W0 (cxOf CX0 P w K mg base ["adapter", "rows", "control"] "write_adapter" (defScope (top 49)) f cdv A outer s H E).nox (defBody (top 49)) b_write_adapter_ :=
  (ess_cons (es_set sc_write_adapter.nd (eo_lst (ea_cons (eo_d (ed_mt1 PySem.F.slot_str_join PySem.F.type_str_join t_join ed_str (ed_o (eo_lst (ea_cons (eo_d ed_str) (ea_star (ed_attr Φ.l_letters (ed_var 0)) ea_nil)))))) (ea_cons (eo_d (ed_mt1 PySem.F.slot_str_join PySem.F.type_str_join t_join ed_str (ed_o (eo_lst (ea_cons (eo_d ed_str) (ea_star (ed_attr Φ.l_outer (ed_var 0)) ea_nil)))))) ea_nil)))) (ess_cons (es_expr (eo_append 1 (nok 1) (eo_d (ed_joined (ej_cons ed_str (ej_cons (ed_fmt (ed_callB c_len Φ.f_len (by decide +kernel) (ead_cons (ed_attr Φ.l_controls (ed_var 0)) ead_nil))) ej_nil)))))) (ess_one (es_ret (eo_d (ed_mt1 PySem.F.slot_str_join PySem.F.type_str_join t_join ed_str (ed_o (eo_lst (ea_star (ed_var 1) (ea_star (ed_o (eo_lc (own := [((PySem.Str.ofString "control"), 2)]) rfl sc_write_adapter.nd (ei_seq (ed_attr Φ.l_controls (ed_var 0))) (blkOk_by (by rfl)) (fun _ _ _ _ _ => (eg_name sc_write_adapter.nd (hio := nin (by rfl)))) (fun _ _ _ _ _ => ets_nil) (fun _ _ _ _ _ => (eo_d (ed_mt1 PySem.F.slot_str_join PySem.F.type_str_join t_join ed_str (ed_o (eo_call (ok_control_words Φ) (hr.mono (by decide)) Φ.g_control_words Φ.h_control_words (b_control_words Φ.d_control_words) (eaio_cons (eo_d (ed_var 2)) eaio_nil)))))))) ea_nil))))))))))
theorem ok_write_adapter (Φ : Fx K mg base) : FnOk P w K mg base CX0 2 (He.ga K (PySem.Str.ofString "write_adapter")) (fdOf K (He.ga K (PySem.Str.ofString "write_adapter"))) ["adapter"] (spD T K 1 m_write_adapter) :=
  fn_ok Φ.d_write_adapter sc_write_adapter fun cdv A outer s H E hr => w_write_adapter Φ hr

abbrev s_Lines_init : Stmt := (mth 39 0)
theorem sc_Lines_init : FnScope ["self", "text"] ["self", "text"] (defScope s_Lines_init) := ⟨rfl, rfl, rfl, by decide +kernel, rfl, by decide +kernel, by decide +kernel⟩
theorem b_Lines_init {fd : FuncData} {f : Addr} (F : FunD K "__init__" "Lines.__init__" (defArgs (mth 39 0)) (defBody (mth 39 0)) (defScope (mth 39 0)) [] [] f fd) : L2.Binds K fd ["self", "text"] [] := F.bindsN fun _ _ _ _ _ _ us hl => match us, hl with | [_, _], _ => rfl
theorem w_Lines_init (Φ : Fx K mg base) {cdv : Value} {A : Around} {outer : List PySem.Env} {s : Shared} {H : Hp} {E : XK} {f : Addr} (hr : Room 0 (A.deeper (PyProof.Rows.envOfC "Lines.__init__" (defScope (mth 39 0)) s.heap.objs.size f cdv))) :
    ESs T [0] W0 (cxOf CX0 P w K mg base ["self", "text"] "Lines.__init__" (defScope (mth 39 0)) f cdv A outer s H E).nox (defBody (mth 39 0)) b_Lines_init_ :=
  (ess_cons (es_attr 0 Φ.l_rows (nok 0) (eo_d (ed_mt1 PySem.F.slot_str_split PySem.F.type_str_split t_split (ed_var 1) ed_str))) (ess_one (es_attr 0 Φ.l_done (nok 0) (eo_d ed_int))))
theorem ok_Lines_init (Φ : Fx K mg base) : FnOk P w K mg base CX0 1 (He.ma K (He.ga K (PySem.Str.ofString "Lines")) (PySem.Str.ofString "__init__")) (fdOf K (He.ma K (He.ga K (PySem.Str.ofString "Lines")) (PySem.Str.ofString "__init__"))) ["self", "text"] (spD T K 2 m_Lines_init) :=
  fn_ok Φ.d_Lines_init sc_Lines_init fun cdv A outer s H E hr => w_Lines_init Φ hr

abbrev s_Line_is_done : Stmt := (mth 38 1)
theorem sc_Line_is_done : FnScope ["self"] ["self"] (defScope s_Line_is_done) := ⟨rfl, rfl, rfl, by decide +kernel, rfl, by decide +kernel, by decide +kernel⟩
theorem b_Line_is_done {fd : FuncData} {f : Addr} (F : FunD K "is_done" "Line.is_done" (defArgs (mth 38 1)) (defBody (mth 38 1)) (defScope (mth 38 1)) [] [] f fd) : L2.Binds K fd ["self"] [] := F.bindsN fun _ _ _ _ _ _ us hl => match us, hl with | [_], _ => rfl
theorem w_Line_is_done (Φ : Fx K mg base) {cdv : Value} {A : Around} {outer : List PySem.Env} {s : Shared} {H : Hp} {E : XK} {f : Addr} (hr : Room 0 (A.deeper (PyProof.Rows.envOfC "Line.is_done" (defScope (mth 38 1)) s.heap.objs.size f cdv))) :
    ESs T [0] W0 (cxOf CX0 P w K mg base ["self"] "Line.is_done" (defScope (mth 38 1)) f cdv A outer s H E).nox (defBody (mth 38 1)) b_Line_is_done_ :=
  (ess_one (es_ret (eo_d (ed_cmp o_ge (ed_attrV 0 Φ.l_at (nok 0)) (ed_callB c_len Φ.f_len (by decide +kernel) (ead_cons (ed_attrV 0 Φ.l_words (nok 0)) ead_nil))))))
theorem ok_Line_is_done (Φ : Fx K mg base) : FnOk P w K mg base CX0 1 (getterOf K (PySem.Str.ofString "Line") (PySem.Str.ofString "is_done")) (fdOf K (getterOf K (PySem.Str.ofString "Line") (PySem.Str.ofString "is_done"))) ["self"] (spD T K 1 m_Line_is_done) :=
  fn_ok Φ.d_Line_is_done sc_Line_is_done fun cdv A outer s H E hr => w_Line_is_done Φ hr

abbrev s_Line_take : Stmt := (mth 38 2)
theorem sc_Line_take : FnScope ["self", "is_right"] ["self", "is_right"] (defScope s_Line_take) := ⟨rfl, rfl, rfl, by decide +kernel, rfl, by decide +kernel, by decide +kernel⟩
theorem b_Line_take {fd : FuncData} {f : Addr} (F : FunD K "take" "Line.take" (defArgs (mth 38 2)) (defBody (mth 38 2)) (defScope (mth 38 2)) [] [] f fd) : L2.Binds K fd ["self", "is_right"] [] := F.bindsN fun _ _ _ _ _ _ us hl => match us, hl with | [_, _], _ => rfl
theorem wt_Line_take (Φ : Fx K mg base) {cdv : Value} {A : Around} {stack : List PySem.Env} {s : Shared} {H : Hp} {f ft : Addr} {Z : Hp} {φ : D → Option Bool} (hr : Room 3 (A.deeper (PyProof.Rows.envOfC "Line.take" (defScope (mth 38 2)) s.heap.objs.size ft cdv)))
    (c : Clo T (cxOf CX0 P w K mg base ["self", "is_right"] "Line.take" (defScope (mth 38 2)) ft cdv A stack s H E0).nox f Z φ) : PSs (cxOf CX0 P w K mg base ["self", "is_right"] "Line.take" (defScope (mth 38 2)) ft cdv A stack s H E0).nox (defBody (mth 38 2)) (tAsk1 T K [0] W0 f Z φ 1 g1_Line_take ga_Line_take k_Line_take) :=
  pss_ask c (et_val (ed_o (eo_propio 0 Φ.k_Line Φ.p_Line_is_done (ok_Line_is_done Φ) (hr.mono (by decide)) (b_Line_is_done Φ.d_Line_is_done) (nok 0)))) (nok 1) (ed_ix i_seq (ed_attrV 0 Φ.l_words (nok 0)) (ed_attrV 0 Φ.l_at (nok 0)) (fun _ _ => rfl)) (ess_cons (es_attrAdd 0 Φ.l_at (nok 0) ed_int) (ess_one (es_ret (eo_d (ed_ix i_seq (ed_attrV 0 Φ.l_words (nok 0)) (ed_op o_sub (ed_attrV 0 Φ.l_at (nok 0)) ed_int) (fun _ _ => rfl))))))

abbrev s_Line_take_head : Stmt := (mth 38 3)
theorem sc_Line_take_head : FnScope ["self", "word"] ["self", "word"] (defScope s_Line_take_head) := ⟨rfl, rfl, rfl, by decide +kernel, rfl, by decide +kernel, by decide +kernel⟩
theorem b_Line_take_head {fd : FuncData} {f : Addr} (F : FunD K "take_head" "Line.take_head" (defArgs (mth 38 3)) (defBody (mth 38 3)) (defScope (mth 38 3)) [] [] f fd) : L2.Binds K fd ["self", "word"] [] := F.bindsN fun _ _ _ _ _ _ us hl => match us, hl with | [_, _], _ => rfl
theorem nd_l_Line_take_head_0 : (["here", "word"] : List Str).Nodup := by decide +kernel
theorem tm_Line_take_head (K : PySem.W.Frag) : (tabAt K (He.ma K (He.ga K (PySem.Str.ofString "Line")) (PySem.Str.ofString "take_head")), ((("Line.take_head" : Str) ++ ".<locals>.") ++ "<lambda>" : Str)) ∈ T0 K := List.mem_of_getElem? (i := 0) rfl
theorem w_Line_take_head (Φ : Fx K mg base) {A : Around} {outer : List PySem.Env} {s : Shared} {H : Hp} {E : XK} {f : Addr} (hr : Room 5 (A.deeper (PyProof.Rows.envOfC "Line.take_head" (defScope (mth 38 3)) s.heap.objs.size f (.ref (codeAt K (He.ma K (He.ga K (PySem.Str.ofString "Line")) (PySem.Str.ofString "take_head"))))))) :
    ESs (tn (T0 K)) [0] W0 (cxOf CX0 P w K mg base ["self", "word"] "Line.take_head" (defScope (mth 38 3)) f (.ref (codeAt K (He.ma K (He.ga K (PySem.Str.ofString "Line")) (PySem.Str.ofString "take_head")))) A outer s H E).nox (defBody (mth 38 3)) b_Line_take_head_ :=
  (ess_one (es_expr (eo_askL (T0 := T0 K) (Nl := ["here", "word"]) (fr := ["word"]) (js := [1]) (kl := 2) (gl := l_Line_take_head_0) 0 rfl Φ.k_Line Φ.m_Line_take Φ.d_Line_take sc_Line_take (b_Line_take Φ.d_Line_take) (hr.mono (by decide)) (fun hr c => wt_Line_take Φ hr c) Φ.t_Line_take_head rfl (tm_Line_take_head K) Φ.tu_Line_take_head rfl (by rfl) rfl (nscope_by (by decide +kernel)) (fun _ _ _ _ _ us hl => match us, hl with | [_], _ => rfl) (by decide) (by decide) (fun _ _ _ _ _ _ _ _ hr => (ed_cmp (o_eq hr.units) (ed_var 0) (ed_var 1))) (fun _ _ _ => phiOf_ok) (nok 0))))
theorem ok_Line_take_head (Φ : Fx K mg base) : FnOk P w K mg base CX0 6 (He.ma K (He.ga K (PySem.Str.ofString "Line")) (PySem.Str.ofString "take_head")) (fdOf K (He.ma K (He.ga K (PySem.Str.ofString "Line")) (PySem.Str.ofString "take_head"))) ["self", "word"] (spD (tn (T0 K)) K 2 m_Line_take_head) :=
  fn_okC Φ.d_Line_take_head sc_Line_take_head fun A outer s H E hr => w_Line_take_head Φ hr

abbrev s_take_letters : Stmt := (top 42)
theorem sc_take_letters : FnScope ["line", "head", "found"] ["line", "head"] (defScope s_take_letters) := ⟨rfl, rfl, rfl, by decide +kernel, rfl, by decide +kernel, by decide +kernel⟩
theorem b_take_letters {fd : FuncData} {f : Addr} (F : FunD K "take_letters" "take_letters" (defArgs (top 42)) (defBody (top 42)) (defScope (top 42)) [] [] f fd) : L2.Binds K fd ["line", "head"] [] := F.bindsN fun _ _ _ _ _ _ us hl => match us, hl with | [_, _], _ => rfl
theorem nd_l_take_letters_0 : (["word", "found"] : List Str).Nodup := by decide +kernel
theorem tm_take_letters (K : PySem.W.Frag) : (tabAt K (He.ga K (PySem.Str.ofString "take_letters")), ((("take_letters" : Str) ++ ".<locals>.") ++ "<lambda>" : Str)) ∈ T0 K := List.mem_of_getElem? (i := 1) rfl
theorem w_take_letters (Φ : Fx K mg base) {A : Around} {outer : List PySem.Env} {s : Shared} {H : Hp} {E : XK} {f : Addr} (hr : Room 7 (A.deeper (PyProof.Rows.envOfC "take_letters" (defScope (top 42)) s.heap.objs.size f (.ref (codeAt K (He.ga K (PySem.Str.ofString "take_letters"))))))) :
    ESs (tn (T0 K)) [0] W0 (cxOf CX0 P w K mg base ["line", "head", "found"] "take_letters" (defScope (top 42)) f (.ref (codeAt K (He.ga K (PySem.Str.ofString "take_letters")))) A outer s H E).nox (defBody (top 42)) b_take_letters_ :=
  (ess_cons (es_expr (eo_methio 0 Φ.k_Line Φ.m_Line_take_head (ok_Line_take_head Φ) (hr.mono (by decide)) (b_Line_take_head Φ.d_Line_take_head) (eaio_cons (eo_d (ed_var 1)) eaio_nil))) (ess_cons (es_set sc_take_letters.nd (eo_lst ea_nil)) (ess_cons (es_while fuel PassesOwn.never (et_w (ew_or (et_peek (et_cmp (o_eq hr.units) (ed_var 2) (ed_o (eo_lst ea_nil)))) (ew_or1 (et_not (et_val (ed_o (eo_propio 0 Φ.k_Line Φ.p_Line_is_done (ok_Line_is_done Φ) (hr.mono (by decide)) (b_Line_is_done Φ.d_Line_is_done) (nok 0)))))))) (ess_one (es_expr (eo_append 2 (nok 2) (eo_askL (T0 := T0 K) (Nl := ["word", "found"]) (fr := ["found"]) (js := [2]) (kl := 2) (gl := l_take_letters_0) 0 rfl Φ.k_Line Φ.m_Line_take Φ.d_Line_take sc_Line_take (b_Line_take Φ.d_Line_take) (hr.mono (by decide)) (fun hr c => wt_Line_take Φ hr c) Φ.t_take_letters rfl (tm_take_letters K) Φ.tu_take_letters rfl (by rfl) rfl (nscope_by (by decide +kernel)) (fun _ _ _ _ _ us hl => match us, hl with | [_], _ => rfl) (by decide) (by decide) (fun _ _ _ _ _ _ _ _ hr => (ed_andV (ed_o (eo_call (ok_is_word Φ) (hr.mono (by decide)) Φ.g_is_word Φ.h_is_word (b_is_word Φ.d_is_word) (eaio_cons (eo_d (ed_var 0)) eaio_nil))) (ed_andV (ed_cmp o_notIn (ed_var 0) (ed_var 1)) (ed_one (ed_cmp o_lt (ed_callB c_len Φ.f_len (by decide +kernel) (ead_cons (ed_var 1) ead_nil)) Φ.c_MOST_LETTERS_texts.ed))))) (fun _ _ _ => phiOf_ok) (nok 0)))))) (ess_one (es_ret (eo_move 2))))))
theorem ok_take_letters (Φ : Fx K mg base) : FnOk P w K mg base CX0 8 (He.ga K (PySem.Str.ofString "take_letters")) (fdOf K (He.ga K (PySem.Str.ofString "take_letters"))) ["line", "head"] (spD (tn (T0 K)) K 2 m_take_letters) :=
  fn_okC Φ.d_take_letters sc_take_letters fun A outer s H E hr => w_take_letters Φ hr

abbrev s_is_number_texts : Stmt := (top 40)
theorem sc_is_number_texts : FnScope ["word", "sign"] ["word"] (defScope s_is_number_texts) := ⟨rfl, rfl, rfl, by decide +kernel, rfl, by decide +kernel, by decide +kernel⟩
theorem b_is_number_texts {fd : FuncData} {f : Addr} (F : FunD K "is_number" "is_number" (defArgs (top 40)) (defBody (top 40)) (defScope (top 40)) [] [] f fd) : L2.Binds K fd ["word"] [] := F.bindsN fun _ _ _ _ _ _ us hl => match us, hl with | [_], _ => rfl
theorem w_is_number_texts (Φ : Fx K mg base) {cdv : Value} {A : Around} {outer : List PySem.Env} {s : Shared} {H : Hp} {E : XK} {f : Addr} (hr : Room 0 (A.deeper (PyProof.Rows.envOfC "is_number" (defScope (top 40)) s.heap.objs.size f cdv))) :
    ESs T [] W0 (cxOf CX0 P w K mg base ["word", "sign"] "is_number" (defScope (top 40)) f cdv A outer s H E).nox (defBody (top 40)) b_is_number_texts_ :=
  (ess_cons (es_if (et_w (ew_or (et_cmp (o_eq hr.units) (ed_var 0) ed_str) (ew_or (et_cmp o_gt (ed_callB c_len Φ.f_len (by decide +kernel) (ead_cons (ed_var 0) ead_nil)) ed_int) (ew_or1 (et_not (et_val (ed_callB (c_all rfl) Φ.f_all (by decide +kernel) (ead_cons (ed_o (eo_lc (own := [((PySem.Str.ofString "sign"), 1)]) rfl sc_is_number_texts.nd (ei_seq (ed_var 0)) (blkOk_by (by rfl)) (fun _ _ _ _ _ => (eg_name sc_is_number_texts.nd (hio := nin (by rfl)))) (fun _ _ _ _ _ => ets_nil) (fun _ _ _ _ _ => (eo_d (ed_cmp o_in (ed_var 1) Φ.c_DIGITS.ed))))) ead_nil)))))))) (ess_one (es_ret (eo_d ed_bl))) ess_nil) (ess_one (es_ret (eo_d (ed_orV (ed_cmp (o_eq hr.units) (ed_var 0) ed_str) (ed_one (ed_cmp (o_ne hr.units) (ed_ix i_seq (ed_var 0) ed_int (fun _ _ => rfl)) ed_str)))))))
theorem ok_is_number_texts (Φ : Fx K mg base) : FnOk P w K mg base CX0 1 (He.ga K (PySem.Str.ofString "is_number_texts")) (fdOf K (He.ga K (PySem.Str.ofString "is_number_texts"))) ["word"] (spD T K 1 m_is_number_texts) :=
  fn_ok Φ.d_is_number_texts sc_is_number_texts fun cdv A outer s H E hr => w_is_number_texts Φ hr

abbrev s_Line_take_number : Stmt := (mth 38 4)
theorem sc_Line_take_number : FnScope ["self", "low", "high"] ["self", "low", "high"] (defScope s_Line_take_number) := ⟨rfl, rfl, rfl, by decide +kernel, rfl, by decide +kernel, by decide +kernel⟩
theorem b_Line_take_number {fd : FuncData} {f : Addr} (F : FunD K "take_number" "Line.take_number" (defArgs (mth 38 4)) (defBody (mth 38 4)) (defScope (mth 38 4)) [] [] f fd) : L2.Binds K fd ["self", "low", "high"] [] := F.bindsN fun _ _ _ _ _ _ us hl => match us, hl with | [_, _, _], _ => rfl
theorem nd_l_Line_take_number_0 : (["word", "low", "high"] : List Str).Nodup := by decide +kernel
theorem tm_Line_take_number (K : PySem.W.Frag) : (tabAt K (He.ma K (He.ga K (PySem.Str.ofString "Line")) (PySem.Str.ofString "take_number")), ((("Line.take_number" : Str) ++ ".<locals>.") ++ "<lambda>" : Str)) ∈ T0 K := List.mem_of_getElem? (i := 2) rfl
theorem w_Line_take_number (Φ : Fx K mg base) {A : Around} {outer : List PySem.Env} {s : Shared} {H : Hp} {E : XK} {f : Addr} (hr : Room 5 (A.deeper (PyProof.Rows.envOfC "Line.take_number" (defScope (mth 38 4)) s.heap.objs.size f (.ref (codeAt K (He.ma K (He.ga K (PySem.Str.ofString "Line")) (PySem.Str.ofString "take_number"))))))) :
    ESs (tn (T0 K)) [0] W0 (cxOf CX0 P w K mg base ["self", "low", "high"] "Line.take_number" (defScope (mth 38 4)) f (.ref (codeAt K (He.ma K (He.ga K (PySem.Str.ofString "Line")) (PySem.Str.ofString "take_number")))) A outer s H E).nox (defBody (mth 38 4)) b_Line_take_number_ :=
  (ess_one (es_ret (eo_d (ed_callTy c_int Φ.f_int (by decide +kernel) (ead_cons (ed_o (eo_askL (T0 := T0 K) (Nl := ["word", "low", "high"]) (fr := ["low", "high"]) (js := [1, 2]) (kl := 2) (gl := l_Line_take_number_0) 0 rfl Φ.k_Line Φ.m_Line_take Φ.d_Line_take sc_Line_take (b_Line_take Φ.d_Line_take) (hr.mono (by decide)) (fun hr c => wt_Line_take Φ hr c) Φ.t_Line_take_number rfl (tm_Line_take_number K) Φ.tu_Line_take_number rfl (by rfl) rfl (nscope_by (by decide +kernel)) (fun _ _ _ _ _ us hl => match us, hl with | [_], _ => rfl) (by decide) (by decide) (fun _ _ _ _ _ _ _ _ hr => (ed_andV (ed_o (eo_call (ok_is_number_texts Φ) (hr.mono (by decide)) Φ.g_is_number_texts Φ.h_is_number_texts (b_is_number_texts Φ.d_is_number_texts) (eaio_cons (eo_d (ed_var 0)) eaio_nil))) (ed_one (ed_chain o_le o_le (ed_var 1) (ed_callTy c_int Φ.f_int (by decide +kernel) (ead_cons (ed_var 0) ead_nil)) (ed_var 2))))) (fun _ _ _ => phiOf_ok) (nok 0))) ead_nil)))))
theorem ok_Line_take_number (Φ : Fx K mg base) : FnOk P w K mg base CX0 6 (He.ma K (He.ga K (PySem.Str.ofString "Line")) (PySem.Str.ofString "take_number")) (fdOf K (He.ma K (He.ga K (PySem.Str.ofString "Line")) (PySem.Str.ofString "take_number"))) ["self", "low", "high"] (spD (tn (T0 K)) K 3 m_Line_take_number) :=
  fn_okC Φ.d_Line_take_number sc_Line_take_number fun A outer s H E hr => w_Line_take_number Φ hr

abbrev s_Line_close : Stmt := (mth 38 5)
theorem sc_Line_close : FnScope ["self"] ["self"] (defScope s_Line_close) := ⟨rfl, rfl, rfl, by decide +kernel, rfl, by decide +kernel, by decide +kernel⟩
theorem b_Line_close {fd : FuncData} {f : Addr} (F : FunD K "close" "Line.close" (defArgs (mth 38 5)) (defBody (mth 38 5)) (defScope (mth 38 5)) [] [] f fd) : L2.Binds K fd ["self"] [] := F.bindsN fun _ _ _ _ _ _ us hl => match us, hl with | [_], _ => rfl
theorem w_Line_close (Φ : Fx K mg base) {cdv : Value} {A : Around} {outer : List PySem.Env} {s : Shared} {H : Hp} {E : XK} {f : Addr} (hr : Room 2 (A.deeper (PyProof.Rows.envOfC "Line.close" (defScope (mth 38 5)) s.heap.objs.size f cdv))) :
    ESs T [0] W0 (cxOf CX0 P w K mg base ["self"] "Line.close" (defScope (mth 38 5)) f cdv A outer s H E).nox (defBody (mth 38 5)) b_Line_close_ :=
  (ess_one (es_if (et_not (et_val (ed_o (eo_propio 0 Φ.k_Line Φ.p_Line_is_done (ok_Line_is_done Φ) (hr.mono (by decide)) (b_Line_is_done Φ.d_Line_is_done) (nok 0))))) (ess_one es_never) ess_nil))
theorem ok_Line_close (Φ : Fx K mg base) : FnOk P w K mg base CX0 3 (He.ma K (He.ga K (PySem.Str.ofString "Line")) (PySem.Str.ofString "close")) (fdOf K (He.ma K (He.ga K (PySem.Str.ofString "Line")) (PySem.Str.ofString "close"))) ["self"] (spD T K 1 m_Line_close) :=
  fn_ok Φ.d_Line_close sc_Line_close fun cdv A outer s H E hr => w_Line_close Φ hr

abbrev s_take_many : Stmt := (top 43)
theorem sc_take_many : FnScope ["line", "head", "most", "many"] ["line", "head", "most"] (defScope s_take_many) := ⟨rfl, rfl, rfl, by decide +kernel, rfl, by decide +kernel, by decide +kernel⟩
theorem b_take_many {fd : FuncData} {f : Addr} (F : FunD K "take_many" "take_many" (defArgs (top 43)) (defBody (top 43)) (defScope (top 43)) [] [] f fd) : L2.Binds K fd ["line", "head", "most"] [] := F.bindsN fun _ _ _ _ _ _ us hl => match us, hl with | [_, _, _], _ => rfl
theorem w_take_many (Φ : Fx K mg base) {cdv : Value} {A : Around} {outer : List PySem.Env} {s : Shared} {H : Hp} {E : XK} {f : Addr} (hr : Room 7 (A.deeper (PyProof.Rows.envOfC "take_many" (defScope (top 43)) s.heap.objs.size f cdv))) :
    ESs (tn (T0 K)) [0] W0 (cxOf CX0 P w K mg base ["line", "head", "most", "many"] "take_many" (defScope (top 43)) f cdv A outer s H E).nox (defBody (top 43)) b_take_many_ :=
  (ess_cons (es_expr (eo_methio 0 Φ.k_Line Φ.m_Line_take_head (ok_Line_take_head Φ) (hr.mono (by decide)) (b_Line_take_head Φ.d_Line_take_head) (eaio_cons (eo_d (ed_var 1)) eaio_nil))) (ess_cons (es_set sc_take_many.nd (eo_methio 0 Φ.k_Line Φ.m_Line_take_number (ok_Line_take_number Φ) (hr.mono (by decide)) (b_Line_take_number Φ.d_Line_take_number) (eaio_cons (eo_d ed_int) (eaio_cons (eo_d (ed_var 2)) eaio_nil)))) (ess_cons (es_expr (eo_methio0 0 Φ.k_Line Φ.m_Line_close (ok_Line_close Φ) (hr.mono (by decide)) (b_Line_close Φ.d_Line_close))) (ess_one (es_ret (eo_d (ed_var 3)))))))
theorem ok_take_many (Φ : Fx K mg base) : FnOk P w K mg base CX0 8 (He.ga K (PySem.Str.ofString "take_many")) (fdOf K (He.ga K (PySem.Str.ofString "take_many"))) ["line", "head", "most"] (spD (tn (T0 K)) K 3 m_take_many) :=
  fn_ok Φ.d_take_many sc_take_many fun cdv A outer s H E hr => w_take_many Φ hr

abbrev s_Lines_is_left : Stmt := (mth 39 2)
theorem sc_Lines_is_left : FnScope ["self"] ["self"] (defScope s_Lines_is_left) := ⟨rfl, rfl, rfl, by decide +kernel, rfl, by decide +kernel, by decide +kernel⟩
theorem b_Lines_is_left {fd : FuncData} {f : Addr} (F : FunD K "is_left" "Lines.is_left" (defArgs (mth 39 2)) (defBody (mth 39 2)) (defScope (mth 39 2)) [] [] f fd) : L2.Binds K fd ["self"] [] := F.bindsN fun _ _ _ _ _ _ us hl => match us, hl with | [_], _ => rfl
theorem w_Lines_is_left (Φ : Fx K mg base) {cdv : Value} {A : Around} {outer : List PySem.Env} {s : Shared} {H : Hp} {E : XK} {f : Addr} (hr : Room 0 (A.deeper (PyProof.Rows.envOfC "Lines.is_left" (defScope (mth 39 2)) s.heap.objs.size f cdv))) :
    ESs T [0] W0 (cxOf CX0 P w K mg base ["self"] "Lines.is_left" (defScope (mth 39 2)) f cdv A outer s H E).nox (defBody (mth 39 2)) b_Lines_is_left_ :=
  (ess_one (es_ret (eo_d (ed_cmp o_lt (ed_attrV 0 Φ.l_done (nok 0)) (ed_callB c_len Φ.f_len (by decide +kernel) (ead_cons (ed_attrV 0 Φ.l_rows (nok 0)) ead_nil))))))
theorem ok_Lines_is_left (Φ : Fx K mg base) : FnOk P w K mg base CX0 1 (He.ma K (He.ga K (PySem.Str.ofString "Lines")) (PySem.Str.ofString "is_left")) (fdOf K (He.ma K (He.ga K (PySem.Str.ofString "Lines")) (PySem.Str.ofString "is_left"))) ["self"] (spD T K 1 m_Lines_is_left) :=
  fn_ok Φ.d_Lines_is_left sc_Lines_is_left fun cdv A outer s H E hr => w_Lines_is_left Φ hr

abbrev s_Line_init : Stmt := (mth 38 0)
theorem sc_Line_init : FnScope ["self", "number", "text"] ["self", "number", "text"] (defScope s_Line_init) := ⟨rfl, rfl, rfl, by decide +kernel, rfl, by decide +kernel, by decide +kernel⟩
theorem b_Line_init {fd : FuncData} {f : Addr} (F : FunD K "__init__" "Line.__init__" (defArgs (mth 38 0)) (defBody (mth 38 0)) (defScope (mth 38 0)) [] [] f fd) : L2.Binds K fd ["self", "number", "text"] [] := F.bindsN fun _ _ _ _ _ _ us hl => match us, hl with | [_, _, _], _ => rfl
theorem w_Line_init (Φ : Fx K mg base) {cdv : Value} {A : Around} {outer : List PySem.Env} {s : Shared} {H : Hp} {E : XK} {f : Addr} (hr : Room 0 (A.deeper (PyProof.Rows.envOfC "Line.__init__" (defScope (mth 38 0)) s.heap.objs.size f cdv))) :
    ESs T [0] W0 (cxOf CX0 P w K mg base ["self", "number", "text"] "Line.__init__" (defScope (mth 38 0)) f cdv A outer s H E).nox (defBody (mth 38 0)) b_Line_init_ :=
  (ess_cons (es_attr 0 Φ.l_number (nok 0) (eo_d (ed_var 1))) (ess_cons (es_attr 0 Φ.l_words (nok 0) (eo_d (ed_mt1 PySem.F.slot_str_split PySem.F.type_str_split t_split (ed_var 2) ed_str))) (ess_one (es_attr 0 Φ.l_at (nok 0) (eo_d ed_int)))))
theorem ok_Line_init (Φ : Fx K mg base) : FnOk P w K mg base CX0 1 (He.ma K (He.ga K (PySem.Str.ofString "Line")) (PySem.Str.ofString "__init__")) (fdOf K (He.ma K (He.ga K (PySem.Str.ofString "Line")) (PySem.Str.ofString "__init__"))) ["self", "number", "text"] (spD T K 3 m_Line_init) :=
  fn_ok Φ.d_Line_init sc_Line_init fun cdv A outer s H E hr => w_Line_init Φ hr

abbrev s_Lines_next_line : Stmt := (mth 39 1)
theorem sc_Lines_next_line : FnScope ["self"] ["self"] (defScope s_Lines_next_line) := ⟨rfl, rfl, rfl, by decide +kernel, rfl, by decide +kernel, by decide +kernel⟩
theorem b_Lines_next_line {fd : FuncData} {f : Addr} (F : FunD K "next_line" "Lines.next_line" (defArgs (mth 39 1)) (defBody (mth 39 1)) (defScope (mth 39 1)) [] [] f fd) : L2.Binds K fd ["self"] [] := F.bindsN fun _ _ _ _ _ _ us hl => match us, hl with | [_], _ => rfl
theorem w_Lines_next_line (Φ : Fx K mg base) {cdv : Value} {A : Around} {outer : List PySem.Env} {s : Shared} {H : Hp} {E : XK} {f : Addr} (hr : Room 2 (A.deeper (PyProof.Rows.envOfC "Lines.next_line" (defScope (mth 39 1)) s.heap.objs.size f cdv))) :
    ESs T [0] W0 (cxOf CX0 P w K mg base ["self"] "Lines.next_line" (defScope (mth 39 1)) f cdv A outer s H E).nox (defBody (mth 39 1)) b_Lines_next_line_ :=
  (ess_cons (es_if (et_cmp o_ge (ed_attrV 0 Φ.l_done (nok 0)) (ed_callB c_len Φ.f_len (by decide +kernel) (ead_cons (ed_attrV 0 Φ.l_rows (nok 0)) ead_nil))) (ess_one es_never) ess_nil) (ess_cons (es_attrAdd 0 Φ.l_done (nok 0) ed_int) (ess_one (es_ret (eo_make Φ.mk_Line (ok_Line_init Φ) (hr.mono (by decide)) Φ.g_Line (b_Line_init Φ.d_Line_init) (eaio_cons (eo_d (ed_attrV 0 Φ.l_done (nok 0))) (eaio_cons (eo_d (ed_ix i_seq (ed_attrV 0 Φ.l_rows (nok 0)) (ed_op o_sub (ed_attrV 0 Φ.l_done (nok 0)) ed_int) (fun _ _ => rfl))) eaio_nil)))))))
theorem ok_Lines_next_line (Φ : Fx K mg base) : FnOk P w K mg base CX0 3 (He.ma K (He.ga K (PySem.Str.ofString "Lines")) (PySem.Str.ofString "next_line")) (fdOf K (He.ma K (He.ga K (PySem.Str.ofString "Lines")) (PySem.Str.ofString "next_line"))) ["self"] (spD T K 1 m_Lines_next_line) :=
  fn_ok Φ.d_Lines_next_line sc_Lines_next_line fun cdv A outer s H E hr => w_Lines_next_line Φ hr

abbrev s_take_says : Stmt := (top 44)
theorem sc_take_says : FnScope ["line", "word"] ["line"] (defScope s_take_says) := ⟨rfl, rfl, rfl, by decide +kernel, rfl, by decide +kernel, by decide +kernel⟩
theorem b_take_says {fd : FuncData} {f : Addr} (F : FunD K "take_says" "take_says" (defArgs (top 44)) (defBody (top 44)) (defScope (top 44)) [] [] f fd) : L2.Binds K fd ["line"] [] := F.bindsN fun _ _ _ _ _ _ us hl => match us, hl with | [_], _ => rfl
theorem nd_l_take_says_0 : (["here"] : List Str).Nodup := by decide +kernel
theorem tm_take_says (K : PySem.W.Frag) : (tabAt K (He.ga K (PySem.Str.ofString "take_says")), ((("take_says" : Str) ++ ".<locals>.") ++ "<lambda>" : Str)) ∈ T0 K := List.mem_of_getElem? (i := 3) rfl
theorem w_take_says (Φ : Fx K mg base) {A : Around} {outer : List PySem.Env} {s : Shared} {H : Hp} {E : XK} {f : Addr} (hr : Room 5 (A.deeper (PyProof.Rows.envOfC "take_says" (defScope (top 44)) s.heap.objs.size f (.ref (codeAt K (He.ga K (PySem.Str.ofString "take_says"))))))) :
    ESs (tn (T0 K)) [0] W0 (cxOf CX0 P w K mg base ["line", "word"] "take_says" (defScope (top 44)) f (.ref (codeAt K (He.ga K (PySem.Str.ofString "take_says")))) A outer s H E).nox (defBody (top 44)) b_take_says_ :=
  (ess_cons (es_set sc_take_says.nd (eo_askL (T0 := T0 K) (Nl := ["here"]) (fr := []) (js := []) (kl := 2) (gl := l_take_says_0) 0 rfl Φ.k_Line Φ.m_Line_take Φ.d_Line_take sc_Line_take (b_Line_take Φ.d_Line_take) (hr.mono (by decide)) (fun hr c => wt_Line_take Φ hr c) Φ.t_take_says rfl (tm_take_says K) Φ.tu_take_says rfl (by rfl) rfl (nscope_by (by decide +kernel)) (fun _ _ _ _ _ us hl => match us, hl with | [_], _ => rfl) (by decide) (by decide) (fun _ _ _ _ _ _ _ _ hr => (ed_orV (ed_cmp (o_eq hr.units) (ed_var 0) ed_str) (ed_one (ed_o (eo_call (ok_is_answer Φ) (hr.mono (by decide)) Φ.g_is_answer Φ.h_is_answer (b_is_answer Φ.d_is_answer) (eaio_cons (eo_d (ed_var 0)) eaio_nil)))))) (fun _ _ _ => phiOf_ok) (nok 0))) (ess_one (es_ret (eo_d (ed_if (et_cmp (o_eq hr.units) (ed_var 1) ed_str) ed_non (ed_var 1))))))
theorem ok_take_says (Φ : Fx K mg base) : FnOk P w K mg base CX0 6 (He.ga K (PySem.Str.ofString "take_says")) (fdOf K (He.ga K (PySem.Str.ofString "take_says"))) ["line"] (spD (tn (T0 K)) K 1 m_take_says) :=
  fn_okC Φ.d_take_says sc_take_says fun A outer s H E hr => w_take_says Φ hr

abbrev s_take_groups : Stmt := (top 45)
theorem sc_take_groups : FnScope ["line", "many", "found", "answer"] ["line", "many"] (defScope s_take_groups) := ⟨rfl, rfl, rfl, by decide +kernel, rfl, by decide +kernel, by decide +kernel⟩
theorem b_take_groups {fd : FuncData} {f : Addr} (F : FunD K "take_groups" "take_groups" (defArgs (top 45)) (defBody (top 45)) (defScope (top 45)) [] [] f fd) : L2.Binds K fd ["line", "many"] [] := F.bindsN fun _ _ _ _ _ _ us hl => match us, hl with | [_, _], _ => rfl
theorem nd_l_take_groups_0 : (["word", "found", "group"] : List Str).Nodup := by decide +kernel
theorem tm_take_groups (K : PySem.W.Frag) : (tabAt K (He.ga K (PySem.Str.ofString "take_groups")), ((("take_groups" : Str) ++ ".<locals>.") ++ "<lambda>" : Str)) ∈ T0 K := List.mem_of_getElem? (i := 4) rfl
theorem w_take_groups (Φ : Fx K mg base) {A : Around} {outer : List PySem.Env} {s : Shared} {H : Hp} {E : XK} {f : Addr} (hr : Room 7 (A.deeper (PyProof.Rows.envOfC "take_groups" (defScope (top 45)) s.heap.objs.size f (.ref (codeAt K (He.ga K (PySem.Str.ofString "take_groups"))))))) :
    ESs (tn (T0 K)) [0] W0 (cxOf CX0 P w K mg base ["line", "many", "found", "answer"] "take_groups" (defScope (top 45)) f (.ref (codeAt K (He.ga K (PySem.Str.ofString "take_groups")))) A outer s H E).nox (defBody (top 45)) b_take_groups_ :=
  (ess_cons (es_set sc_take_groups.nd (eo_lst ea_nil)) (ess_cons (es_while fuel PassesOwn.never (et_not (et_val (ed_o (eo_propio 0 Φ.k_Line Φ.p_Line_is_done (ok_Line_is_done Φ) (hr.mono (by decide)) (b_Line_is_done Φ.d_Line_is_done) (nok 0))))) (ess_cons (es_set sc_take_groups.nd (eo_askL (T0 := T0 K) (Nl := ["word", "found", "group"]) (fr := ["found"]) (js := [2]) (kl := 2) (gl := l_take_groups_0) 0 rfl Φ.k_Line Φ.m_Line_take Φ.d_Line_take sc_Line_take (b_Line_take Φ.d_Line_take) (hr.mono (by decide)) (fun hr c => wt_Line_take Φ hr c) Φ.t_take_groups rfl (tm_take_groups K) Φ.tu_take_groups rfl (by rfl) rfl (nscope_by (by decide +kernel)) (fun _ _ _ _ _ us hl => match us, hl with | [_], _ => rfl) (by decide) (by decide) (fun _ _ _ _ _ _ _ _ hr => (ed_andV (ed_o (eo_call (ok_is_answer Φ) (hr.mono (by decide)) Φ.g_is_answer Φ.h_is_answer (b_is_answer Φ.d_is_answer) (eaio_cons (eo_d (ed_var 0)) eaio_nil))) (ed_one (ed_cmp o_notIn (ed_var 0) (ed_o (eo_lc (own := [((PySem.Str.ofString "group"), 2)]) rfl nd_l_take_groups_0 (ei_seq (ed_var 1)) (blkOk_by (by rfl)) (fun _ _ _ _ _ => (eg_name nd_l_take_groups_0 (hio := nin (by rfl)))) (fun _ _ _ _ _ => ets_nil) (fun _ _ _ _ _ => (eo_d (ed_ix i_seq (ed_var 2) ed_int (fun _ _ => rfl)))))))))) (fun _ _ _ => phiOf_ok) (nok 0))) (ess_one (es_expr (eo_append 2 (nok 2) (eo_d (ed_tup (ead_cons (ed_var 3) (ead_cons (ed_o (eo_methio 0 Φ.k_Line Φ.m_Line_take_number (ok_Line_take_number Φ) (hr.mono (by decide)) (b_Line_take_number Φ.d_Line_take_number) (eaio_cons (eo_d ed_int) (eaio_cons (eo_d (ed_op o_sub (ed_var 1) ed_int)) eaio_nil)))) ead_nil))))))))) (ess_one (es_ret (eo_d (ed_callTy c_tuple Φ.f_tuple (by decide +kernel) (ead_cons (ed_var 2) ead_nil)))))))
theorem ok_take_groups (Φ : Fx K mg base) : FnOk P w K mg base CX0 8 (He.ga K (PySem.Str.ofString "take_groups")) (fdOf K (He.ga K (PySem.Str.ofString "take_groups"))) ["line", "many"] (spD (tn (T0 K)) K 2 m_take_groups) :=
  fn_okC Φ.d_take_groups sc_take_groups fun A outer s H E hr => w_take_groups Φ hr

abbrev s_take_control : Stmt := (top 46)
theorem sc_take_control : FnScope ["line", "letters", "outer", "many", "kind", "says", "found", "letter", "other"] ["line", "letters", "outer", "many"] (defScope s_take_control) := ⟨rfl, rfl, rfl, by decide +kernel, rfl, by decide +kernel, by decide +kernel⟩
theorem b_take_control {fd : FuncData} {f : Addr} (F : FunD K "take_control" "take_control" (defArgs (top 46)) (defBody (top 46)) (defScope (top 46)) [] [] f fd) : L2.Binds K fd ["line", "letters", "outer", "many"] [] := F.bindsN fun _ _ _ _ _ _ us hl => match us, hl with | [_, _, _, _], _ => rfl
theorem nd_l_take_control_0 : (["word"] : List Str).Nodup := by decide +kernel
theorem nd_l_take_control_1 : (["word", "letters"] : List Str).Nodup := by decide +kernel
theorem tm_take_control (K : PySem.W.Frag) : (tabAt K (He.ga K (PySem.Str.ofString "take_control")), ((("take_control" : Str) ++ ".<locals>.") ++ "<lambda>" : Str)) ∈ T0 K := List.mem_of_getElem? (i := 5) rfl
theorem w_take_control (Φ : Fx K mg base) {A : Around} {outer : List PySem.Env} {s : Shared} {H : Hp} {E : XK} {f : Addr} (hr : Room 8 (A.deeper (PyProof.Rows.envOfC "take_control" (defScope (top 46)) s.heap.objs.size f (.ref (codeAt K (He.ga K (PySem.Str.ofString "take_control"))))))) :
    ESs (tn (T0 K)) [0] W0 (cxOf CX0 P w K mg base ["line", "letters", "outer", "many", "kind", "says", "found", "letter", "other"] "take_control" (defScope (top 46)) f (.ref (codeAt K (He.ga K (PySem.Str.ofString "take_control")))) A outer s H E).nox (defBody (top 46)) b_take_control_ :=
  (ess_cons (es_set sc_take_control.nd (eo_askL (T0 := T0 K) (Nl := ["word"]) (fr := []) (js := []) (kl := 2) (gl := l_take_control_0) 0 rfl Φ.k_Line Φ.m_Line_take Φ.d_Line_take sc_Line_take (b_Line_take Φ.d_Line_take) (hr.mono (by decide)) (fun hr c => wt_Line_take Φ hr c) Φ.t_take_control rfl (tm_take_control K) Φ.tu_take_control rfl (by rfl) rfl (nscope_by (by decide +kernel)) (fun _ _ _ _ _ us hl => match us, hl with | [_], _ => rfl) (by decide) (by decide) (fun _ _ _ _ _ _ _ _ hr => (ed_cmp o_in (ed_var 0) (ed_tup (ead_cons ed_str (ead_cons ed_str (ead_cons ed_str ead_nil)))))) (fun _ _ _ => phiOf_ok) (nok 0))) (ess_cons (es_if (et_cmp (o_eq hr.units) (ed_var 4) ed_str) (ess_cons (es_set sc_take_control.nd (eo_call (ok_take_says Φ) (hr.mono (by decide)) Φ.g_take_says Φ.h_take_says (b_take_says Φ.d_take_says) (eaio_io 0 eaio_nil))) (ess_one (es_set sc_take_control.nd (eo_d (ed_tup (ead_cons ed_str (ead_cons (ed_var 5) (ead_cons (ed_callTy c_tuple Φ.f_tuple (by decide +kernel) (ead_cons (ed_o (eo_lc (own := [((PySem.Str.ofString "letter"), 7)]) rfl sc_take_control.nd (ei_seq (ed_var 2)) (blkOk_by (by rfl)) (fun _ _ _ _ _ => (eg_name sc_take_control.nd (hio := nin (by rfl)))) (fun _ _ _ _ _ => ets_nil) (fun _ _ _ _ _ => (eo_methio 0 Φ.k_Line Φ.m_Line_take_number (ok_Line_take_number Φ) (hr.mono (by decide)) (b_Line_take_number Φ.d_Line_take_number) (eaio_cons (eo_d ed_int) (eaio_cons (eo_d (ed_op o_sub (ed_var 3) ed_int)) eaio_nil)))))) ead_nil)) ead_nil)))))))) (ess_one (es_if (et_cmp (o_eq hr.units) (ed_var 4) ed_str) (ess_cons (es_set sc_take_control.nd (eo_askL (T0 := T0 K) (Nl := ["word", "letters"]) (fr := ["letters"]) (js := [1]) (kl := 2) (gl := l_take_control_1) 0 rfl Φ.k_Line Φ.m_Line_take Φ.d_Line_take sc_Line_take (b_Line_take Φ.d_Line_take) (hr.mono (by decide)) (fun hr c => wt_Line_take Φ hr c) Φ.t_take_control rfl (tm_take_control K) Φ.tu_take_control rfl (by rfl) rfl (nscope_by (by decide +kernel)) (fun _ _ _ _ _ us hl => match us, hl with | [_], _ => rfl) (by decide) (by decide) (fun _ _ _ _ _ _ _ _ hr => (ed_cmp o_in (ed_var 0) (ed_var 1))) (fun _ _ _ => phiOf_ok) (nok 0))) (ess_one (es_set sc_take_control.nd (eo_d (ed_tup (ead_cons ed_str (ead_cons (ed_var 7) (ead_cons (ed_o (eo_methio 0 Φ.k_Line Φ.m_Line_take_number (ok_Line_take_number Φ) (hr.mono (by decide)) (b_Line_take_number Φ.d_Line_take_number) (eaio_cons (eo_d ed_int) (eaio_cons (eo_d (ed_op o_sub (ed_var 3) ed_int)) eaio_nil)))) ead_nil)))))))) (ess_cons (es_set sc_take_control.nd (eo_methio 0 Φ.k_Line Φ.m_Line_take_number (ok_Line_take_number Φ) (hr.mono (by decide)) (b_Line_take_number Φ.d_Line_take_number) (eaio_cons (eo_d ed_int) (eaio_cons (eo_d (ed_op o_sub (ed_var 3) ed_int)) eaio_nil)))) (ess_one (es_set sc_take_control.nd (eo_d (ed_tup (ead_cons ed_str (ead_cons (ed_o (eo_call (ok_take_groups Φ) (hr.mono (by decide)) Φ.g_take_groups Φ.h_take_groups (b_take_groups Φ.d_take_groups) (eaio_io 0 (eaio_cons (eo_d (ed_var 3)) eaio_nil)))) (ead_cons (ed_var 8) ead_nil))))))))))) (ess_cons (es_expr (eo_methio0 0 Φ.k_Line Φ.m_Line_close (ok_Line_close Φ) (hr.mono (by decide)) (b_Line_close Φ.d_Line_close))) (ess_one (es_ret (eo_d (ed_var 6)))))))
theorem ok_take_control (Φ : Fx K mg base) : FnOk P w K mg base CX0 9 (He.ga K (PySem.Str.ofString "take_control")) (fdOf K (He.ga K (PySem.Str.ofString "take_control"))) ["line", "letters", "outer", "many"] (spD (tn (T0 K)) K 4 m_take_control) :=
  fn_okC Φ.d_take_control sc_take_control fun A outer s H E hr => w_take_control Φ hr

abbrev s_read_adapter : Stmt := (top 47)
theorem sc_read_adapter : FnScope ["text", "lines", "letters", "outer", "many", "controls", "k"] ["text"] (defScope s_read_adapter) := ⟨rfl, rfl, rfl, by decide +kernel, rfl, by decide +kernel, by decide +kernel⟩
theorem b_read_adapter {fd : FuncData} {f : Addr} (F : FunD K "read_adapter" "read_adapter" (defArgs (top 47)) (defBody (top 47)) (defScope (top 47)) [] [] f fd) : L2.Binds K fd ["text"] [] := F.bindsN fun _ _ _ _ _ _ us hl => match us, hl with | [_], _ => rfl
theorem w_read_adapter (Φ : Fx K mg base) {cdv : Value} {A : Around} {outer : List PySem.Env} {s : Shared} {H : Hp} {E : XK} {f : Addr} (hr : Room 9 (A.deeper (PyProof.Rows.envOfC "read_adapter" (defScope (top 47)) s.heap.objs.size f cdv))) :
    ESs (tn (T0 K)) [] W0 (cxOf CX0 P w K mg base ["text", "lines", "letters", "outer", "many", "controls", "k"] "read_adapter" (defScope (top 47)) f cdv A outer s H E).nox (defBody (top 47)) b_read_adapter_ :=
  (ess_cons (es_set sc_read_adapter.nd (eo_make Φ.mk_Lines (ok_Lines_init Φ) (hr.mono (by decide)) Φ.g_Lines (b_Lines_init Φ.d_Lines_init) (eaio_cons (eo_d (ed_var 0)) eaio_nil))) (ess_cons (es_set sc_read_adapter.nd (eo_call (ok_take_letters Φ) (hr.mono (by decide)) Φ.g_take_letters Φ.h_take_letters (b_take_letters Φ.d_take_letters) (eaio_cons (eo_methio0 1 Φ.k_Lines Φ.m_Lines_next_line (ok_Lines_next_line Φ) (hr.mono (by decide)) (b_Lines_next_line Φ.d_Lines_next_line)) (eaio_cons (eo_d ed_str) eaio_nil)))) (ess_cons (es_set sc_read_adapter.nd (eo_call (ok_take_letters Φ) (hr.mono (by decide)) Φ.g_take_letters Φ.h_take_letters (b_take_letters Φ.d_take_letters) (eaio_cons (eo_methio0 1 Φ.k_Lines Φ.m_Lines_next_line (ok_Lines_next_line Φ) (hr.mono (by decide)) (b_Lines_next_line Φ.d_Lines_next_line)) (eaio_cons (eo_d ed_str) eaio_nil)))) (ess_cons (es_set sc_read_adapter.nd (eo_call (ok_take_many Φ) (hr.mono (by decide)) Φ.g_take_many Φ.h_take_many (b_take_many Φ.d_take_many) (eaio_cons (eo_methio0 1 Φ.k_Lines Φ.m_Lines_next_line (ok_Lines_next_line Φ) (hr.mono (by decide)) (b_Lines_next_line Φ.d_Lines_next_line)) (eaio_cons (eo_d ed_str) (eaio_cons (eo_d Φ.c_MOST_CONTROLS_texts.ed) eaio_nil))))) (ess_cons (es_setLc (own := [((PySem.Str.ofString "k"), 6)]) rfl sc_read_adapter.nd rfl rfl (sw_true rfl rfl rfl (by decide +kernel)) (ei_range1 Φ.f_range (ead_cons (ed_var 4) ead_nil)) (blkOk_by (by rfl)) (by decide) (fun _ _ _ _ _ => (eg_name sc_read_adapter.nd (hio := nin (by rfl)))) (fun _ _ _ _ _ => ets_nil) (fun _ _ _ _ _ => (eo_call (ok_take_control Φ) (hr.mono (by decide)) Φ.g_take_control Φ.h_take_control (b_take_control Φ.d_take_control) (eaio_cons (eo_methio0 1 Φ.k_Lines Φ.m_Lines_next_line (ok_Lines_next_line Φ) (hr.mono (by decide)) (b_Lines_next_line Φ.d_Lines_next_line)) (eaio_cons (eo_d (ed_var 2)) (eaio_cons (eo_d (ed_var 3)) (eaio_cons (eo_d (ed_var 4)) eaio_nil))))))) (ess_cons (es_if (et_val (ed_o (eo_methio0 1 Φ.k_Lines Φ.m_Lines_is_left (ok_Lines_is_left Φ) (hr.mono (by decide)) (b_Lines_is_left Φ.d_Lines_is_left)))) (ess_one es_never) ess_nil) (ess_one (es_ret (eo_make Φ.mk_Adapter (ok_Adapter_init Φ) (hr.mono (by decide)) Φ.g_Adapter (b_Adapter_init Φ.d_Adapter_init) (eaio_cons (eo_d (ed_var 2)) (eaio_cons (eo_d (ed_var 3)) (eaio_cons (eo_d (ed_var 5)) eaio_nil))))))))))))
theorem ok_read_adapter (Φ : Fx K mg base) : FnOk P w K mg base CX0 10 (He.ga K (PySem.Str.ofString "read_adapter")) (fdOf K (He.ga K (PySem.Str.ofString "read_adapter"))) ["text"] (spD (tn (T0 K)) K 1 m_read_adapter) :=
  fn_ok Φ.d_read_adapter sc_read_adapter fun cdv A outer s H E hr => w_read_adapter Φ hr

abbrev s_Adapter_eq : Stmt := (mth 33 1)
theorem sc_Adapter_eq : FnScope ["self", "other"] ["self", "other"] (defScope s_Adapter_eq) := ⟨rfl, rfl, rfl, by decide +kernel, rfl, by decide +kernel, by decide +kernel⟩
theorem b_Adapter_eq {fd : FuncData} {f : Addr} (F : FunD K "__eq__" "Adapter.__eq__" (defArgs (mth 33 1)) (defBody (mth 33 1)) (defScope (mth 33 1)) [] [] f fd) : L2.Binds K fd ["self", "other"] [] := F.bindsN fun _ _ _ _ _ _ us hl => match us, hl with | [_, _], _ => rfl
theorem w_Adapter_eq (Φ : Fx K mg base) {cdv : Value} {A : Around} {outer : List PySem.Env} {s : Shared} {H : Hp} {E : XK} {f : Addr} (hr : Room 6 (A.deeper (PyProof.Rows.envOfC "Adapter.__eq__" (defScope (mth 33 1)) s.heap.objs.size f cdv))) :
    ESs T [] W0 (cxOf CX0 P w K mg base ["self", "other"] "Adapter.__eq__" (defScope (mth 33 1)) f cdv A outer s H E).nox (defBody (mth 33 1)) b_Adapter_eq_ :=
  (ess_cons (es_if (et_w (ew_or (et_not (et_val (ed_callB (c_isi Φ.i_Adapter) Φ.f_isinstance (by decide +kernel) (ead_cons (ed_var 1) (ead_cons (ed_gl Φ.g_Adapter) ead_nil))))) (ew_or1 (et_cmp (o_ne hr.units) (ed_attr Φ.l_letters (ed_var 0)) (ed_attr Φ.l_letters (ed_var 1)))))) (ess_one (es_ret (eo_d ed_bl))) ess_nil) (ess_one (es_ret (eo_d (ed_andV (ed_cmp (o_eq hr.units) (ed_attr Φ.l_outer (ed_var 0)) (ed_attr Φ.l_outer (ed_var 1))) (ed_one (ed_cmp (o_eq hr.units) (ed_attr Φ.l_controls (ed_var 0)) (ed_attr Φ.l_controls (ed_var 1)))))))))
theorem ok_Adapter_eq (Φ : Fx K mg base) : FnOk P w K mg base CX0 7 (He.ma K (He.ga K (PySem.Str.ofString "Adapter")) (PySem.Str.ofString "__eq__")) (fdOf K (He.ma K (He.ga K (PySem.Str.ofString "Adapter")) (PySem.Str.ofString "__eq__"))) ["self", "other"] (spD T K 2 m_Adapter_eq) :=
  fn_ok Φ.d_Adapter_eq sc_Adapter_eq fun cdv A outer s H E hr => w_Adapter_eq Φ hr

abbrev s_law : Stmt := (top 59)
theorem sc_law : FnScope ["_law_script", "_law_pen_here", "_law_turn", "_law_letters", "_law_outer", "_law_answers", "_law_many", "_law_controls_here", "_law_adapter", "_law_text"] ["_law_script"] (defScope s_law) := ⟨rfl, rfl, rfl, by decide +kernel, rfl, by decide +kernel, by decide +kernel⟩
theorem b_law {fd : FuncData} {f : Addr} (F : FunD K "law" "law" (defArgs (top 59)) (defBody (top 59)) (defScope (top 59)) [] [] f fd) : L2.Binds K fd ["_law_script"] [] := F.bindsN fun _ _ _ _ _ _ us hl => match us, hl with | [_], _ => rfl
theorem w_law (Φ : Fx K mg base) {cdv : Value} {A : Around} {outer : List PySem.Env} {s : Shared} {H : Hp} {E : XK} {f : Addr} (hr : Room 10 (A.deeper (PyProof.Rows.envOfC "law" (defScope (top 59)) s.heap.objs.size f cdv))) :
    ESs (tn (T0 K)) [] W0 (cxOf CX0 P w K mg base ["_law_script", "_law_pen_here", "_law_turn", "_law_letters", "_law_outer", "_law_answers", "_law_many", "_law_controls_here", "_law_adapter", "_law_text"] "law" (defScope (top 59)) f cdv A outer s H E).nox (defBody (top 59)) b_law_ :=
  (ess_cons (es_set sc_law.nd (eo_call (ok__law_pen Φ) (hr.mono (by decide)) Φ.g__law_pen Φ.h__law_pen (b__law_pen Φ.d__law_pen) (eaio_cons (eo_d (ed_var 0)) eaio_nil))) (ess_cons (es_for PassesOwn.never rfl (ei_range1 Φ.f_range (ead_cons ed_int ead_nil)) (eg_name sc_law.nd) (ess_cons (es_set sc_law.nd (eo_call (ok__law_words Φ) (hr.mono (by decide)) Φ.g__law_words Φ.h__law_words (b__law_words Φ.d__law_words) (eaio_ioL 1 (eaio_cons (eo_d (ed_op o_add ed_int (ed_o (eo_call (ok__law_draw Φ) (hr.mono (by decide)) Φ.g__law_draw Φ.h__law_draw (b__law_draw Φ.d__law_draw) (eaio_io 1 (eaio_cons (eo_d ed_int) eaio_nil)))))) (eaio_cons (eo_d ed_int) eaio_nil))))) (ess_cons (es_set sc_law.nd (eo_call (ok__law_words Φ) (hr.mono (by decide)) Φ.g__law_words Φ.h__law_words (b__law_words Φ.d__law_words) (eaio_ioL 1 (eaio_cons (eo_d (ed_op o_add ed_int (ed_o (eo_call (ok__law_draw Φ) (hr.mono (by decide)) Φ.g__law_draw Φ.h__law_draw (b__law_draw Φ.d__law_draw) (eaio_io 1 (eaio_cons (eo_d ed_int) eaio_nil)))))) (eaio_cons (eo_d ed_int) eaio_nil))))) (ess_cons (es_par rfl sc_law.nd rfl rfl (by decide) rfl rfl (ea_cons (eo_call (ok__law_said Φ) (hr.mono (by decide)) Φ.g__law_said Φ.h__law_said (b__law_said Φ.d__law_said) (eaio_io 1 (eaio_cons (eo_d ed_int) eaio_nil))) (ea_cons (eo_d (ed_if (et_cmp (o_eq hr.units) (ed_var 2) ed_int) ed_int (ed_op o_add ed_int (ed_o (eo_call (ok__law_draw Φ) (hr.mono (by decide)) Φ.g__law_draw Φ.h__law_draw (b__law_draw Φ.d__law_draw) (eaio_io 1 (eaio_cons (eo_d ed_int) eaio_nil))))))) ea_nil)) (by decide) (by decide) (by rfl)) (ess_cons (es_set sc_law.nd (eo_call (ok__law_controls Φ) (hr.mono (by decide)) Φ.g__law_controls Φ.h__law_controls (b__law_controls Φ.d__law_controls) (eaio_io 1 (eaio_cons (eo_d (ed_var 6)) (eaio_cons (eo_d (ed_var 3)) (eaio_cons (eo_d (ed_var 4)) (eaio_cons (eo_d (ed_var 5)) eaio_nil))))))) (ess_cons (es_par rfl sc_law.nd rfl rfl (by decide) rfl rfl (ea_cons (eo_make Φ.mk_Adapter (ok_Adapter_init Φ) (hr.mono (by decide)) Φ.g_Adapter (b_Adapter_init Φ.d_Adapter_init) (eaio_cons (eo_d (ed_var 3)) (eaio_cons (eo_d (ed_var 4)) (eaio_cons (eo_d (ed_var 7)) eaio_nil)))) (ea_cons (eo_call (ok__law_adapter_text Φ) (hr.mono (by decide)) Φ.g__law_adapter_text Φ.h__law_adapter_text (b__law_adapter_text Φ.d__law_adapter_text) (eaio_cons (eo_d (ed_var 3)) (eaio_cons (eo_d (ed_var 4)) (eaio_cons (eo_d (ed_var 7)) eaio_nil)))) ea_nil)) (by decide) (by decide) (by rfl)) (ess_cons (es_if (et_w (ew_or (et_cmp (o_ne hr.units) (ed_o (eo_call (ok_write_adapter Φ) (hr.mono (by decide)) Φ.g_write_adapter Φ.h_write_adapter (b_write_adapter Φ.d_write_adapter) (eaio_cons (eo_d (ed_var 8)) eaio_nil))) (ed_var 9)) (ew_or1 (et_cmpOwn Φ.ne_Adapter (ok_Adapter_eq Φ) (hr.mono (by decide)) (b_Adapter_eq Φ.d_Adapter_eq) (units1 hr) (ed_o (eo_call (ok_read_adapter Φ) (hr.mono (by decide)) Φ.g_read_adapter Φ.h_read_adapter (b_read_adapter Φ.d_read_adapter) (eaio_cons (eo_d (ed_var 9)) eaio_nil))) (ed_var 8))))) (ess_one (es_ret (eo_d ed_bl))) ess_nil) (ess_one (es_if (et_w (ew_or (et_cmp (o_ne hr.units) (ed_attr Φ.l_controls (ed_o (eo_call (ok_read_adapter Φ) (hr.mono (by decide)) Φ.g_read_adapter Φ.h_read_adapter (b_read_adapter Φ.d_read_adapter) (eaio_cons (eo_d (ed_var 9)) eaio_nil)))) (ed_callTy c_tuple Φ.f_tuple (by decide +kernel) (ead_cons (ed_var 7) ead_nil))) (ew_or1 (et_cmp (o_ne hr.units) (ed_o (eo_call (ok_write_adapter Φ) (hr.mono (by decide)) Φ.g_write_adapter Φ.h_write_adapter (b_write_adapter Φ.d_write_adapter) (eaio_cons (eo_call (ok_read_adapter Φ) (hr.mono (by decide)) Φ.g_read_adapter Φ.h_read_adapter (b_read_adapter Φ.d_read_adapter) (eaio_cons (eo_d (ed_var 9)) eaio_nil)) eaio_nil))) (ed_var 9))))) (ess_one (es_ret (eo_d ed_bl))) ess_nil))))))))) (ess_one (es_ret (eo_d ed_bl)))))
theorem ok_law (Φ : Fx K mg base) : FnOk P w K mg base CX0 11 (He.ga K (PySem.Str.ofString "law")) (fdOf K (He.ga K (PySem.Str.ofString "law"))) ["_law_script"] (spD (tn (T0 K)) K 1 m_law) :=
  fn_ok Φ.d_law sc_law fun cdv A outer s H E hr => w_law Φ hr
end
end G72

end
section
set_option Elab.async false
set_option linter.all false
set_option autoImplicit false
set_option maxRecDepth 100000
set_option maxHeartbeats 4000000
/-! The head: defs at any address, tables of the defs that make lambdas, one more Bool. -/
namespace DL
open PySem PySem.Spec PyProof.Rows L2 NdefX
abbrev AlH : Type := He.AlD × Bool
def tabsH (g : Addr → Option Obj) (tf : List (PySem.W.Frag → Addr)) (K : PySem.W.Frag) : Bool := tf.all fun p => PySem.W.codeHdIn K (codeAt K (p K)) (tabAt K (p K)) && (match g (tabAt K (p K)) with
  | some o => He.emptyTab o
  | none => false)
def obsH (n : Nat) (fa : List He.Fa) (fn : List He5.DefA) (tf : List (PySem.W.Frag → Addr)) (ex : PySem.W.Frag → Bool) (g : Addr → Option Obj) : AlH :=
  (He5.obsA fa fn (He.frT g (He5.asA g n)), ex (He.frT g (He5.asA g n)) && tabsH g tf (He.frT g (He5.asA g n)))
structure SaysH (fa : List He.Fa) (fn : List He5.DefA) (tf : List (PySem.W.Frag → Addr)) (ex : PySem.W.Frag → Bool) (h : Heap) (K : PySem.W.Frag) : Prop where
  a : He5.SaysA fa fn K
  more : ex K = true
  hd : ∀ p ∈ tf, PySem.W.codeHdIn K (codeAt K (p K)) (tabAt K (p K)) = true
  out : ∀ p ∈ tf, K.lookup (tabAt K (p K)) = none
  empty : ∀ p ∈ tf, h.get? (tabAt K (p K)) = some { cls := .none, data := .fields #[] }
section
variable {n : Nat} {fa : List He.Fa} {fn : List He5.DefA} {tf : List (PySem.W.Frag → Addr)} {ex : PySem.W.Frag → Bool}
theorem saysH_of {h : Heap} (e : obsH n fa fn tf ex h.get? = (He5.valA fn, true)) : SaysH fa fn tf ex h (He.frT h.get? (He5.asA h.get? n)) := by
  have e1 : He5.obsA fa fn (He.frT h.get? (He5.asA h.get? n)) = He5.valA fn := congrArg (fun z : AlH => z.1) e
  have e2 : (ex (He.frT h.get? (He5.asA h.get? n)) && tabsH h.get? tf (He.frT h.get? (He5.asA h.get? n))) = true := congrArg (fun z : AlH => z.2) e
  generalize eK : He.frT h.get? (He5.asA h.get? n) = K at e1 e2
  obtain ⟨h1, h2⟩ := He.ba e2
  have key : ∀ p ∈ tf, PySem.W.codeHdIn K (codeAt K (p K)) (tabAt K (p K)) = true ∧ ∃ o, h.get? (tabAt K (p K)) = some o ∧ He.emptyTab o = true := fun p hp => by
    obtain ⟨h3, h4⟩ := He.ba (List.all_eq_true.mp h2 p hp)
    refine ⟨h3, ?_⟩
    cases q : h.get? (tabAt K (p K)) with
    | none => rw [q] at h4; cases h4
    | some o => rw [q] at h4; exact ⟨o, rfl, h4⟩
  refine ⟨e1, h1, fun p hp => (key p hp).1, fun p hp => ?_, fun p hp => ?_⟩
  · obtain ⟨_, o, q, z⟩ := key p hp
    rw [← eK] at q ⊢
    exact He.frT_none q z
  · obtain ⟨_, o, q, z⟩ := key p hp
    rw [q, He.emptyTab_eq z]
def hookH (n : Nat) (fa : List He.Fa) (fn : List He5.DefA) (tf : List (PySem.W.Frag → Addr)) (ex : PySem.W.Frag → Bool) : PySem.W.Hook where
  α := AlH
  obs := fun s => obsH n fa fn tf ex s.heap.get?
  val := fun _ => (He5.valA fn, true)
  says := fun _ h => ∃ K : PySem.W.Frag, K.In h ∧ SaysH fa fn tf ex h K
  of := fun _ _ e => ⟨_, He.frT_in, saysH_of e⟩
  keeps := fun _ _ _ ⟨K, hK, c⟩ k => ⟨K, PySem.W.Frag.In.keeps hK k, ⟨c.a, c.more, c.hd, c.out, fun p hp => k _ _ (c.empty p hp)⟩⟩
theorem obsH_eq {g : Addr → Option Obj} {s : Shared} (h : ∀ a, g a = s.heap.get? a) : obsH n fa fn tf ex g = (hookH n fa fn tf ex).obs s := by
  have e : g = s.heap.get? := funext h
  rw [e] <;> rfl
end
/-! ### facts read off -/
section
variable {K : PySem.W.Frag} {mg : Str → Option Value} {h : Heap}
theorem fd_at {x qual : Str} {params : Arguments} {body : List Stmt} {scope : Scope} {dvs : List V} {kws : List (Str × V)} {f : Addr} (h : ∃ fd, FunD K x qual params body scope dvs kws f fd) : FunD K x qual params body scope dvs kws f (fdOf K f) := by
  obtain ⟨fd, F⟩ := h
  exact fdOf_eq F
theorem cg_int (X : K.In h) (G : h.Ns mainGlobals mg) {x : Str} {i : Int} (c : (He.Fa.int x i).ok K = true) : ConstG K mg x (.int i) := by
  obtain ⟨t, e⟩ := He.int_ok X G c
  exact ⟨.int i, _, e, ⟨t, rfl⟩, fun _ => .int i⟩
theorem cg_str (X : K.In h) (G : h.Ns mainGlobals mg) {x z : Str} (c : (He.Fa.str x z).ok K = true) : ConstG K mg x (.str z) := by
  obtain ⟨t, e⟩ := He.str_ok X G c
  exact ⟨.str z, _, e, ⟨t, rfl⟩, fun _ => .str z⟩
theorem isAll_strs {B : Hp} : ∀ l : List Str, IsAll K B ((l.map He.Dv.str).map (He.Dv.v K)) (l.map D.str)
  | [] => .nil
  | x :: l => .cons (.str x) (isAll_strs l)
/-- a constant that is a tuple of texts -/
theorem cg_tup (X : K.In h) (G : h.Ns mainGlobals mg) {x : Str} {l : List Str} (c : (He.Fa.glo x).ok K = true) (t : He.tupB K x (l.map He.Dv.str) = true) : ConstG K mg x (.tup (l.map D.str)) :=
  ⟨.ref (He.ga K x), _, He.glo_ok X G c, rfl, fun B => .tup (He.tupB_ok t B) (isAll_strs l)⟩
def propB (K : PySem.W.Frag) (C m : Str) : Bool := He.eqO (PySem.W.findIn K (.ref (He.ga K C)) m) (some (some (.ref (propOf K C m)))) && (He.eqO (PySem.W.specialIn K (.ref (propOf K C m)) "__get__") (some (some (.builtin "property.__get__"))) &&
  (decide (PySem.W.takesIn K (.ref (propOf K C m)) = some true) && (match PySem.W.recIn K (propOf K C m) "property" with
  | some (.ref _ :: _) => true
  | _ => false)))
theorem propB_ok {C m : Str} (c : propB K C m = true) : PropOf K (He.ga K C) m (propOf K C m) (getterOf K C m) := by
  obtain ⟨c1, c⟩ := He.ba c
  obtain ⟨c2, c⟩ := He.ba c
  obtain ⟨c3, c4⟩ := He.ba c
  refine ⟨He.eqO_ok c1, He.eqO_ok c2, of_decide_eq_true c3, ?_⟩
  unfold getterOf
  split at c4
  · rename_i g r e
    rw [e]; exact ⟨r, rfl⟩
  · cases c4
def neB (K : PySem.W.Frag) (C : Str) : Bool := decide (PySem.W.mroIn K (He.ga K C) (.type "object") = some true) && (He.eqO (PySem.W.findIn K (.ref (He.ga K C)) "__ne__") (some (some (.builtin "object.__ne__"))) &&
  (He.eqO (PySem.W.findIn K (.ref (He.ga K C)) "__eq__") (some (some (.ref (He.ma K (He.ga K C) "__eq__")))) && PySem.W.isFn K (.ref (He.ma K (He.ga K C) "__eq__"))))
theorem neB_ok {C : Str} (c : neB K C = true) : NeOf K (He.ga K C) (He.ma K (He.ga K C) "__eq__") := by
  obtain ⟨c1, c⟩ := He.ba c
  obtain ⟨c2, c⟩ := He.ba c
  obtain ⟨c3, c4⟩ := He.ba c
  exact ⟨of_decide_eq_true c1, He.eqO_ok c2, He.eqO_ok c3, c4⟩
def insB (K : PySem.W.Frag) (C : Str) : Bool := (He.Fa.cls C).ok K && (He.eqO (PySem.W.findIn K (.ref (He.ga K C)) "__class__") (some (some (.builtin "object.__class__"))) && (He.eqO (PySem.W.specialIn K (.builtin "object.__class__") "__get__") (some (some (.builtin "getset_descriptor.__get__"))) &&
  (decide (PySem.W.takesIn K (.builtin "object.__class__") = some true) && (decide (PySem.W.mroIn K (He.ga K C) (.type "object") = some true) && decide (PySem.W.kitOne K (.ref (He.ga K C)) (.ref (He.ga K C)) = some true)))))
theorem insB_ok {C : Str} (c : insB K C = true) : C8.InsC K (He.ga K C) := by
  obtain ⟨c1, c⟩ := He.ba c
  obtain ⟨c2, c⟩ := He.ba c
  obtain ⟨c3, c⟩ := He.ba c
  obtain ⟨c4, c⟩ := He.ba c
  obtain ⟨c5, c6⟩ := He.ba c
  exact ⟨He.cls_ok c1, He.eqO_ok c2, He.eqO_ok c3, of_decide_eq_true c4, of_decide_eq_true c5, of_decide_eq_true c6⟩
/-- the tables stand apart -/
def apartB (K : PySem.W.Frag) (T : List (Addr × Str)) : Bool := T.all fun p => T.all fun q => !decide (p.1 = q.1) || decide (p.2 = q.2)
theorem apartB_ok {T : List (Addr × Str)} (c : apartB K T = true) {q : Addr × Str} (hq : q ∈ T) : ∀ p ∈ T, p.1 = q.1 → p.2 = q.2 := fun p hp e => by
  have z := List.all_eq_true.mp (List.all_eq_true.mp c p hp) q hq
  rw [decide_eq_true e] at z
  simpa using z
theorem fldOk_one {C f : Str} (k : Cls K (He.ga K C)) (n : NoAttr K (He.ga K C) f) : FldOk K [C] f := fun c hc => by
  have e : c = C := by simpa using hc
  subst e; exact ⟨k, n⟩
end
/-! ### the end -/
section
variable {K : PySem.W.Frag} {H : Hp} {a : Addr} {ns : List Int} {T0 : List (Addr × Str)}
theorem isAll_ints {B : Hp} : ∀ l : List Int, IsAll K B (l.map V.int) (l.map D.int)
  | [] => .nil
  | x :: l => .cons (.int x) (isAll_ints l)
theorem tabsN_start (h : ∀ p ∈ T0, H p.1 = some (.tbl #[])) : TabsN (tn T0) H := fun p hp => by
  unfold tn at hp
  obtain ⟨q, hq, rfl⟩ := List.mem_map.mp hp
  exact ⟨#[], h q hq, (by trivial), fun pos cv e => by cases e⟩
/-- the law's promise from its mirror's answer -/
theorem sp_law {T : List NTab} {f : M Sl} (hT : TabsN T H) (hS : SqL K H a (ns.map V.int)) (h : ∃ ρ', f [some (.d (.sq (ns.map .int)))] = .ok (.d (.bl true)) ρ') : spD T K 1 f [.ref a] H (fun v _ => v = .bl true) fun _ _ _ => False := by
  obtain ⟨ρ', e⟩ := h
  have core : ∀ B : Hp, Ex B H → NoT B → SqL K B a (ns.map V.int) → spD T K 1 f [.ref a] H (fun v _ => v = .bl true) fun _ _ _ => False := fun B ex nt sq => by
    refine ⟨rfl, [some (.d (.sq (ns.map .int)))], B, fun _ => [], ⟨ex, hT, nt, fun i s q => ?_, fun _ _ => rfl, fun _ _ _ _ z => (by cases z), fun _ _ z => (by cases z)⟩, ?_⟩
    · cases i with
      | zero =>
        have es : s = .d (.sq (ns.map .int)) := by simpa using q.symm
        subst es
        exact ⟨.ref a, rfl, .d (.sq sq (isAll_ints ns))⟩
      | succ i => simp at q
    · rw [e]
      intro v H' B' Fs' Fr s i o st
      cases i with
      | d i => cases i; rfl
  rcases hS with hS | hS
  · refine core (fun b => if b = a then H b else none) (fun b o z => ?_) (fun b ps z => ?_) (.inl ?_)
    · dsimp only at z
      by_cases hb : b = a
      · rw [if_pos hb] at z; exact z
      · rw [if_neg hb] at z; cases z
    · dsimp only at z
      by_cases hb : b = a
      · rw [if_pos hb] at z
        rw [hb] at z
        rcases hS with hS | ⟨o, hS⟩ <;> rw [hS] at z <;> cases z
      · rw [if_neg hb] at z; cases z
    · rcases hS with hS | ⟨o, hS⟩
      · exact .inl ((if_pos rfl).trans hS)
      · exact .inr ⟨o, (if_pos rfl).trans hS⟩
  · exact core (fun _ => none) (fun b o z => by cases z) (fun b ps z => by cases z) (.inr hS)
end
end DL

end
section
set_option Elab.async false
set_option linter.all false
set_option maxRecDepth 100000
set_option maxHeartbeats 0
namespace G72
open PySem PySem.Spec PyProof.Rows L2 NdefX DL
def hfn : List He5.DefA := [
  ⟨fun K => (He.ga K (PySem.Str.ofString "_law_pen")), "_law_pen", "_law_pen", defArgs (top 51), defBody (top 51), defScope (top 51), [], []⟩,
  ⟨fun K => (He.ga K (PySem.Str.ofString "_law_draw")), "_law_draw", "_law_draw", defArgs (top 52), defBody (top 52), defScope (top 52), [], []⟩,
  ⟨fun K => (He.ga K (PySem.Str.ofString "_law_pick")), "_law_pick", "_law_pick", defArgs (top 53), defBody (top 53), defScope (top 53), [], []⟩,
  ⟨fun K => (He.ga K (PySem.Str.ofString "_law_shuffled")), "_law_shuffled", "_law_shuffled", defArgs (top 54), defBody (top 54), defScope (top 54), [], []⟩,
  ⟨fun K => (He.ga K (PySem.Str.ofString "_law_words")), "_law_words", "_law_words", defArgs (top 55), defBody (top 55), defScope (top 55), [], []⟩,
  ⟨fun K => (He.ga K (PySem.Str.ofString "_law_controls")), "_law_controls", "_law_controls", defArgs (top 56), defBody (top 56), defScope (top 56), [], []⟩,
  ⟨fun K => (He.ga K (PySem.Str.ofString "_law_said")), "_law_said", "_law_said", defArgs (top 57), defBody (top 57), defScope (top 57), [], []⟩,
  ⟨fun K => (He.ga K (PySem.Str.ofString "is_word")), "is_word", "is_word", defArgs (top 9), defBody (top 9), defScope (top 9), [], []⟩,
  ⟨fun K => (He.ga K (PySem.Str.ofString "wrong_word")), "wrong_word", "wrong_word", defArgs (top 12), defBody (top 12), defScope (top 12), [], []⟩,
  ⟨fun K => (He.ga K (PySem.Str.ofString "check_letters")), "check_letters", "check_letters", defArgs (top 23), defBody (top 23), defScope (top 23), [], []⟩,
  ⟨fun K => (He.ga K (PySem.Str.ofString "check_outer")), "check_outer", "check_outer", defArgs (top 27), defBody (top 27), defScope (top 27), [], []⟩,
  ⟨fun K => (He.ga K (PySem.Str.ofString "targets")), "targets", "targets", defArgs (top 31), defBody (top 31), defScope (top 31), [], []⟩,
  ⟨fun K => (He.ga K (PySem.Str.ofString "on_ring")), "on_ring", "on_ring", defArgs (top 32), defBody (top 32), defScope (top 32), [], []⟩,
  ⟨fun K => (He.ga K (PySem.Str.ofString "is_row")), "is_row", "is_row", defArgs (top 11), defBody (top 11), defScope (top 11), [], []⟩,
  ⟨fun K => (He.ga K (PySem.Str.ofString "is_answer")), "is_answer", "is_answer", defArgs (top 10), defBody (top 10), defScope (top 10), [], []⟩,
  ⟨fun K => (He.ga K (PySem.Str.ofString "is_integer")), "is_integer", "is_integer", defArgs (top 6), defBody (top 6), defScope (top 6), [], []⟩,
  ⟨fun K => (He.ga K (PySem.Str.ofString "is_number_checks")), "is_number", "is_number", defArgs (top 7), defBody (top 7), defScope (top 7), [], []⟩,
  ⟨fun K => (He.ga K (PySem.Str.ofString "is_groups")), "is_groups", "is_groups", defArgs (top 28), defBody (top 28), defScope (top 28), [], []⟩,
  ⟨fun K => (He.ga K (PySem.Str.ofString "is_control")), "is_control", "is_control", defArgs (top 29), defBody (top 29), defScope (top 29), [], []⟩,
  ⟨fun K => (He.ga K (PySem.Str.ofString "as_told")), "as_told", "as_told", defArgs (top 30), defBody (top 30), defScope (top 30), [], []⟩,
  ⟨fun K => (He.ma K (He.ga K (PySem.Str.ofString "Adapter")) (PySem.Str.ofString "__init__")), "__init__", "Adapter.__init__", defArgs (mth 33 0), defBody (mth 33 0), defScope (mth 33 0), [], []⟩,
  ⟨fun K => (He.ga K (PySem.Str.ofString "_law_adapter_text")), "_law_adapter_text", "_law_adapter_text", defArgs (top 58), defBody (top 58), defScope (top 58), [], []⟩,
  ⟨fun K => (He.ga K (PySem.Str.ofString "control_words")), "control_words", "control_words", defArgs (top 48), defBody (top 48), defScope (top 48), [], []⟩,
  ⟨fun K => (He.ga K (PySem.Str.ofString "write_adapter")), "write_adapter", "write_adapter", defArgs (top 49), defBody (top 49), defScope (top 49), [], []⟩,
  ⟨fun K => (He.ma K (He.ga K (PySem.Str.ofString "Lines")) (PySem.Str.ofString "__init__")), "__init__", "Lines.__init__", defArgs (mth 39 0), defBody (mth 39 0), defScope (mth 39 0), [], []⟩,
  ⟨fun K => (getterOf K (PySem.Str.ofString "Line") (PySem.Str.ofString "is_done")), "is_done", "Line.is_done", defArgs (mth 38 1), defBody (mth 38 1), defScope (mth 38 1), [], []⟩,
  ⟨fun K => (He.ma K (He.ga K (PySem.Str.ofString "Line")) (PySem.Str.ofString "take")), "take", "Line.take", defArgs (mth 38 2), defBody (mth 38 2), defScope (mth 38 2), [], []⟩,
  ⟨fun K => (He.ma K (He.ga K (PySem.Str.ofString "Line")) (PySem.Str.ofString "take_head")), "take_head", "Line.take_head", defArgs (mth 38 3), defBody (mth 38 3), defScope (mth 38 3), [], []⟩,
  ⟨fun K => (He.ga K (PySem.Str.ofString "take_letters")), "take_letters", "take_letters", defArgs (top 42), defBody (top 42), defScope (top 42), [], []⟩,
  ⟨fun K => (He.ga K (PySem.Str.ofString "is_number_texts")), "is_number", "is_number", defArgs (top 40), defBody (top 40), defScope (top 40), [], []⟩,
  ⟨fun K => (He.ma K (He.ga K (PySem.Str.ofString "Line")) (PySem.Str.ofString "take_number")), "take_number", "Line.take_number", defArgs (mth 38 4), defBody (mth 38 4), defScope (mth 38 4), [], []⟩,
  ⟨fun K => (He.ma K (He.ga K (PySem.Str.ofString "Line")) (PySem.Str.ofString "close")), "close", "Line.close", defArgs (mth 38 5), defBody (mth 38 5), defScope (mth 38 5), [], []⟩,
  ⟨fun K => (He.ga K (PySem.Str.ofString "take_many")), "take_many", "take_many", defArgs (top 43), defBody (top 43), defScope (top 43), [], []⟩,
  ⟨fun K => (He.ma K (He.ga K (PySem.Str.ofString "Lines")) (PySem.Str.ofString "is_left")), "is_left", "Lines.is_left", defArgs (mth 39 2), defBody (mth 39 2), defScope (mth 39 2), [], []⟩,
  ⟨fun K => (He.ma K (He.ga K (PySem.Str.ofString "Line")) (PySem.Str.ofString "__init__")), "__init__", "Line.__init__", defArgs (mth 38 0), defBody (mth 38 0), defScope (mth 38 0), [], []⟩,
  ⟨fun K => (He.ma K (He.ga K (PySem.Str.ofString "Lines")) (PySem.Str.ofString "next_line")), "next_line", "Lines.next_line", defArgs (mth 39 1), defBody (mth 39 1), defScope (mth 39 1), [], []⟩,
  ⟨fun K => (He.ga K (PySem.Str.ofString "take_says")), "take_says", "take_says", defArgs (top 44), defBody (top 44), defScope (top 44), [], []⟩,
  ⟨fun K => (He.ga K (PySem.Str.ofString "take_groups")), "take_groups", "take_groups", defArgs (top 45), defBody (top 45), defScope (top 45), [], []⟩,
  ⟨fun K => (He.ga K (PySem.Str.ofString "take_control")), "take_control", "take_control", defArgs (top 46), defBody (top 46), defScope (top 46), [], []⟩,
  ⟨fun K => (He.ga K (PySem.Str.ofString "read_adapter")), "read_adapter", "read_adapter", defArgs (top 47), defBody (top 47), defScope (top 47), [], []⟩,
  ⟨fun K => (He.ma K (He.ga K (PySem.Str.ofString "Adapter")) (PySem.Str.ofString "__eq__")), "__eq__", "Adapter.__eq__", defArgs (mth 33 1), defBody (mth 33 1), defScope (mth 33 1), [], []⟩,
  ⟨fun K => (He.ga K (PySem.Str.ofString "law")), "law", "law", defArgs (top 59), defBody (top 59), defScope (top 59), [], []⟩]
def hfa : List He.Fa := [.glo "Adapter", .glo "Line", .glo "Lines", .glo "_law_adapter_text", .glo "_law_controls", .glo "_law_draw", .glo "_law_pen", .glo "_law_pick", .glo "_law_said", .glo "_law_shuffled", .glo "_law_words", .glo "as_told", .glo "check_letters", .glo "check_outer", .glo "control_words", .glo "is_answer", .glo "is_control", .glo "is_groups", .glo "is_integer", .glo "is_number_checks", .glo "is_number_texts", .glo "is_row", .glo "is_word", .glo "on_ring", .glo "read_adapter", .glo "take_control", .glo "take_groups", .glo "take_letters", .glo "take_many", .glo "take_says", .glo "targets", .glo "write_adapter", .glo "wrong_word", .mkr "Adapter", .mkr "Lines", .meth "Line" "take", .meth "Line" "take_head", .meth "Line" "take_number", .meth "Line" "close", .meth "Lines" "is_left", .mkr "Line", .meth "Lines" "next_line", .cls "Adapter", .cls "Line", .cls "Lines", .str "DIGITS" (PySem.Str.ofString "0123456789"), .int "MOST_CONTROLS_adapters" 24, .int "MOST_CONTROLS_texts" 24, .int "MOST_LETTERS_checks" 8, .int "MOST_LETTERS_shapes" 3, .int "MOST_LETTERS_texts" 3, .int "MOST_OUTER" 3, .int "MOST_SIGNS" 12, .str "SIGNS" (PySem.Str.ofString "abcdefghijklmnopqrstuvwxyz0123456789"), .str "SMALL" (PySem.Str.ofString "abcdefghijklmnopqrstuvwxyz"), .noat "Line" "at", .noat "Adapter" "controls", .noat "Lines" "done", .noat "Adapter" "letters", .noat "Line" "number", .noat "Adapter" "outer", .noat "Lines" "rows", .noat "Line" "words", .free "abs", .free "all", .free "bool", .free "enumerate", .free "int", .free "isinstance", .free "len", .free "list", .free "range", .free "set", .free "str", .free "tuple", .glo "law"]
def htf : List (PySem.W.Frag → Addr) := [fun K => (He.ma K (He.ga K (PySem.Str.ofString "Line")) (PySem.Str.ofString "take_head")), fun K => (He.ga K (PySem.Str.ofString "take_letters")), fun K => (He.ma K (He.ga K (PySem.Str.ofString "Line")) (PySem.Str.ofString "take_number")), fun K => (He.ga K (PySem.Str.ofString "take_says")), fun K => (He.ga K (PySem.Str.ofString "take_groups")), fun K => (He.ga K (PySem.Str.ofString "take_control"))]
def hexs (K : PySem.W.Frag) : List Bool := [apartB K (T0 K), propB K "Line" "is_done", neB K "Adapter", insB K "Adapter"]
def hex (K : PySem.W.Frag) : Bool := (hexs K).all id
theorem ex_at {h : Heap} {K : PySem.W.Frag} {b : Bool} (i : Nat) (c : SaysH hfa hfn htf hex h K) (e : (hexs K)[i]? = some b := by rfl) : b = true := List.all_eq_true.mp c.more b (List.mem_of_getElem? e)
def hcs (K : PySem.W.Frag) : List (Addr × Addr) := [(codeAt K (He.ma K (He.ga K (PySem.Str.ofString "Line")) (PySem.Str.ofString "take_head")), tabAt K (He.ma K (He.ga K (PySem.Str.ofString "Line")) (PySem.Str.ofString "take_head"))), (codeAt K (He.ga K (PySem.Str.ofString "take_letters")), tabAt K (He.ga K (PySem.Str.ofString "take_letters"))), (codeAt K (He.ma K (He.ga K (PySem.Str.ofString "Line")) (PySem.Str.ofString "take_number")), tabAt K (He.ma K (He.ga K (PySem.Str.ofString "Line")) (PySem.Str.ofString "take_number"))), (codeAt K (He.ga K (PySem.Str.ofString "take_says")), tabAt K (He.ga K (PySem.Str.ofString "take_says"))), (codeAt K (He.ga K (PySem.Str.ofString "take_groups")), tabAt K (He.ga K (PySem.Str.ofString "take_groups"))), (codeAt K (He.ga K (PySem.Str.ofString "take_control")), tabAt K (He.ga K (PySem.Str.ofString "take_control")))]
theorem hfacts {h base : Heap} {K : PySem.W.Frag} {mg : Str → Option Value} (X : K.In base) (G : base.Ns mainGlobals mg) (c : SaysH hfa hfn htf hex h K) (TB : ∀ p ∈ hcs K, LamX.TabB base mg p.1 p.2) : Fx K mg base where
  t_Line_take_head := TB _ (List.mem_of_getElem? (i := 0) rfl)
  tu_Line_take_head := apartB_ok (q := (tabAt K (He.ma K (He.ga K (PySem.Str.ofString "Line")) (PySem.Str.ofString "take_head")), ((("Line.take_head" : Str) ++ ".<locals>.") ++ "<lambda>" : Str))) (ex_at 0 c) (List.mem_of_getElem? (i := 0) rfl)
  t_take_letters := TB _ (List.mem_of_getElem? (i := 1) rfl)
  tu_take_letters := apartB_ok (q := (tabAt K (He.ga K (PySem.Str.ofString "take_letters")), ((("take_letters" : Str) ++ ".<locals>.") ++ "<lambda>" : Str))) (ex_at 0 c) (List.mem_of_getElem? (i := 1) rfl)
  t_Line_take_number := TB _ (List.mem_of_getElem? (i := 2) rfl)
  tu_Line_take_number := apartB_ok (q := (tabAt K (He.ma K (He.ga K (PySem.Str.ofString "Line")) (PySem.Str.ofString "take_number")), ((("Line.take_number" : Str) ++ ".<locals>.") ++ "<lambda>" : Str))) (ex_at 0 c) (List.mem_of_getElem? (i := 2) rfl)
  t_take_says := TB _ (List.mem_of_getElem? (i := 3) rfl)
  tu_take_says := apartB_ok (q := (tabAt K (He.ga K (PySem.Str.ofString "take_says")), ((("take_says" : Str) ++ ".<locals>.") ++ "<lambda>" : Str))) (ex_at 0 c) (List.mem_of_getElem? (i := 3) rfl)
  t_take_groups := TB _ (List.mem_of_getElem? (i := 4) rfl)
  tu_take_groups := apartB_ok (q := (tabAt K (He.ga K (PySem.Str.ofString "take_groups")), ((("take_groups" : Str) ++ ".<locals>.") ++ "<lambda>" : Str))) (ex_at 0 c) (List.mem_of_getElem? (i := 4) rfl)
  t_take_control := TB _ (List.mem_of_getElem? (i := 5) rfl)
  tu_take_control := apartB_ok (q := (tabAt K (He.ga K (PySem.Str.ofString "take_control")), ((("take_control" : Str) ++ ".<locals>.") ++ "<lambda>" : Str))) (ex_at 0 c) (List.mem_of_getElem? (i := 5) rfl)
  g_Adapter := He.glo_ok X G (c.a.fact 0 rfl)
  g_Line := He.glo_ok X G (c.a.fact 1 rfl)
  g_Lines := He.glo_ok X G (c.a.fact 2 rfl)
  g__law_adapter_text := He.glo_ok X G (c.a.fact 3 rfl)
  g__law_controls := He.glo_ok X G (c.a.fact 4 rfl)
  g__law_draw := He.glo_ok X G (c.a.fact 5 rfl)
  g__law_pen := He.glo_ok X G (c.a.fact 6 rfl)
  g__law_pick := He.glo_ok X G (c.a.fact 7 rfl)
  g__law_said := He.glo_ok X G (c.a.fact 8 rfl)
  g__law_shuffled := He.glo_ok X G (c.a.fact 9 rfl)
  g__law_words := He.glo_ok X G (c.a.fact 10 rfl)
  g_as_told := He.glo_ok X G (c.a.fact 11 rfl)
  g_check_letters := He.glo_ok X G (c.a.fact 12 rfl)
  g_check_outer := He.glo_ok X G (c.a.fact 13 rfl)
  g_control_words := He.glo_ok X G (c.a.fact 14 rfl)
  g_is_answer := He.glo_ok X G (c.a.fact 15 rfl)
  g_is_control := He.glo_ok X G (c.a.fact 16 rfl)
  g_is_groups := He.glo_ok X G (c.a.fact 17 rfl)
  g_is_integer := He.glo_ok X G (c.a.fact 18 rfl)
  g_is_number_checks := He.glo_ok X G (c.a.fact 19 rfl)
  g_is_number_texts := He.glo_ok X G (c.a.fact 20 rfl)
  g_is_row := He.glo_ok X G (c.a.fact 21 rfl)
  g_is_word := He.glo_ok X G (c.a.fact 22 rfl)
  g_on_ring := He.glo_ok X G (c.a.fact 23 rfl)
  g_read_adapter := He.glo_ok X G (c.a.fact 24 rfl)
  g_take_control := He.glo_ok X G (c.a.fact 25 rfl)
  g_take_groups := He.glo_ok X G (c.a.fact 26 rfl)
  g_take_letters := He.glo_ok X G (c.a.fact 27 rfl)
  g_take_many := He.glo_ok X G (c.a.fact 28 rfl)
  g_take_says := He.glo_ok X G (c.a.fact 29 rfl)
  g_targets := He.glo_ok X G (c.a.fact 30 rfl)
  g_write_adapter := He.glo_ok X G (c.a.fact 31 rfl)
  g_wrong_word := He.glo_ok X G (c.a.fact 32 rfl)
  h__law_pen := (fd_at (c.a.def_ 0 rfl)).kp
  d__law_pen := fd_at (c.a.def_ 0 rfl)
  h__law_draw := (fd_at (c.a.def_ 1 rfl)).kp
  d__law_draw := fd_at (c.a.def_ 1 rfl)
  h__law_pick := (fd_at (c.a.def_ 2 rfl)).kp
  d__law_pick := fd_at (c.a.def_ 2 rfl)
  h__law_shuffled := (fd_at (c.a.def_ 3 rfl)).kp
  d__law_shuffled := fd_at (c.a.def_ 3 rfl)
  h__law_words := (fd_at (c.a.def_ 4 rfl)).kp
  d__law_words := fd_at (c.a.def_ 4 rfl)
  h__law_controls := (fd_at (c.a.def_ 5 rfl)).kp
  d__law_controls := fd_at (c.a.def_ 5 rfl)
  h__law_said := (fd_at (c.a.def_ 6 rfl)).kp
  d__law_said := fd_at (c.a.def_ 6 rfl)
  h_is_word := (fd_at (c.a.def_ 7 rfl)).kp
  d_is_word := fd_at (c.a.def_ 7 rfl)
  h_wrong_word := (fd_at (c.a.def_ 8 rfl)).kp
  d_wrong_word := fd_at (c.a.def_ 8 rfl)
  h_check_letters := (fd_at (c.a.def_ 9 rfl)).kp
  d_check_letters := fd_at (c.a.def_ 9 rfl)
  h_check_outer := (fd_at (c.a.def_ 10 rfl)).kp
  d_check_outer := fd_at (c.a.def_ 10 rfl)
  h_targets := (fd_at (c.a.def_ 11 rfl)).kp
  d_targets := fd_at (c.a.def_ 11 rfl)
  h_on_ring := (fd_at (c.a.def_ 12 rfl)).kp
  d_on_ring := fd_at (c.a.def_ 12 rfl)
  h_is_row := (fd_at (c.a.def_ 13 rfl)).kp
  d_is_row := fd_at (c.a.def_ 13 rfl)
  h_is_answer := (fd_at (c.a.def_ 14 rfl)).kp
  d_is_answer := fd_at (c.a.def_ 14 rfl)
  h_is_integer := (fd_at (c.a.def_ 15 rfl)).kp
  d_is_integer := fd_at (c.a.def_ 15 rfl)
  h_is_number_checks := (fd_at (c.a.def_ 16 rfl)).kp
  d_is_number_checks := fd_at (c.a.def_ 16 rfl)
  h_is_groups := (fd_at (c.a.def_ 17 rfl)).kp
  d_is_groups := fd_at (c.a.def_ 17 rfl)
  h_is_control := (fd_at (c.a.def_ 18 rfl)).kp
  d_is_control := fd_at (c.a.def_ 18 rfl)
  h_as_told := (fd_at (c.a.def_ 19 rfl)).kp
  d_as_told := fd_at (c.a.def_ 19 rfl)
  d_Adapter_init := fd_at (c.a.def_ 20 rfl)
  mk_Adapter := He.mkr_ok (c.a.fact 33 rfl)
  h__law_adapter_text := (fd_at (c.a.def_ 21 rfl)).kp
  d__law_adapter_text := fd_at (c.a.def_ 21 rfl)
  h_control_words := (fd_at (c.a.def_ 22 rfl)).kp
  d_control_words := fd_at (c.a.def_ 22 rfl)
  h_write_adapter := (fd_at (c.a.def_ 23 rfl)).kp
  d_write_adapter := fd_at (c.a.def_ 23 rfl)
  d_Lines_init := fd_at (c.a.def_ 24 rfl)
  mk_Lines := He.mkr_ok (c.a.fact 34 rfl)
  d_Line_is_done := fd_at (c.a.def_ 25 rfl)
  p_Line_is_done := propB_ok (ex_at 1 c)
  d_Line_take := fd_at (c.a.def_ 26 rfl)
  m_Line_take := He.meth_ok (c.a.fact 35 rfl)
  d_Line_take_head := fd_at (c.a.def_ 27 rfl)
  m_Line_take_head := He.meth_ok (c.a.fact 36 rfl)
  h_take_letters := (fd_at (c.a.def_ 28 rfl)).kp
  d_take_letters := fd_at (c.a.def_ 28 rfl)
  h_is_number_texts := (fd_at (c.a.def_ 29 rfl)).kp
  d_is_number_texts := fd_at (c.a.def_ 29 rfl)
  d_Line_take_number := fd_at (c.a.def_ 30 rfl)
  m_Line_take_number := He.meth_ok (c.a.fact 37 rfl)
  d_Line_close := fd_at (c.a.def_ 31 rfl)
  m_Line_close := He.meth_ok (c.a.fact 38 rfl)
  h_take_many := (fd_at (c.a.def_ 32 rfl)).kp
  d_take_many := fd_at (c.a.def_ 32 rfl)
  d_Lines_is_left := fd_at (c.a.def_ 33 rfl)
  m_Lines_is_left := He.meth_ok (c.a.fact 39 rfl)
  d_Line_init := fd_at (c.a.def_ 34 rfl)
  mk_Line := He.mkr_ok (c.a.fact 40 rfl)
  d_Lines_next_line := fd_at (c.a.def_ 35 rfl)
  m_Lines_next_line := He.meth_ok (c.a.fact 41 rfl)
  h_take_says := (fd_at (c.a.def_ 36 rfl)).kp
  d_take_says := fd_at (c.a.def_ 36 rfl)
  h_take_groups := (fd_at (c.a.def_ 37 rfl)).kp
  d_take_groups := fd_at (c.a.def_ 37 rfl)
  h_take_control := (fd_at (c.a.def_ 38 rfl)).kp
  d_take_control := fd_at (c.a.def_ 38 rfl)
  h_read_adapter := (fd_at (c.a.def_ 39 rfl)).kp
  d_read_adapter := fd_at (c.a.def_ 39 rfl)
  d_Adapter_eq := fd_at (c.a.def_ 40 rfl)
  ne_Adapter := neB_ok (ex_at 2 c)
  i_Adapter := fun c0 hc0 => (List.mem_singleton.mp hc0) ▸ insB_ok (ex_at 3 c)
  h_law := (fd_at (c.a.def_ 41 rfl)).kp
  d_law := fd_at (c.a.def_ 41 rfl)
  k_Adapter := He.cls_ok (c.a.fact 42 rfl)
  k_Line := He.cls_ok (c.a.fact 43 rfl)
  k_Lines := He.cls_ok (c.a.fact 44 rfl)
  c_DIGITS := cg_str X G (c.a.fact 45 rfl)
  c_MOST_CONTROLS_adapters := cg_int X G (c.a.fact 46 rfl)
  c_MOST_CONTROLS_texts := cg_int X G (c.a.fact 47 rfl)
  c_MOST_LETTERS_checks := cg_int X G (c.a.fact 48 rfl)
  c_MOST_LETTERS_shapes := cg_int X G (c.a.fact 49 rfl)
  c_MOST_LETTERS_texts := cg_int X G (c.a.fact 50 rfl)
  c_MOST_OUTER := cg_int X G (c.a.fact 51 rfl)
  c_MOST_SIGNS := cg_int X G (c.a.fact 52 rfl)
  c_SIGNS := cg_str X G (c.a.fact 53 rfl)
  c_SMALL := cg_str X G (c.a.fact 54 rfl)
  l_at := fldOk_one (He.cls_ok (c.a.fact 43 rfl)) (He.noat_ok (c.a.fact 55 rfl))
  l_controls := fldOk_one (He.cls_ok (c.a.fact 42 rfl)) (He.noat_ok (c.a.fact 56 rfl))
  l_done := fldOk_one (He.cls_ok (c.a.fact 44 rfl)) (He.noat_ok (c.a.fact 57 rfl))
  l_letters := fldOk_one (He.cls_ok (c.a.fact 42 rfl)) (He.noat_ok (c.a.fact 58 rfl))
  l_number := fldOk_one (He.cls_ok (c.a.fact 43 rfl)) (He.noat_ok (c.a.fact 59 rfl))
  l_outer := fldOk_one (He.cls_ok (c.a.fact 42 rfl)) (He.noat_ok (c.a.fact 60 rfl))
  l_rows := fldOk_one (He.cls_ok (c.a.fact 44 rfl)) (He.noat_ok (c.a.fact 61 rfl))
  l_words := fldOk_one (He.cls_ok (c.a.fact 43 rfl)) (He.noat_ok (c.a.fact 62 rfl))
  f_abs := He.free_ok X G (c.a.fact 63 rfl)
  f_all := He.free_ok X G (c.a.fact 64 rfl)
  f_bool := He.free_ok X G (c.a.fact 65 rfl)
  f_enumerate := He.free_ok X G (c.a.fact 66 rfl)
  f_int := He.free_ok X G (c.a.fact 67 rfl)
  f_isinstance := He.free_ok X G (c.a.fact 68 rfl)
  f_len := He.free_ok X G (c.a.fact 69 rfl)
  f_list := He.free_ok X G (c.a.fact 70 rfl)
  f_range := He.free_ok X G (c.a.fact 71 rfl)
  f_set := He.free_ok X G (c.a.fact 72 rfl)
  f_str := He.free_ok X G (c.a.fact 73 rfl)
  f_tuple := He.free_ok X G (c.a.fact 74 rfl)
abbrev HR : PySem.W.OpenRow := PySem.W.OpenLaw.row PySem.Challenge.rw_overparts_k72_adapters_as_texts
abbrev hk : PySem.W.Hook := hookH 6 hfa hfn htf hex
def ob (s : PySem.W.SharedT) : AlH := obsH 6 hfa hfn htf hex (HandSHeadRun.getT s)
theorem ob_eq (s : PySem.W.SharedT) : ob s = hk.obs s.abs := obsH_eq (HandSHeadRun.getT_eq s)
def loose0 : List Str := ["_wall", "MOST_LETTERS_checks", "MOST_SIGNS", "SMALL", "SIGNS", "is_integer", "is_number", "is_number_checks", "is_word", "is_answer", "is_row", "wrong_word", "PartsError", "BadLetters", "BadOuter", "TooMany", "BadControl", "Ring", "BadText", "MOST_LETTERS_shapes", "check_letters", "MOST_OUTER", "MOST_CONTROLS_adapters", "check_outer", "is_groups", "is_control", "as_told", "targets", "on_ring", "Adapter"]
def loose1 : List Str := ["MOST_LETTERS_texts", "MOST_CONTROLS_texts", "DIGITS", "Line", "Lines", "is_number_texts", "take_letters", "take_many", "take_says", "take_groups", "take_control", "read_adapter", "control_words", "write_adapter", "_law_pen", "_law_draw", "_law_pick", "_law_shuffled", "_law_words", "_law_controls", "_law_said", "_law_adapter_text"]
def loose : List Str := loose0 ++ loose1
theorem run (w : World) : HandSHeadRun.RunEq HR (PySem.W.view HR.prog [59]) hk ob 6000 loose w := by
  intro os
  kernel_rfl
theorem law_at {w : World} {mg : Str → Option Value} {fa : Addr} {h : Heap} (pure : ∀ ns : List Int, ns.length ≤ 63 → ∃ ρ', m_law [some (.d (.sq (ns.map .int)))] = .ok (.d (.bl true)) ρ')
    {K : PySem.W.Frag} (X : K.In h) (c : SaysH hfa hfn htf hex h K) (G : h.Ns mainGlobals mg) (hfa : mg ("law" : Str) = some (.ref fa)) : LamX.LawAtS PySem.Challenge.rw_overparts_k72_adapters_as_texts w K CX0 11 63 "_law_script" mg fa h := by
  have e : fa = He.ga K ("law" : Str) := by
    have z := hfa.symm.trans (He.glo_ok X G (c.a.fact 75 rfl))
    cases z; rfl
  subst e
  have F := fd_at (c.a.def_ 41 rfl)
  have tab : ∀ p ∈ hcs K, ∃ q ∈ htf, p = (codeAt K (q K), tabAt K (q K)) := fun p hp => by
    have e : hcs K = htf.map fun q => (codeAt K (q K), tabAt K (q K)) := rfl
    rw [e] at hp
    obtain ⟨q, hq, rfl⟩ := List.mem_map.mp hp
    exact ⟨q, hq, rfl⟩
  refine ⟨_, hcs K, spD (tn (T0 K)) K 1 m_law, fun p hp => ?_, fun p hp => ?_, fun p hp => ?_, fun s u => FunD.bindsA (ps := ["_law_script"]) F (fun _ _ _ _ _ _ us hl => match us, hl with | [_], _ => rfl) s [u] rfl, fun H a ns hl _ hH hS => ?_, fun base Xb Gb TB => ok_law (hfacts Xb Gb c TB)⟩
  · obtain ⟨q, hq, rfl⟩ := tab p hp; exact c.empty q hq
  · obtain ⟨q, hq, rfl⟩ := tab p hp; exact c.out q hq
  · obtain ⟨q, hq, rfl⟩ := tab p hp; exact PySem.W.codeHd_of_K X (c.hd q hq)
  · refine sp_law (tabsN_start fun p hp => ?_) hS (pure ns hl)
    have e : (T0 K).map Prod.fst = (hcs K).map Prod.snd := rfl
    have hm : p.1 ∈ (hcs K).map Prod.snd := by rw [← e]; exact List.mem_map.mpr ⟨p, hp, rfl⟩
    obtain ⟨r, hr, er⟩ := List.mem_map.mp hm
    rw [← er]; exact hH r hr
end G72

end
set_option Elab.async false
set_option linter.all false
set_option maxRecDepth 100000
set_option maxHeartbeats 0
open PySem PySem.W PySem.Calls PyProof.Rows
theorem PySem.Challenge.cw_overparts_k72_adapters_as_texts_holds : PySem.Challenge.rw_overparts_k72_adapters_as_texts.Holds := by
  w_on; o_law
  refine HandSHeadRun.head_any (r := OpenLaw.row PySem.Challenge.rw_overparts_k72_adapters_as_texts) (q := view (OpenLaw.row PySem.Challenge.rw_overparts_k72_adapters_as_texts).prog [59]) (H := G72.hk) (ob := G72.ob) (M := 6000) (loose := G72.loose) (d := HandSHeadRun.topDef (OpenLaw.row PySem.Challenge.rw_overparts_k72_adapters_as_texts).prog 59) (kwd := []) G72.ob_eq
    (by kernel_rfl) (fun s => by kernel_rfl) G72.run (by kernel_rfl) (by kernel_rfl) (by kernel_rfl) (by rfl) (by first | assumption | decide +kernel) (by decide +kernel) ⟨rfl, rfl, rfl, rfl, rfl, by decide +kernel⟩ ?hw ?hc
  case hw => w_witness2
  case hc =>
    refine LamX.walk_ofTsE (l := PySem.Challenge.rw_overparts_k72_adapters_as_texts) (n := 63) (k := 11) (x := "_law_script") (CX := fun _ => L2.CX0) rfl (by decide) (by kernel_rfl) ⟨rfl, by decide, by decide⟩ ?F (fun _ _ _ _ _ z => z)
    intro w mg fa h Y G hmg0
    obtain ⟨K, KX, c⟩ := Y
    have hmg : mg ("law" : PySem.Str) = some (.ref fa) := by
      have e : (HandSHeadRun.topDef (OpenLaw.row PySem.Challenge.rw_overparts_k72_adapters_as_texts).prog 59).name = ("law" : PySem.Str) := by kernel_rfl
      rw [← e]
      exact hmg0
    exact ⟨K, KX, G72.law_at G72.law_pure KX c G hmg⟩
