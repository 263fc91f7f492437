import PyProof.Rows.All
import Wide.All
import OpenK.AllK
import Wide.FinOn
import HandS.ForMost
import HandS.ForExc
import HandS.IsInst
import HandS.TryMany
import HandS.Deep
import HandS.Style
import HandS.Conv
import HandS.Lambda
import HandS.Nested
import HandS.Comp
import HandS.TupAny
import HandS.Dict
import HandS.Text
import HandS.More
import HandS.StrMore
import PyProof.MaxThree
import PyProof.ListStr
import HandS.Zip
import KE.GoesEnum
import HandS.Flow
import PyProof.ReprReads
import PyProof.FitsReplace
import PyProof.Rows.ReprOcc
import HandS.ListItems
import HandS.ExcField
import HandS.ExcInit
import HandS.WordsExc
import HandS.Defaults
import HandS.EndTab
import KE.IntBitsLaws
import HandS.HeadWalk
import HandS.Head2
import HandS.HeadHook4
import PySem.Challenge.RW_lettermends_k03_mends_between_words
set_option Elab.async false
set_option linter.all false
set_option maxRecDepth 100000
set_option maxHeartbeats 0
namespace Dl
open PySem PySem.Spec PyProof.Rows L2

/-- plain data, no heap -/
inductive D where
  | non | bl (b : Bool) | int (i : Int) | str (s : Str)
  | lst (xs : List D) | tup (xs : List D)
  | dK (kvs : List (Key × D)) | dT (kvs : List (List Key × D))
  | ins (c : Nat) (fs : List D)
  | strm
  | clo (k : Nat) (caps : List D)
  deriving Inhabited

/-! ### data without lambdas -/
mutual
def noClo : D → Bool
  | .lst xs => noCloL xs
  | .tup xs => noCloL xs
  | .dK kvs => noCloK kvs
  | .dT kvs => noCloT kvs
  | .ins _ fs => noCloL fs
  | .clo _ _ => false
  | _ => true
def noCloL : List D → Bool
  | [] => true
  | d :: r => noClo d && noCloL r
def noCloK : List (Key × D) → Bool
  | [] => true
  | (_, d) :: r => noClo d && noCloK r
def noCloT : List (List Key × D) → Bool
  | [] => true
  | (_, d) :: r => noClo d && noCloT r
end
/-- a lambda without parameters: its words, the names that it captures -/
structure LamT where
  params : Arguments
  body : Expr
  scope : Scope
  fr : List Str
def LamO (f : Addr) (qual : Str) (t : LamT) (cl : List (Str × Addr)) (c : Addr) : HO := .ext fun h => ∃ pm ctv : Value, h.get? f = some (PySem.W.kla_obj "<lambda>" qual t.params t.body t.scope cl pm c ctv)
def CellO (c : Addr) (o : Obj) : HO := .ext fun h => h.get? c = some o
/-- the lambda k at a, its cells lent: vs is what they hold -/
def CloP (lok : Nat → LamT → Prop) (k : Nat) (a : Addr) (vs : List V) (W : Addr → Prop) (H : Hp) : Prop :=
  ∃ (t : LamT) (qual : Str) (cl : List (Str × Addr)) (c : Addr) (L : List (Addr × Obj)), lok k t ∧ vs.length = t.fr.length ∧ ¬ W a ∧ H a = some (LamO a qual t cl c) ∧ ¬ W c ∧ H c = some (LamX.CodeO c qual) ∧
    (∀ b o, L.lookup b = some o → ¬ W b ∧ H b = some (CellO b o) ∧ ∃ v, o.data = .cell v) ∧ (∀ y b, cl.lookup y = some b → ∃ o v, L.lookup b = some o ∧ o.data = .cell v) ∧ (∀ x y b, cl.lookup x = some b → cl.lookup y = some b → x = y) ∧
    ∀ (i : Nat) (y : Str) (v : V), t.fr[i]? = some y → vs[i]? = some v → ∃ b o u, cl.lookup y = some b ∧ L.lookup b = some o ∧ o.data = .cell (some u) ∧ RelV v u
/-- texts that the model takes anywhere -/
def SOk (s : Str) : Prop := s.length ≤ sizeLine ∧ ∀ c ∈ s.cps.toList, c < 0x110000

/-- any thing but a locked one -/
def okU : HO → Prop
  | .frz _ _ => False
  | _ => True
/-- read: dicts also while a loop walks them -/
def Rdd (H : Hp) (a : Addr) (u : HO) : Prop := match u with
  | .dK kvs => Rd H a (.dK kvs)
  | .dT kvs => Rd H a (.dT kvs)
  | u => H a = some u
/-- a thing that is known, not a foreign one -/
def NE (H : Hp) (a : Addr) : Prop := ∃ u, H a = some u ∧ ∀ φ, u ≠ .ext φ
theorem NE.some {H : Hp} {a : Addr} (h : NE H a) : H a ≠ none := by
  obtain ⟨u, e, _⟩ := h
  rw [e]
  exact fun z => nomatch z
/-- what is fixed while a law runs: the written part, the stream's two objects, the classes (address, fields), the closures -/
structure Par where
  K : PySem.W.Frag
  T1 : Addr
  T : Addr → Prop
  cls : Nat → Option (Addr × List Str)
  exc : Nat → Option (Addr × Str)
  sok : Nat → Hp → Prop
  sokFr : ∀ k H H', (∀ a, T a → H a = H' a) → (∀ c q, H c = some (LamX.CodeO c q) → H' c = some (LamX.CodeO c q)) → sok k H → sok k H'
  sokT : ∀ k H a, sok k H → T a → NE H a
  sokLe : ∀ k k' H, k ≤ k' → sok k' H → sok k H
  lok : Nat → LamT → Prop

/-- keys that are texts are sound ones -/
def KeyOk : Key → Prop
  | .inl _ => True
  | .inr s => SOk s
def KzK (kvs : List (Key × V)) : Prop := kvs.length ≤ sizeLine ∧ ∀ kv ∈ kvs, KeyOk kv.1
def KzT (kvs : List (List Key × V)) : Prop := kvs.length ≤ sizeLine ∧ ∀ kv ∈ kvs, kv.1.length ≤ sizeLine ∧ ∀ k ∈ kv.1, KeyOk k
mutual
def Rep (P : Par) (W : Addr → Prop) (H : Hp) : D → V → Prop
  | .non, v => v = .non
  | .bl b, v => v = .bl b
  | .int i, v => v = .int i
  | .str s, v => v = .str s ∧ SOk s
  | .lst ds, v => ∃ a xs, v = .ref a ∧ ¬ W a ∧ H a = some (.lst xs) ∧ xs.length ≤ sizeLine ∧ RepL P W H ds xs
  | .tup ds, v => ∃ a xs, v = .ref a ∧ ¬ W a ∧ H a = some (.tup xs) ∧ xs.length ≤ sizeLine ∧ RepL P W H ds xs
  | .dK kds, v => ∃ a kvs, v = .ref a ∧ ¬ W a ∧ Rd H a (.dK kvs) ∧ KzK kvs ∧ RepK P W H kds kvs
  | .dT kds, v => ∃ a kvs, v = .ref a ∧ ¬ W a ∧ Rd H a (.dT kvs) ∧ KzT kvs ∧ RepT P W H kds kvs
  | .ins c fs, v => ∃ a C dx ns vs kvs, v = .ref a ∧ P.cls c = some (C, ns) ∧ ¬ W a ∧ H a = some (.ins C dx kvs) ∧ kvs.map (·.1) = ns ∧ kvs.map (·.2) = vs ∧ RepL P W H fs vs
  | .strm, v => v = .ref P.T1
  | .clo k caps, v => ∃ a vs, v = .ref a ∧ noCloL caps = true ∧ RepL P W H caps vs ∧ CloP P.lok k a vs W H
def RepL (P : Par) (W : Addr → Prop) (H : Hp) : List D → List V → Prop
  | [], xs => xs = []
  | d :: ds, xs => ∃ x r, xs = x :: r ∧ Rep P W H d x ∧ RepL P W H ds r
def RepK (P : Par) (W : Addr → Prop) (H : Hp) : List (Key × D) → List (Key × V) → Prop
  | [], xs => xs = []
  | (k, d) :: ds, xs => ∃ x r, xs = (k, x) :: r ∧ Rep P W H d x ∧ RepK P W H ds r
def RepT (P : Par) (W : Addr → Prop) (H : Hp) : List (List Key × D) → List (List Key × V) → Prop
  | [], xs => xs = []
  | (k, d) :: ds, xs => ∃ x r, xs = (k, x) :: r ∧ Rep P W H d x ∧ RepT P W H ds r
end

/-- all but what may be written is as it was -/
def Fr (W : Addr → Prop) (H H' : Hp) : Prop := ∀ a u, ¬ W a → okU u → Rdd H a u → Rdd H' a u
theorem Fr.refl (W : Addr → Prop) (H : Hp) : Fr W H H := fun _ _ _ _ h => h
theorem Fr.trans {W : Addr → Prop} {H H1 H2 : Hp} (a : Fr W H H1) (b : Fr W H1 H2) : Fr W H H2 := fun x u n o h => b x u n o (a x u n o h)
theorem Rdd.some {H : Hp} {a : Addr} {u : HO} (h : Rdd H a u) : ∃ o, H a = Option.some o := by
  cases u <;> first
    | exact ⟨_, h⟩
    | (rcases h with h | ⟨o, h⟩
       · exact ⟨_, h⟩
       · exact ⟨_, h⟩)
theorem Fr.mono {W W' : Addr → Prop} {H H' : Hp} (f : Fr W H H') (h : ∀ a, W a → W' a) : Fr W' H H' := fun a u n => f a u fun z => n (h a z)
theorem not_new {W W' : Addr → Prop} {H : Hp} (hw : ∀ a, W' a → W a ∨ H a = none) {a : Addr} {o : HO} (n : ¬ W a) (h : H a = some o) : ¬ W' a := fun z => by
  rcases hw a z with z | z
  · exact n z
  · rw [h] at z
    cases z
theorem not_newR {W W' : Addr → Prop} {H : Hp} (hw : ∀ a, W' a → W a ∨ H a = none) {a : Addr} {u : HO} (n : ¬ W a) (h : Rd H a u) : ¬ W' a := by
  rcases h with h | ⟨o, h⟩
  · exact not_new hw n h
  · exact not_new hw n h
theorem CloP.fr {lok : Nat → LamT → Prop} {k : Nat} {a : Addr} {vs : List V} {W W' : Addr → Prop} {H H' : Hp} (f : Fr W H H') (hw : ∀ a, W' a → W a ∨ H a = none) (h : CloP lok k a vs W H) : CloP lok k a vs W' H' := by
  obtain ⟨t, qual, cl, c, L, h1, h2, na, h3, nc, h4, h5, h6, h7, h8⟩ := h
  refine ⟨t, qual, cl, c, L, h1, h2, not_new hw na h3, f a (LamO a qual t cl c) na True.intro h3, not_new hw nc h4, f c (LamX.CodeO c qual) nc True.intro h4, fun b o e => ?_, h6, h7, h8⟩
  obtain ⟨nb, hb, hv⟩ := h5 b o e
  exact ⟨not_new hw nb hb, f b (CellO b o) nb True.intro hb, hv⟩
section
variable {P : Par} {W W' : Addr → Prop} {H H' : Hp}
mutual
theorem Rep.frame (f : Fr W H H') (hw : ∀ a, W' a → W a ∨ H a = none) : ∀ (d : D) (v : V), Rep P W H d v → Rep P W' H' d v
  | .non, v, h => by unfold Rep at h ⊢; exact h
  | .bl b, v, h => by unfold Rep at h ⊢; exact h
  | .int i, v, h => by unfold Rep at h ⊢; exact h
  | .str s, v, h => by unfold Rep at h ⊢; exact h
  | .lst ds, v, h => by
    unfold Rep at h ⊢
    obtain ⟨a, xs, e, n, ha, hz, hr⟩ := h
    exact ⟨a, xs, e, not_new hw n ha, f a (.lst xs) n trivial ha, hz, RepL.frame f hw ds xs hr⟩
  | .tup ds, v, h => by
    unfold Rep at h ⊢
    obtain ⟨a, xs, e, n, ha, hz, hr⟩ := h
    exact ⟨a, xs, e, not_new hw n ha, f a (.tup xs) n trivial ha, hz, RepL.frame f hw ds xs hr⟩
  | .dK kds, v, h => by
    unfold Rep at h ⊢
    obtain ⟨a, xs, e, n, ha, hz, hr⟩ := h
    exact ⟨a, xs, e, not_newR hw n ha, f a (.dK xs) n trivial ha, hz, RepK.frame f hw kds xs hr⟩
  | .dT kds, v, h => by
    unfold Rep at h ⊢
    obtain ⟨a, xs, e, n, ha, hz, hr⟩ := h
    exact ⟨a, xs, e, not_newR hw n ha, f a (.dT xs) n trivial ha, hz, RepT.frame f hw kds xs hr⟩
  | .ins c fs, v, h => by
    unfold Rep at h ⊢
    obtain ⟨a, C, dx, ns, vs, kvs, e, hc, n, ha, h1, h2, hr⟩ := h
    exact ⟨a, C, dx, ns, vs, kvs, e, hc, not_new hw n ha, f a (.ins C dx kvs) n trivial ha, h1, h2, RepL.frame f hw fs vs hr⟩
  | .strm, v, h => by unfold Rep at h ⊢; exact h
  | .clo k caps, v, h => by
    unfold Rep at h ⊢
    obtain ⟨a, vs, e, hn, hr, hc⟩ := h
    exact ⟨a, vs, e, hn, RepL.frame f hw caps vs hr, hc.fr f hw⟩
theorem RepL.frame (f : Fr W H H') (hw : ∀ a, W' a → W a ∨ H a = none) : ∀ (ds : List D) (xs : List V), RepL P W H ds xs → RepL P W' H' ds xs
  | [], xs, h => by unfold RepL at h ⊢; exact h
  | d :: ds, xs, h => by
    unfold RepL at h ⊢
    obtain ⟨x, r, e, h1, h2⟩ := h
    exact ⟨x, r, e, Rep.frame f hw d x h1, RepL.frame f hw ds r h2⟩
theorem RepK.frame (f : Fr W H H') (hw : ∀ a, W' a → W a ∨ H a = none) : ∀ (ds : List (Key × D)) (xs : List (Key × V)), RepK P W H ds xs → RepK P W' H' ds xs
  | [], xs, h => by unfold RepK at h ⊢; exact h
  | (k, d) :: ds, xs, h => by
    unfold RepK at h ⊢
    obtain ⟨x, r, e, h1, h2⟩ := h
    exact ⟨x, r, e, Rep.frame f hw d x h1, RepK.frame f hw ds r h2⟩
theorem RepT.frame (f : Fr W H H') (hw : ∀ a, W' a → W a ∨ H a = none) : ∀ (ds : List (List Key × D)) (xs : List (List Key × V)), RepT P W H ds xs → RepT P W' H' ds xs
  | [], xs, h => by unfold RepT at h ⊢; exact h
  | (k, d) :: ds, xs, h => by
    unfold RepT at h ⊢
    obtain ⟨x, r, e, h1, h2⟩ := h
    exact ⟨x, r, e, Rep.frame f hw d x h1, RepT.frame f hw ds r h2⟩
end
end
/-! ### without what is foreign -/
def notExt : HO → Prop
  | .ext _ => False
  | .frz _ _ => False
  | _ => True
section
variable {P : Par} {W : Addr → Prop} {H H' : Hp}
mutual
theorem Rep.unext (f : ∀ a u, ¬ W a → notExt u → Rdd H a u → Rdd H' a u) : ∀ (d : D) (v : V), noClo d = true → Rep P W H d v → Rep P W H' d v
  | .non, v, _, h => by unfold Rep at h ⊢; exact h
  | .bl b, v, _, h => by unfold Rep at h ⊢; exact h
  | .int i, v, _, h => by unfold Rep at h ⊢; exact h
  | .str s, v, _, h => by unfold Rep at h ⊢; exact h
  | .lst ds, v, q, h => by
    unfold Rep at h ⊢
    unfold noClo at q
    obtain ⟨a, xs, e, n, ha, hz, hr⟩ := h
    exact ⟨a, xs, e, n, f a (.lst xs) n trivial ha, hz, RepL.unext f ds xs q hr⟩
  | .tup ds, v, q, h => by
    unfold Rep at h ⊢
    unfold noClo at q
    obtain ⟨a, xs, e, n, ha, hz, hr⟩ := h
    exact ⟨a, xs, e, n, f a (.tup xs) n trivial ha, hz, RepL.unext f ds xs q hr⟩
  | .dK kds, v, q, h => by
    unfold Rep at h ⊢
    unfold noClo at q
    obtain ⟨a, xs, e, n, ha, hz, hr⟩ := h
    exact ⟨a, xs, e, n, f a (.dK xs) n trivial ha, hz, RepK.unext f kds xs q hr⟩
  | .dT kds, v, q, h => by
    unfold Rep at h ⊢
    unfold noClo at q
    obtain ⟨a, xs, e, n, ha, hz, hr⟩ := h
    exact ⟨a, xs, e, n, f a (.dT xs) n trivial ha, hz, RepT.unext f kds xs q hr⟩
  | .ins c fs, v, q, h => by
    unfold Rep at h ⊢
    unfold noClo at q
    obtain ⟨a, C, dx, ns, vs, kvs, e, hc, n, ha, h1, h2, hr⟩ := h
    exact ⟨a, C, dx, ns, vs, kvs, e, hc, n, f a (.ins C dx kvs) n trivial ha, h1, h2, RepL.unext f fs vs q hr⟩
  | .strm, v, _, h => by unfold Rep at h ⊢; exact h
  | .clo k caps, v, q, _ => by unfold noClo at q; cases q
theorem RepL.unext (f : ∀ a u, ¬ W a → notExt u → Rdd H a u → Rdd H' a u) : ∀ (ds : List D) (xs : List V), noCloL ds = true → RepL P W H ds xs → RepL P W H' ds xs
  | [], xs, _, h => by unfold RepL at h ⊢; exact h
  | d :: ds, xs, q, h => by
    unfold RepL at h ⊢
    unfold noCloL at q
    rw [Bool.and_eq_true] at q
    obtain ⟨x, r, e, h1, h2⟩ := h
    exact ⟨x, r, e, Rep.unext f d x q.1 h1, RepL.unext f ds r q.2 h2⟩
theorem RepK.unext (f : ∀ a u, ¬ W a → notExt u → Rdd H a u → Rdd H' a u) : ∀ (ds : List (Key × D)) (xs : List (Key × V)), noCloK ds = true → RepK P W H ds xs → RepK P W H' ds xs
  | [], xs, _, h => by unfold RepK at h ⊢; exact h
  | (k, d) :: ds, xs, q, h => by
    unfold RepK at h ⊢
    unfold noCloK at q
    rw [Bool.and_eq_true] at q
    obtain ⟨x, r, e, h1, h2⟩ := h
    exact ⟨x, r, e, Rep.unext f d x q.1 h1, RepK.unext f ds r q.2 h2⟩
theorem RepT.unext (f : ∀ a u, ¬ W a → notExt u → Rdd H a u → Rdd H' a u) : ∀ (ds : List (List Key × D)) (xs : List (List Key × V)), noCloT ds = true → RepT P W H ds xs → RepT P W H' ds xs
  | [], xs, _, h => by unfold RepT at h ⊢; exact h
  | (k, d) :: ds, xs, q, h => by
    unfold RepT at h ⊢
    unfold noCloT at q
    rw [Bool.and_eq_true] at q
    obtain ⟨x, r, e, h1, h2⟩ := h
    exact ⟨x, r, e, Rep.unext f d x q.1 h1, RepT.unext f ds r q.2 h2⟩
end
end
theorem codeK {H : Hp} {p : Addr} {o : HO} (h : ∀ u, H p = some u → ∀ φ, u ≠ .ext φ) : ∀ c q, H c = some (LamX.CodeO c q) → upd H p o c = some (LamX.CodeO c q) := fun c q e => by
  by_cases hc : c = p
  · subst hc
    exact absurd rfl (h _ e _)
  · rw [upd_ne hc]; exact e
theorem codeN {H : Hp} {p : Addr} {o : HO} (h : H p = none) : ∀ c q, H c = some (LamX.CodeO c q) → upd H p o c = some (LamX.CodeO c q) := codeK fun u e => by rw [h] at e; cases e
theorem codeS {H : Hp} {p : Addr} {o u : HO} (h : H p = some u) (hu : ∀ φ, u ≠ .ext φ) : ∀ c q, H c = some (LamX.CodeO c q) → upd H p o c = some (LamX.CodeO c q) := codeK fun w e => by
  rw [h] at e
  cases e
  exact hu
end Dl
namespace Dl
open PySem PySem.Spec PyProof.Rows L2

/-! ### the inner language -/
inductive BOp | add | sub | mul | fdiv | mod | pow deriving DecidableEq, Repr
inductive COp | eq | ne | lt | le | gt | ge | is | isnot | isin | notin deriving DecidableEq, Repr
inductive BI | len | list | tuple | int | str | min | max | all | any | sum | sorted | dict | abs | bool | repr deriving DecidableEq, Repr
inductive Mt | items | values | join | split | index | count | replace deriving DecidableEq, Repr
inductive Ty | int | str | list | tuple | dict | bool | cls (k : Nat) deriving DecidableEq, Repr
/-- targets -/
inductive IT where
  | nm (i : Nat)
  | tp (ts : List IT)
mutual
inductive IE where
  | slot (i : Nat)
  | cn (d : D)
  | bin (op : BOp) (a b : IE)
  | neg (a : IE)
  | cmp (op : COp) (a b : IE)
  | chain (op op' : COp) (a b c : IE)
  | and (a b : IE)
  | or (a b : IE)
  | not (a : IE)
  | ite (t a b : IE)
  | tup (es : IEs)
  | lst (es : IEs)
  | dic (ps : IPs)
  | idx (a b : IE)
  | slc (a : IE) (lo hi : IO)
  | rev (a : IE)
  | call (f : Nat) (es : IEs)
  | callk (f : Nat) (es : IEs) (perm : List Nat)
  | bi (b : BI) (es : IEs)
  | mt (m : Mt) (a : IE) (es : IEs)
  | get (a k : IE) (d : IO)
  | isi (a : IE) (ts : List Ty)
  | lc (elt : IE) (tg : IT) (src : ISrc) (c : IO) (own : List Nat)
  | lrg (a b c : IE)
  | items (a : IE)
  | calls (i : Nat)
  | callL (f : Nat) (es : IEs)
inductive IEs where
  | nil
  | cons (e : IE) (r : IEs)
  | lam (k : Nat) (b : IE) (caps : List Nat) (r : IEs)
inductive IPs where
  | nil
  | cons (k v : IE) (r : IPs)
inductive IO where
  | none
  | some (e : IE)
inductive ISrc where
  | val (e : IE)
  | enum (e : IE) (k : Int)
  | zip (a b : IE)
  | rng (a b : IE) (c : Int)
end

/-! ### D-level state -/
inductive Sl where
  | un
  | val (d : D)
  | own (d : D)
abbrev DEnv := List Sl
/-- an error of the package: its class, what it holds -/
structure XV where
  c : Nat
  a : Option D
abbrev DK := D → Prop
abbrev EK := XV → Prop

/-! ### operations on data -/
def D.tru : D → Option Bool
  | .non => some false
  | .bl b => some b
  | .int i => some (i != 0)
  | .str s => some ((s.length : Int) != 0)
  | .lst xs => some (!xs.isEmpty)
  | .tup xs => some (!xs.isEmpty)
  | _ => none
mutual
def D.toPy : D → Option PyData
  | .non => some .none
  | .bl b => some (.bool b)
  | .int i => some (.int i)
  | .str s => some (.str s)
  | .lst xs => (toPyL xs).map .list
  | .tup xs => (toPyL xs).map .tuple
  | _ => none
def toPyL : List D → Option (List PyData)
  | [] => some []
  | x :: xs => (x.toPy).bind fun a => (toPyL xs).map fun r => a :: r
end
def strRep (s : Str) (n : Nat) : Str := ⟨((List.replicate n s.cps.toList).flatten).toArray⟩
def CPw (i j : Int) : Prop := 0 ≤ j ∧ (Builtin.Int.intBits i : Int) * j ≤ 2 ^ 27
def binD (op : BOp) (x y : D) (K : DK) : Prop :=
  match op, x, y with
  | .add, .int i, .int j => K (.int (i + j))
  | .add, .str a, .str b => a.length + b.length ≤ sizeLine ∧ K (.str (a ++ b))
  | .add, .lst a, .lst b => a.length + b.length ≤ sizeLine ∧ K (.lst (a ++ b))
  | .sub, .int i, .int j => K (.int (i - j))
  | .mul, .int i, .int j => CMul i j ∧ K (.int (i * j))
  | .mul, .str s, .int k => 0 ≤ k ∧ k < 2 ^ 31 ∧ s.length * k.toNat ≤ sizeLine ∧ K (.str (strRep s k.toNat))
  | .mul, .lst xs, .int k => 0 ≤ k ∧ k < 2 ^ 31 ∧ xs.length * k.toNat ≤ sizeLine ∧ K (.lst (List.replicate k.toNat xs).flatten)
  | .fdiv, .int i, .int j => 0 < j ∧ j < 1073741824 ∧ K (.int (i / j))
  | .mod, .int i, .int j => 0 < j ∧ K (.int (i % j))
  | .pow, .int i, .int j => CPw i j ∧ K (.int (i ^ j.toNat))
  | _, _, _ => False
def strIn (a b : Str) : Bool := !(Builtin.Str.occurrences b a 0 b.length 1).isEmpty
def eqD (x y : D) (K : Bool → Prop) : Prop := match x.toPy, y.toPy with
  | some p, some q => p.depth ≤ 64 ∧ q.depth ≤ 64 ∧ K (PyData.eqv p q)
  | _, _ => False
def keyD : D → Option Key
  | .int i => some (.inl i)
  | .str s => some (.inr s)
  | _ => none
def keysD : List D → Option (List Key)
  | [] => some []
  | x :: xs => (keyD x).bind fun k => (keysD xs).map fun r => k :: r
def lookD {κ : Type} [DecidableEq κ] (kvs : List (κ × D)) (k : κ) : Option D := (kvs.find? fun kv => decide (kv.1 = k)).map (·.2)
def putD {κ : Type} [DecidableEq κ] (kvs : List (κ × D)) (k : κ) (v : D) : List (κ × D) :=
  if (kvs.any fun kv => decide (kv.1 = k)) = true then kvs.map (fun kv => if kv.1 = k then (kv.1, v) else kv) else kvs ++ [(k, v)]
def inD (x y : D) (K : Bool → Prop) : Prop := match y with
  | .str b => match x with
    | .str a => K (strIn a b)
    | _ => False
  | .lst ys => match x.toPy, toPyL ys with
    | some p, some qs => p.depth ≤ 64 ∧ (PyData.list qs).depth ≤ 64 ∧ K (qs.any fun z => PyData.eqv z p)
    | _, _ => False
  | .dK kvs => match keyD x with
    | some k => K (lookD kvs k).isSome
    | none => False
  | .dT kvs => match x with
    | .tup xs => match keysD xs with
      | some k => K (lookD kvs k).isSome
      | none => False
    | _ => False
  | _ => False
def isNon : D → Bool
  | .non => true
  | _ => false
def cmpD (op : COp) (x y : D) (K : DK) : Prop :=
  match op with
  | .eq => eqD x y fun b => K (.bl b)
  | .ne => eqD x y fun b => K (.bl (!b))
  | .lt => match x, y with
    | .int i, .int j => K (.bl (decide (i < j)))
    | .str a, .str b => K (.bl (decide (a.cps.toList < b.cps.toList)))
    | _, _ => False
  | .le => match x, y with
    | .int i, .int j => K (.bl (decide (i ≤ j)))
    | _, _ => False
  | .gt => match x, y with
    | .int i, .int j => K (.bl (decide (j < i)))
    | _, _ => False
  | .ge => match x, y with
    | .int i, .int j => K (.bl (decide (j ≤ i)))
    | _, _ => False
  | .is => match y with
    | .non => K (.bl (isNon x))
    | .bl b => match x with
      | .bl a => K (.bl (a == b))
      | _ => False
    | _ => False
  | .isnot => match y with
    | .non => K (.bl (!isNon x))
    | .bl b => match x with
      | .bl a => K (.bl (!(a == b)))
      | _ => False
    | _ => False
  | .isin => inD x y fun b => K (.bl b)
  | .notin => inD x y fun b => K (.bl (!b))
def cutA {α : Type} (xs : List α) (lo hi : Option Int) : List α := (xs.drop (HT.sIx xs.length 0 lo)).take (HT.sIx xs.length xs.length hi - HT.sIx xs.length 0 lo)
def idxD (x y : D) (K : DK) : Prop :=
  match x, y with
  | .lst xs, .int i => ∃ d, atI xs i = some d ∧ K d
  | .tup xs, .int i => ∃ d, atI xs i = some d ∧ K d
  | .str s, .int i => ∃ c, atI s.cps.toList i = some c ∧ K (.str ⟨#[c]⟩)
  | .dK kvs, k => match keyD k with
    | some k => ∃ d, lookD kvs k = some d ∧ K d
    | none => False
  | .dT kvs, .tup xs => match keysD xs with
    | some k => ∃ d, lookD kvs k = some d ∧ K d
    | none => False
  | _, _ => False
def slcD (x : D) (lo hi : Option Int) (K : DK) : Prop :=
  match x with
  | .lst xs => K (.lst (cutA xs lo hi))
  | .tup xs => K (.tup (cutA xs lo hi))
  | .str s => K (.str (cutS s lo hi))
  | _ => False
def signs (s : Str) : List D := s.cps.toList.map fun c => .str ⟨#[c]⟩
def keyVal : Key → D
  | .inl i => .int i
  | .inr s => .str s
/-- what a walk over a thing yields -/
def itemsD : D → Option (List D)
  | .lst xs => some xs
  | .tup xs => some xs
  | .str s => some (signs s)
  | _ => none
def rangeD (a b c : Int) : List D := (List.range (Builtin.Range.rangeSize a b c).toNat).map fun i => .int (a + (i : Nat) * c)
def tyD (t : Ty) (d : D) : Option Bool := match t, d with
  | .int, .int _ => some true
  | .int, .bl _ => some true
  | .bool, .bl _ => some true
  | .str, .str _ => some true
  | .list, .lst _ => some true
  | .tuple, .tup _ => some true
  | .dict, .dK _ => some true
  | _, .dT _ => none
  | _, .ins _ _ => none
  | .cls _, _ => none
  | _, .strm => none
  | _, .clo _ _ => none
  | _, _ => some false
def biD (b : BI) (xs : List D) (K : DK) : Prop :=
  match b, xs with
  | .len, [.lst ys] => K (.int ys.length)
  | .len, [.tup ys] => K (.int ys.length)
  | .len, [.str s] => K (.int s.length)
  | .list, [.lst ys] => K (.lst ys)
  | .list, [.tup ys] => K (.lst ys)
  | .list, [.str s] => K (.lst (signs s))
  | .list, [.dK kvs] => K (.lst (kvs.map fun kv => keyVal kv.1))
  | .tuple, [.lst ys] => K (.tup ys)
  | .tuple, [.tup ys] => K (.tup ys)
  | .int, [.int i] => K (.int i)
  | .int, [.bl b] => K (.int (if b then 1 else 0))
  | .min, [.int i, .int j] => K (.int (if j < i then j else i))
  | .min, [.int i, .int j, .int k] => K (.int (if k < (if j < i then j else i) then k else (if j < i then j else i)))
  | .max, [.int i, .int j] => K (.int (if j > i then j else i))
  | .all, [.lst ys] => ∃ bs : List Bool, ys = bs.map D.bl ∧ K (.bl (bs.all id))
  | .any, [.lst ys] => ∃ bs : List Bool, ys = bs.map D.bl ∧ K (.bl (bs.any id))
  | .sum, [.lst ys] => ∃ ns : List Int, ys = ns.map D.int ∧ K (.int ns.sum)
  | .sorted, [.lst ys] => ∃ ss : List Str, ys = ss.map D.str ∧ ss.length < 64 ∧ ∀ ts : List Str, ts.Perm ss → sortedS ts = true → K (.lst (ts.map D.str))
  | .dict, [.lst []] => K (.dK [])
  | .abs, [.int i] => K (.int (if i < 0 then -i else i))
  | _, _ => False
def isDic : D → Bool
  | .dK _ => true
  | .dT _ => true
  | _ => false
/-- d.get(k, z) -/
def getDD (x y z : D) (K : DK) : Prop := match x with
  | .dK kvs => match keyD y with
    | some k => K ((lookD kvs k).getD z)
    | none => False
  | .dT kvs => match y with
    | .tup xs => match keysD xs with
      | some k => K ((lookD kvs k).getD z)
      | none => False
    | _ => False
  | _ => False
def mtD (m : Mt) (x : D) (xs : List D) (K : DK) : Prop :=
  match m, x, xs with
  | .join, .str a, [.lst ys] => ∃ ss : List Str, ys = ss.map D.str ∧ (ss.map (·.length)).sum + ss.length * a.length ≤ 16777216 ∧ K (.str (Txt.join a ss))
  | .split, .str a, [.str b] => 0 < b.length ∧ a.length + 2 ≤ sizeLine ∧ K (.lst ((Txt.split a b).map D.str))
  | _, _, _ => False
/-- what a method is asked of -/
def mtT (m : Mt) (x : D) : Bool := match m, x with
  | .items, .dK _ => true
  | .items, _ => false
  | .values, .dK _ => true
  | .values, _ => false
  | _, .str _ => true
  | _, _ => false
def permA {α : Type} (dflt : α) (perm : List Nat) (xs : List α) : List α := perm.map fun i => xs.getD i dflt
/-- the pairs of a display, put in -/
def mergeD (kvs : List (Key × D)) : List (Key × D) := kvs.foldl (fun acc kv => putD acc kv.1 kv.2) []
def keyPs : List (D × D) → Option (List (Key × D))
  | [] => some []
  | (x, y) :: r => (keyD x).bind fun k => (keyPs r).map fun ps => (k, y) :: ps
def dicD (ps : List (D × D)) (K : DK) : Prop := match ps with
  | [] => K (.dK []) ∨ K (.dT [])
  | ps => match keyPs ps with
    | some kvs => K (.dK (mergeD kvs))
    | none => False
/-- a dict that a name holds, to be walked over -/
def dkeys (src : ISrc) (env : DEnv) : Option (List D) := match src with
  | .val (.slot i) => match env[i]? with
    | some (.val (.dK kvs)) => some (kvs.map fun kv => keyVal kv.1)
    | _ => none
  | _ => none
/-! looking at a value -/
def onInt (x : D) (K : Int → Prop) : Prop := match x with
  | .int i => K i
  | _ => False
def onTru (x : D) (K : Bool → Prop) : Prop := match x.tru with
  | some b => K b
  | none => False
def onBool (x : D) (K : Bool → Prop) : Prop := match x with
  | .bl b => K b
  | _ => False
def onItems (x : D) (K : List D → Prop) : Prop := match itemsD x with
  | some ds => K ds
  | none => False
def onClo (x : Option Sl) (K : Nat → List D → Prop) : Prop := match x with
  | some (.val (.clo k caps)) => K k caps
  | _ => False
def revD (x : D) (K : DK) : Prop := match x with
  | .lst xs => K (.lst xs.reverse)
  | _ => False
/-- list(d.items()) -/
def itD (x : D) (K : DK) : Prop := match x with
  | .dK kvs => K (.lst (kvs.map fun kv => .tup [keyVal kv.1, kv.2]))
  | _ => False
def small (i : Int) : Prop := -(2 ^ 31) ≤ i ∧ i < 2 ^ 31
/-! targets -/
mutual
def asg : IT → D → DEnv → Option DEnv
  | .nm i, d, env => some (env.set i (.val d))
  | .tp ts, .tup ds, env => asgL ts ds env
  | .tp _, _, _ => none
def asgL : List IT → List D → DEnv → Option DEnv
  | [], [], env => some env
  | t :: ts, d :: ds, env => (asg t d env).bind fun e => asgL ts ds e
  | _, _, _ => none
end
def wipeD (env : DEnv) : List Nat → DEnv
  | [] => env
  | v :: vs => (wipeD env vs).set v .un
/-- a comprehension's turns -/
def lcLoop (g : D → DEnv → Option DEnv) (c : DEnv → (Bool → Prop) → Prop) (f : DEnv → DK → Prop) (env : DEnv) (K : DK) : List D → List D → Prop
  | [], acc => K (.lst acc)
  | d :: r, acc => ∃ env1, g d env = some env1 ∧ c env1 fun b => if b = true then f env1 fun y => lcLoop g c f env K r (acc ++ [y]) else lcLoop g c f env K r acc

/-- what a def does, by data: its place, the arguments, what is wanted of the value, of an error -/
abbrev PF := Nat → List D → DK → EK → Prop
/-- what a held lambda does -/
structure PC where
  run : Nat → List D → DK → EK → Prop
  /-- the lambda k: how much it captures, its body -/
  lam : Nat → Nat → IE → Prop
/-- what is captured -/
def capsD (env : DEnv) : List Nat → Option (List D)
  | [] => some []
  | i :: r => match env[i]? with
    | some (.val d) => (capsD env r).map fun ds => d :: ds
    | _ => none
def noCloX (x : XV) : Bool := match x.a with
  | none => true
  | some d => noClo d
/-- borrowed: what is only looked at may be a list of the def's own -/
def bor (e : IE) (w : DEnv → DK → EK → Prop) : DEnv → DK → EK → Prop := match e with
  | .slot i => fun env Q _ => match env[i]? with
    | some (.val d) => Q d
    | some (.own d) => Q d
    | _ => False
  | _ => w
def borM (m : Bool) (e : IE) (w : DEnv → DK → EK → Prop) : DEnv → DK → EK → Prop := match m with
  | true => bor e w
  | false => w
section
variable (pf : PF) (pc : PC)
mutual
def wE : IE → DEnv → DK → EK → Prop
  | .slot i, env, Q, _ => match env[i]? with
    | some (.val d) => Q d
    | _ => False
  | .cn d, _, Q, _ => Q d
  | .bin op a b, env, Q, E => bor a (wE a) env (fun x => bor b (wE b) env (fun y => binD op x y Q) E) E
  | .neg a, env, Q, E => bor a (wE a) env (fun x => onInt x fun i => Q (.int (-i))) E
  | .cmp op a b, env, Q, E => bor a (wE a) env (fun x => bor b (wE b) env (fun y => cmpD op x y Q) E) E
  | .chain op op' a b c, env, Q, E => bor a (wE a) env (fun x => bor b (wE b) env (fun y => cmpD op x y fun z => onBool z fun t =>
      if t = true then bor c (wE c) env (fun w => cmpD op' y w Q) E else Q (.bl false)) E) E
  | .and a b, env, Q, E => wE a env (fun x => onTru x fun t => if t = true then wE b env Q E else Q x) E
  | .or a b, env, Q, E => wE a env (fun x => onTru x fun t => if t = true then Q x else wE b env Q E) E
  | .not a, env, Q, E => bor a (wE a) env (fun x => onTru x fun t => Q (.bl (!t))) E
  | .ite t a b, env, Q, E => wT t env (fun t => if t = true then wE a env Q E else wE b env Q E) E
  | .tup es, env, Q, E => wEs es env (fun ds => Q (.tup ds)) E
  | .lst es, env, Q, E => wEs es env (fun ds => Q (.lst ds)) E
  | .dic ps, env, Q, E => wPs ps env (fun ps => dicD ps Q) E
  | .idx a b, env, Q, E => bor a (wE a) env (fun x => bor b (wE b) env (fun y => idxD x y Q) E) E
  | .slc a lo hi, env, Q, E => bor a (wE a) env (fun x => wO lo env (fun l => wO hi env (fun h => slcD x l h Q) E) E) E
  | .rev a, env, Q, E => bor a (wE a) env (fun x => revD x Q) E
  | .call f es, env, Q, E => wEs es env (fun ds => pf f ds Q E) E
  | .callk f es perm, env, Q, E => wEs es env (fun ds => pf f (permA .non perm ds) Q E) E
  | .bi b es, env, Q, E => wBs es env (fun ds => biD b ds Q) E
  | .mt m a es, env, Q, E => bor a (wE a) env (fun x => mtT m x = true ∧ wBs es env (fun ds => mtD m x ds Q) E) E
  | .get a k d, env, Q, E => bor a (wE a) env (fun x => isDic x = true ∧ bor k (wE k) env (fun y => wD d env (fun z => getDD x y z Q) E) E) E
  | .isi a ts, env, Q, E => bor a (wE a) env (fun x => ∃ bs : List Bool, ts.map (fun t => tyD t x) = bs.map some ∧ Q (.bl (bs.any id))) E
  | .lc elt tg src c own, env, Q, E => match dkeys src env with
    | some ds => lcLoop (fun d e => asg tg d e) (fun e k => wC c e k) (fun e k => wE elt e k fun _ => False) (wipeD env own) Q ds []
    | none => wSrc true src env (fun ds => lcLoop (fun d e => asg tg d e) (fun e k => wC c e k) (fun e k => wE elt e k fun _ => False) (wipeD env own) Q ds []) E
  | .lrg a b c, env, Q, E => bor a (wE a) env (fun x => bor b (wE b) env (fun y => bor c (wE c) env (fun z => onInt x fun i => onInt y fun j => onInt z fun k =>
      (k = 1 ∨ k = -1) ∧ small i ∧ small j ∧ (i - j).natAbs ≤ 100000 ∧ Q (.lst (rangeD i j k))) E) E) E
  | .items a, env, Q, E => bor a (wE a) env (fun x => itD x Q) E
  | .calls i, env, Q, E => onClo env[i]? fun k caps => pc.run k caps Q E
  | .callL f es, env, Q, E => wEs es env (fun ds => pf f ds (fun d => noClo d = true ∧ Q d) (fun x => noCloX x = true ∧ E x)) E
termination_by e => (sizeOf e, 0)
def wEs : IEs → DEnv → (List D → Prop) → EK → Prop
  | .nil, _, Q, _ => Q []
  | .cons e r, env, Q, E => wE e env (fun x => wEs r env (fun xs => Q (x :: xs)) E) E
  | .lam k b caps r, env, Q, E => pc.lam k caps.length b ∧ ∃ cs, capsD env caps = some cs ∧ noCloL cs = true ∧ wEs r env (fun xs => Q (.clo k cs :: xs)) E
termination_by e => (sizeOf e, 0)
def wPs : IPs → DEnv → (List (D × D) → Prop) → EK → Prop
  | .nil, _, Q, _ => Q []
  | .cons k v r, env, Q, E => wE k env (fun x => wE v env (fun y => wPs r env (fun r => Q ((x, y) :: r)) E) E) E
termination_by e => (sizeOf e, 0)
def wBs : IEs → DEnv → (List D → Prop) → EK → Prop
  | .nil, _, Q, _ => Q []
  | .cons e r, env, Q, E => bor e (wE e) env (fun x => wBs r env (fun xs => Q (x :: xs)) E) E
  | .lam _ _ _ _, _, _, _ => False
termination_by e => (sizeOf e, 0)
def wO : IO → DEnv → (Option Int → Prop) → EK → Prop
  | .none, _, Q, _ => Q none
  | .some e, env, Q, E => bor e (wE e) env (fun x => onInt x fun i => Q (some i)) E
termination_by e => (sizeOf e, 0)
def wD : IO → DEnv → DK → EK → Prop
  | .none, _, Q, _ => Q .non
  | .some e, env, Q, E => wE e env Q E
termination_by e => (sizeOf e, 0)
/-- a clause's test -/
def wC : IO → DEnv → (Bool → Prop) → Prop
  | .none, _, Q => Q true
  | .some e, env, Q => wT e env Q fun _ => False
termination_by e => (sizeOf e, 0)
/-- as a test -/
def wT : IE → DEnv → (Bool → Prop) → EK → Prop
  | .and a b, env, Q, E => wT a env (fun t => if t = true then wT b env Q E else Q false) E
  | .or a b, env, Q, E => wT a env (fun t => if t = true then Q true else wT b env Q E) E
  | .not a, env, Q, E => wT a env (fun t => Q (!t)) E
  | .ite t a b, env, Q, E => wT t env (fun t => if t = true then wT a env Q E else wT b env Q E) E
  | e, env, Q, E => bor e (wE e) env (fun x => onTru x Q) E
termination_by e => (sizeOf e, 1)
/-- m: what is walked over may be the def's own -/
def wSrc (m : Bool) : ISrc → DEnv → (List D → Prop) → EK → Prop
  | .val e, env, Q, E => borM m e (wE e) env (fun x => onItems x Q) E
  | .enum e k, env, Q, E => borM m e (wE e) env (fun x => onItems x fun ds => small k ∧ Q (ds.zipIdx.map fun p => .tup [.int (k + (p.2 : Nat)), p.1])) E
  | .zip a b, env, Q, E => borM m a (wE a) env (fun x => borM m b (wE b) env (fun y => onItems x fun ds => onItems y fun es => Q ((ds.zip es).map fun p => .tup [p.1, p.2])) E) E
  | .rng a b c, env, Q, E => bor a (wE a) env (fun x => bor b (wE b) env (fun y => onInt x fun i => onInt y fun j => (c = 1 ∨ c = -1) ∧ small i ∧ small j ∧ (i - j).natAbs ≤ 100000 ∧ Q (rangeD i j c)) E) E
termination_by e => (sizeOf e, 0)
end
def wB (e : IE) : DEnv → DK → EK → Prop := bor e (wE pf pc e)
end
end Dl
namespace Dl
open PySem PySem.Spec PyProof.Rows L2

/-! ### statements -/
mutual
inductive IS where
  | expr (sh : List Nat) (e : IE)
  | asg (sh : List Nat) (i : Nat) (e : IE)
  | asgT (sh : List Nat) (ts : List IT) (e : IE)
  | par (sh : List Nat) (js : List Nat) (es : IEs)
  | setk (sh : List Nat) (i : Nat) (k v : IE)
  | app (sh : List Nat) (i : Nat) (e : IE)
  | extd (sh : List Nat) (i : Nat) (e : IE)
  | aug (i : Nat) (op : BOp) (e : IE)
  | ret (sh : List Nat) (e : IE)
  | retN
  | ite (sh : List Nat) (t : IE) (a b : ISs)
  | whl (sh : List Nat) (t : IE) (b : ISs)
  | for (sh : List Nat) (t : IT) (src : ISrc) (b : ISs)
  | rais (sh : List Nat) (c : Nat) (e : IE)
  | tryc (b : ISs) (hs : List Hd)
  | pass
  | brk
  | cont
inductive ISs where
  | nil
  | cons (s : IS) (r : ISs)
/-- except C as n: j = (word, n.f) | return (word, n.f) -/
inductive Hd where
  | mk (c : Nat) (i : Nat) (ret : Bool) (j : Nat) (word : Str)
end
def onOwn (x : Option Sl) (K : D → Prop) : Prop := match x with
  | some (.own d) => K d
  | _ => False
def onVal (x : Option Sl) (K : D → Prop) : Prop := match x with
  | some (.val d) => K d
  | _ => False
def onLst (x : D) (K : List D → Prop) : Prop := match x with
  | .lst xs => K xs
  | _ => False
structure KS where
  nx : DEnv → Prop
  rt : D → Prop
  bk : DEnv → Prop
  ct : DEnv → Prop
  ex : DEnv → XV → Prop
def shr1 (env : DEnv) (i : Nat) : DEnv := match env[i]? with
  | some (.own d) => env.set i (.val d)
  | _ => env
def shr (env : DEnv) : List Nat → DEnv
  | [] => env
  | i :: r => shr (shr1 env i) r
/-- expressions whose list or dict is new -/
def fresh : IE → Bool
  | .lst _ => true
  | .dic _ => true
  | .lc .. => true
  | .lrg .. => true
  | .items _ => true
  | .slc .. => true
  | .rev _ => true
  | .bin .. => true
  | .bi .list _ => true
  | .bi .sorted _ => true
  | .bi .dict _ => true
  | .mt .split _ _ => true
  | _ => false
def ownOf : D → Sl
  | .lst xs => .own (.lst xs)
  | .dK kvs => .own (.dK kvs)
  | .dT kvs => .own (.dT kvs)
  | d => .val d
def mkOwn (e : IE) (d : D) : Sl := if fresh e = true then ownOf d else .val d
def parSet : List Nat → IEs → List D → DEnv → Option DEnv
  | [], .nil, [], env => some env
  | j :: js, .cons e es, d :: ds, env => parSet js es ds (env.set j (mkOwn e d))
  | _, _, _, _ => none
/-- x[k] = v of a list or dict of the def's own -/
def setD (x k v : D) (K : D → Prop) : Prop :=
  match x, k with
  | .lst xs, .int i => ∃ j, ixN xs.length i = some j ∧ K (.lst (xs.set j v))
  | .dK kvs, k => match keyD k with
    | some k => kvs.length < sizeLine ∧ K (.dK (putD kvs k v))
    | none => False
  | _, _ => False
def hdsD (hs : List Hd) (env : DEnv) (x : XV) (K : KS) : Prop :=
  match hs with
  | [] => K.ex env x
  | .mk c i ret j word :: r => if c = x.c then ∃ a, x.a = some a ∧ i < env.length ∧ (if ret then K.rt (.tup [.str word, a]) else K.nx ((env.set j (.val (.tup [.str word, a]))).set i .un)) else hdsD r env x K
def forLoop (g : D → DEnv → Option DEnv) (b : DEnv → KS → Prop) (K : KS) : List D → DEnv → Prop
  | [], env => K.nx env
  | d :: r, env => ∃ env1, g d env = some env1 ∧ b env1 { K with nx := forLoop g b K r, ct := forLoop g b K r, bk := K.nx }
section
variable (pf : PF) (pc : PC)
mutual
def wS : IS → DEnv → KS → Prop
  | .expr sh e, env, K => wE pf pc e (shr env sh) (fun _ => K.nx (shr env sh)) (K.ex (shr env sh))
  | .asg sh i e, env, K => wE pf pc e (shr env sh) (fun d => K.nx ((shr env sh).set i (mkOwn e d))) (K.ex (shr env sh))
  | .asgT sh ts e, env, K => wE pf pc e (shr env sh) (fun d => ∃ env2, asg (.tp ts) d (shr env sh) = some env2 ∧ K.nx env2) (K.ex (shr env sh))
  | .par sh js es, env, K => wEs pf pc es (shr env sh) (fun ds => ∃ env2, parSet js es ds (shr env sh) = some env2 ∧ K.nx env2) (K.ex (shr env sh))
  | .setk sh i k v, env, K => onOwn (shr env sh)[i]? fun x => wE pf pc v (shr env sh) (fun y => wB pf pc k (shr env sh) (fun z => setD x z y fun x' => K.nx ((shr env sh).set i (.own x'))) (K.ex (shr env sh))) (K.ex (shr env sh))
  | .app sh i e, env, K => onOwn (shr env sh)[i]? fun x => onLst x fun xs => wE pf pc e (shr env sh) (fun y => xs.length < sizeLine ∧ K.nx ((shr env sh).set i (.own (.lst (xs ++ [y]))))) (K.ex (shr env sh))
  | .extd sh i e, env, K => onOwn (shr env sh)[i]? fun x => onLst x fun xs => wB pf pc e (shr env sh) (fun y => onLst y fun ys => xs.length + ys.length ≤ sizeLine ∧ K.nx ((shr env sh).set i (.own (.lst (xs ++ ys))))) (K.ex (shr env sh))
  | .aug i op e, env, K => onVal env[i]? fun x => onInt x fun a => wB pf pc e env (fun y => onInt y fun b => (op = .add ∧ K.nx (env.set i (.val (.int (a + b))))) ∨ (op = .sub ∧ K.nx (env.set i (.val (.int (a - b)))))) (K.ex env)
  | .ret sh e, env, K => wE pf pc e (shr env sh) K.rt (K.ex (shr env sh))
  | .retN, env, K => K.rt .non
  | .ite sh t a b, env, K => wT pf pc t (shr env sh) (fun t => if t = true then wSs a (shr env sh) K else wSs b (shr env sh) K) (K.ex (shr env sh))
  | .whl sh t b, env, K => ∃ I : Nat → DEnv → Prop, (∃ m, I m env) ∧ ∀ m e, I m e → wT pf pc t (shr e sh) (fun t =>
      if t = true then wSs b (shr e sh) { K with nx := fun e2 => ∃ m', m' < m ∧ I m' e2, ct := fun e2 => ∃ m', m' < m ∧ I m' e2, bk := K.nx } else K.nx (shr e sh)) (K.ex (shr e sh))
  | .for sh t src b, env, K => match dkeys src (shr env sh) with
    | some ds => forLoop (fun d e => asg t d e) (fun e k => wSs b e k) { K with ex := fun _ _ => False } ds (shr env sh)
    | none => wSrc pf pc false src (shr env sh) (fun ds => forLoop (fun d e => asg t d e) (fun e k => wSs b e k) K ds (shr env sh)) (K.ex (shr env sh))
  | .rais sh c e, env, K => wE pf pc e (shr env sh) (fun d => K.ex (shr env sh) ⟨c, some d⟩) (K.ex (shr env sh))
  | .tryc b hs, env, K => wSs b env { K with ex := fun env x => hdsD hs env x K }
  | .pass, env, K => K.nx env
  | .brk, env, K => K.bk env
  | .cont, env, K => K.ct env
def wSs : ISs → DEnv → KS → Prop
  | .nil, env, K => K.nx env
  | .cons s r, env, K => wS s env { K with nx := fun env => wSs r env K }
end
end
structure IFn where
  np : Nat
  ns : Nat
  body : ISs
inductive FK where
  | code (f : IFn)
  | spec (m : PC → List D → DK → EK → Prop)
structure ILam where
  nc : Nat
  body : IE
def startD (n : Nat) (ds : List D) : DEnv := ds.map Sl.val ++ List.replicate (n - ds.length) Sl.un
mutual
def pF (fns : Nat → Option FK) (lms : Nat → Option ILam) : Nat → PF
  | 0 => fun _ _ _ _ => False
  | n + 1 => fun k ds Q E => match fns k with
    | some (.code f) => ds.length = f.np ∧ f.np ≤ f.ns ∧ wSs (pF fns lms n) (pC fns lms n) f.body (startD f.ns ds) ⟨fun _ => Q .non, Q, fun _ => False, fun _ => False, fun _ x => E x⟩
    | some (.spec m) => m (pC fns lms n) ds Q E
    | none => False
def pC (fns : Nat → Option FK) (lms : Nat → Option ILam) : Nat → PC
  | 0 => ⟨fun _ _ _ _ => False, fun k n b => lms k = some ⟨n, b⟩⟩
  | n + 1 => ⟨fun k caps Q E => match lms k with
    | some l => caps.length = l.nc ∧ wE (pF fns lms n) (pC fns lms n) l.body (caps.map Sl.val) Q E
    | none => False, fun k n b => lms k = some ⟨n, b⟩⟩
end

end Dl
namespace Dl
open PySem PySem.Spec PyProof.Rows L2
/-! ### monotony -/
theorem bor_mono {e : IE} {w w' : DEnv → DK → EK → Prop} {env : DEnv} {Q Q' : DK} {E E' : EK} (h : bor e w env Q E) (hw : w env Q E → w' env Q' E') (hQ : ∀ d, Q d → Q' d) : bor e w' env Q' E' := by
  cases e <;> first
    | exact hw h
    | (unfold bor at h ⊢
       simp only at h ⊢
       revert h
       split <;> first
         | exact hQ _
         | exact id)
theorem wb_mono {e : IE} {w w' : DEnv → DK → EK → Prop} {env : DEnv} {Q Q' : DK} {E E' : EK} (h : bor e w env Q E) (ih : (∀ d, Q d → Q' d) → w env Q E → w' env Q' E') (hQ : ∀ d, Q d → Q' d) : bor e w' env Q' E' := bor_mono h (ih hQ) hQ
theorem wbM_mono {m : Bool} {e : IE} {w w' : DEnv → DK → EK → Prop} {env : DEnv} {Q Q' : DK} {E E' : EK} (h : borM m e w env Q E) (ih : (∀ d, Q d → Q' d) → w env Q E → w' env Q' E') (hQ : ∀ d, Q d → Q' d) : borM m e w' env Q' E' := by
  cases m
  · exact ih hQ h
  · exact bor_mono h (ih hQ) hQ
theorem onInt_mono {x : D} {K K' : Int → Prop} (hK : ∀ d, K d → K' d) (h : onInt x K) : onInt x K' := by
  unfold onInt at h ⊢
  split <;> simp only at h
  exact hK _ h
theorem onTru_mono {x : D} {K K' : Bool → Prop} (hK : ∀ d, K d → K' d) (h : onTru x K) : onTru x K' := by
  unfold onTru at h ⊢
  split <;> rename_i e <;> rw [e] at h
  · exact hK _ h
  · exact h
theorem onBool_mono {x : D} {K K' : Bool → Prop} (hK : ∀ d, K d → K' d) (h : onBool x K) : onBool x K' := by
  unfold onBool at h ⊢
  split <;> simp only at h
  exact hK _ h
theorem onItems_mono {x : D} {K K' : List D → Prop} (hK : ∀ d, K d → K' d) (h : onItems x K) : onItems x K' := by
  unfold onItems at h ⊢
  split <;> rename_i e <;> rw [e] at h
  · exact hK _ h
  · exact h
theorem onClo_mono {x : Option Sl} {K K' : Nat → List D → Prop} (hK : ∀ k d, K k d → K' k d) (h : onClo x K) : onClo x K' := by
  unfold onClo at h ⊢
  split <;> simp only at h
  exact hK _ _ h
theorem onOwn_mono {x : Option Sl} {K K' : D → Prop} (hK : ∀ d, K d → K' d) (h : onOwn x K) : onOwn x K' := by
  unfold onOwn at h ⊢
  split <;> simp only at h
  exact hK _ h
theorem onVal_mono {x : Option Sl} {K K' : D → Prop} (hK : ∀ d, K d → K' d) (h : onVal x K) : onVal x K' := by
  unfold onVal at h ⊢
  split <;> simp only at h
  exact hK _ h
theorem onLst_mono {x : D} {K K' : List D → Prop} (hK : ∀ d, K d → K' d) (h : onLst x K) : onLst x K' := by
  unfold onLst at h ⊢
  split <;> simp only at h
  exact hK _ h
theorem dicD_mono {ps : List (D × D)} {K K' : DK} (hK : ∀ d, K d → K' d) (h : dicD ps K) : dicD ps K' := by
  unfold dicD at h ⊢
  split <;> simp only at h
  · exact h.imp (hK _) (hK _)
  · split <;> rename_i e <;> simp only [e] at h
    exact hK _ h
theorem revD_mono {x : D} {K K' : DK} (hK : ∀ d, K d → K' d) (h : revD x K) : revD x K' := by
  unfold revD at h ⊢
  split <;> simp only at h <;> exact hK _ h
theorem itD_mono {x : D} {K K' : DK} (hK : ∀ d, K d → K' d) (h : itD x K) : itD x K' := by
  unfold itD at h ⊢
  split <;> simp only at h <;> exact hK _ h
theorem ite_mono {b : Bool} {A B A' B' : Prop} (h1 : A → A') (h2 : B → B') (h : if b = true then A else B) : if b = true then A' else B' := by
  cases b
  · exact h2 h
  · exact h1 h
theorem binD_mono {op : BOp} {x y : D} {K K' : DK} (hK : ∀ d, K d → K' d) (h : binD op x y K) : binD op x y K' := by
  unfold binD at h ⊢
  split <;> simp only at h <;> first
    | exact hK _ h
    | exact ⟨h.1, hK _ h.2⟩
    | exact ⟨h.1, h.2.1, hK _ h.2.2⟩
    | exact ⟨h.1, h.2.1, h.2.2.1, hK _ h.2.2.2⟩
    | exact h
theorem eqD_mono {x y : D} {K K' : Bool → Prop} (hK : ∀ d, K d → K' d) (h : eqD x y K) : eqD x y K' := by
  unfold eqD at h ⊢
  cases e1 : x.toPy <;> cases e2 : y.toPy <;> rw [e1, e2] at h <;> try exact h
  exact ⟨h.1, h.2.1, hK _ h.2.2⟩
theorem inD_mono {x y : D} {K K' : Bool → Prop} (hK : ∀ d, K d → K' d) (h : inD x y K) : inD x y K' := by
  unfold inD at h ⊢
  cases y <;> simp only at h ⊢ <;> try exact h
  · cases x <;> simp only at h ⊢ <;> first
      | exact hK _ h
      | exact h
  · revert h
    cases x.toPy <;> try exact id
    rename_i p
    rename_i ys
    cases toPyL ys <;> try exact id
    exact fun h => ⟨h.1, h.2.1, hK _ h.2.2⟩
  · revert h
    cases keyD x <;> try exact id
    exact hK _
  · cases x <;> simp only at h ⊢ <;> try exact h
    rename_i xs
    revert h
    cases keysD xs <;> try exact id
    exact hK _
theorem cmpD_mono {op : COp} {x y : D} {K K' : DK} (hK : ∀ d, K d → K' d) (h : cmpD op x y K) : cmpD op x y K' := by
  cases op
  · exact eqD_mono (K := fun b => K (.bl b)) (fun b => hK _) h
  · exact eqD_mono (K := fun b => K (.bl (!b))) (fun b => hK _) h
  · revert h
    cases x <;> cases y <;> first
      | exact id
      | exact hK _
  · revert h
    cases x <;> cases y <;> first
      | exact id
      | exact hK _
  · revert h
    cases x <;> cases y <;> first
      | exact id
      | exact hK _
  · revert h
    cases x <;> cases y <;> first
      | exact id
      | exact hK _
  · revert h
    cases y <;> first
      | exact id
      | exact hK _
      | (cases x <;> first
          | exact id
          | exact hK _)
  · revert h
    cases y <;> first
      | exact id
      | exact hK _
      | (cases x <;> first
          | exact id
          | exact hK _)
  · exact inD_mono (K := fun b => K (.bl b)) (fun b => hK _) h
  · exact inD_mono (K := fun b => K (.bl (!b))) (fun b => hK _) h
theorem idxD_mono {x y : D} {K K' : DK} (hK : ∀ d, K d → K' d) (h : idxD x y K) : idxD x y K' := by
  unfold idxD at h ⊢
  split <;> simp only at h
  · obtain ⟨d, e, h⟩ := h; exact ⟨d, e, hK _ h⟩
  · obtain ⟨d, e, h⟩ := h; exact ⟨d, e, hK _ h⟩
  · obtain ⟨d, e, h⟩ := h; exact ⟨d, e, hK _ h⟩
  · split <;> rename_i e <;> rw [e] at h <;> simp only at h
    obtain ⟨d, e, h⟩ := h; exact ⟨d, e, hK _ h⟩
  · split <;> rename_i e <;> rw [e] at h <;> simp only at h
    obtain ⟨d, e, h⟩ := h; exact ⟨d, e, hK _ h⟩
  all_goals exact h
theorem slcD_mono {x : D} {l h : Option Int} {K K' : DK} (hK : ∀ d, K d → K' d) (hh : slcD x l h K) : slcD x l h K' := by
  unfold slcD at hh ⊢
  split <;> simp only at hh <;> first
    | exact hK _ hh
    | exact hh
theorem biD_mono {b : BI} {xs : List D} {K K' : DK} (hK : ∀ d, K d → K' d) (h : biD b xs K) : biD b xs K' := by
  unfold biD at h ⊢
  split <;> simp only at h <;> first
    | exact hK _ h
    | exact ⟨h.1, hK _ h.2⟩
    | (obtain ⟨bs, e, h⟩ := h; exact ⟨bs, e, hK _ h⟩)
    | (obtain ⟨bs, e, h1, h⟩ := h; exact ⟨bs, e, h1, fun ts a b => hK _ (h ts a b)⟩)
    | exact h
theorem mtD_mono {m : Mt} {x : D} {xs : List D} {K K' : DK} (hK : ∀ d, K d → K' d) (h : mtD m x xs K) : mtD m x xs K' := by
  unfold mtD at h ⊢
  split <;> simp only at h
  · obtain ⟨bs, e, h1, h⟩ := h; exact ⟨bs, e, h1, hK _ h⟩
  · exact ⟨h.1, h.2.1, hK _ h.2.2⟩
  all_goals exact h
theorem getDD_mono {x y z : D} {K K' : DK} (hK : ∀ d, K d → K' d) (h : getDD x y z K) : getDD x y z K' := by
  unfold getDD at h ⊢
  cases x <;> simp only at h ⊢ <;> try exact h
  · revert h
    cases keyD y <;> try exact id
    exact hK _
  · cases y <;> simp only at h ⊢ <;> try exact h
    rename_i xs
    revert h
    cases keysD xs <;> try exact id
    exact hK _
theorem lcLoop_mono {g : D → DEnv → Option DEnv} {c c' : DEnv → (Bool → Prop) → Prop} {f f' : DEnv → DK → Prop} {env : DEnv} {K K' : DK} (hc : ∀ e k k', (∀ b, k b → k' b) → c e k → c' e k') (hf : ∀ e k k', (∀ b, k b → k' b) → f e k → f' e k')
    (hK : ∀ d, K d → K' d) : ∀ (ds acc : List D), lcLoop g c f env K ds acc → lcLoop g c' f' env K' ds acc
  | [], acc, h => hK _ h
  | d :: r, acc, h => by
    obtain ⟨e1, h1, h2⟩ := h
    refine ⟨e1, h1, hc _ _ _ (fun b hb => ?_) h2⟩
    cases b with
    | true =>
      rw [if_pos rfl] at hb ⊢
      exact hf _ _ _ (fun y hy => lcLoop_mono hc hf hK r _ hy) hb
    | false =>
      rw [if_neg (by decide)] at hb ⊢
      exact lcLoop_mono hc hf hK r _ hb
/-- what a def does is monotone -/
def PFM (pf pf' : PF) : Prop := ∀ k ds (Q Q' : DK) (E E' : EK), (∀ d, Q d → Q' d) → (∀ x, E x → E' x) → pf k ds Q E → pf' k ds Q' E'
structure PCM (pc pc' : PC) : Prop where
  run : ∀ k cs (Q Q' : DK) (E E' : EK), (∀ d, Q d → Q' d) → (∀ x, E x → E' x) → pc.run k cs Q E → pc'.run k cs Q' E'
  lam : ∀ k n b, pc.lam k n b → pc'.lam k n b
section
variable {pf pf' : PF} {pc pc' : PC} (mf : PFM pf pf') (mc : PCM pc pc')
include mf mc
mutual
theorem wE_mono : ∀ (e : IE) (env : DEnv) (Q Q' : DK) (E E' : EK), (∀ d, Q d → Q' d) → (∀ x, E x → E' x) → wE pf pc e env Q E → wE pf' pc' e env Q' E'
  | .slot i, env, Q, Q', E, E', hQ, hE, h => by
    unfold wE at h ⊢
    revert h
    split <;> first
      | exact hQ _
      | exact id
  | .cn d, env, Q, Q', E, E', hQ, hE, h => by
    unfold wE at h ⊢
    exact hQ _ h
  | .bin op a b, env, Q, Q', E, E', hQ, hE, h => by
    unfold wE at h ⊢
    exact wb_mono h (fun k => wE_mono a env _ _ E E' k hE) fun x hx => wb_mono hx (fun k => wE_mono b env _ _ E E' k hE) fun y hy => binD_mono hQ hy
  | .neg a, env, Q, Q', E, E', hQ, hE, h => by
    unfold wE at h ⊢
    have key := fun x h => onInt_mono (x := x) (fun i => hQ (.int (-i))) h
    exact wb_mono h (fun k => wE_mono a env _ _ E E' k hE) key
  | .cmp op a b, env, Q, Q', E, E', hQ, hE, h => by
    unfold wE at h ⊢
    exact wb_mono h (fun k => wE_mono a env _ _ E E' k hE) fun x hx => wb_mono hx (fun k => wE_mono b env _ _ E E' k hE) fun y hy => cmpD_mono hQ hy
  | .chain op op' a b c, env, Q, Q', E, E', hQ, hE, h => by
    unfold wE at h ⊢
    have k3 : ∀ y w : D, cmpD op' y w Q → cmpD op' y w Q' := fun y w => cmpD_mono hQ
    have k2 : ∀ y : D, ∀ z : D, onBool z (fun t => if t = true then bor c (wE pf pc c) env (fun w => cmpD op' y w Q) E else Q (.bl false)) → onBool z (fun t => if t = true then bor c (wE pf' pc' c) env (fun w => cmpD op' y w Q') E' else Q' (.bl false)) := fun y z hz =>
      onBool_mono (fun t ht => ite_mono (fun h => bor_mono h (wE_mono c env _ _ E E' (k3 y) hE) (k3 y)) (hQ _) ht) hz
    exact wb_mono h (fun k => wE_mono a env _ _ E E' k hE) fun x hx => wb_mono hx (fun k => wE_mono b env _ _ E E' k hE) fun y hy => cmpD_mono (k2 y) hy
  | .and a b, env, Q, Q', E, E', hQ, hE, h => by
    unfold wE at h ⊢
    exact wE_mono a env _ _ E E' (fun x hx => onTru_mono (fun t ht => ite_mono (wE_mono b env Q Q' E E' hQ hE) (hQ _) ht) hx) hE h
  | .or a b, env, Q, Q', E, E', hQ, hE, h => by
    unfold wE at h ⊢
    exact wE_mono a env _ _ E E' (fun x hx => onTru_mono (fun t ht => ite_mono (hQ _) (wE_mono b env Q Q' E E' hQ hE) ht) hx) hE h
  | .not a, env, Q, Q', E, E', hQ, hE, h => by
    unfold wE at h ⊢
    have key := fun x h => onTru_mono (x := x) (fun i => hQ (.bl (!i))) h
    exact wb_mono h (fun k => wE_mono a env _ _ E E' k hE) key
  | .ite t a b, env, Q, Q', E, E', hQ, hE, h => by
    unfold wE at h ⊢
    exact wT_mono t env _ _ E E' (fun t ht => ite_mono (wE_mono a env Q Q' E E' hQ hE) (wE_mono b env Q Q' E E' hQ hE) ht) hE h
  | .tup es, env, Q, Q', E, E', hQ, hE, h => by
    unfold wE at h ⊢
    exact wEs_mono es env _ _ E E' (fun _ => hQ _) hE h
  | .lst es, env, Q, Q', E, E', hQ, hE, h => by
    unfold wE at h ⊢
    exact wEs_mono es env _ _ E E' (fun _ => hQ _) hE h
  | .dic ps, env, Q, Q', E, E', hQ, hE, h => by
    unfold wE at h ⊢
    exact wPs_mono ps env _ _ E E' (fun ps => dicD_mono hQ) hE h
  | .idx a b, env, Q, Q', E, E', hQ, hE, h => by
    unfold wE at h ⊢
    exact wb_mono h (fun k => wE_mono a env _ _ E E' k hE) fun x hx => wb_mono hx (fun k => wE_mono b env _ _ E E' k hE) fun y hy => idxD_mono hQ hy
  | .slc a lo hi, env, Q, Q', E, E', hQ, hE, h => by
    unfold wE at h ⊢
    have key : ∀ x : D, wO pf pc lo env (fun l => wO pf pc hi env (fun h => slcD x l h Q) E) E → wO pf' pc' lo env (fun l => wO pf' pc' hi env (fun h => slcD x l h Q') E') E' := fun x hx =>
      wO_mono lo env _ _ E E' (fun l hl => wO_mono hi env _ _ E E' (fun u hu => slcD_mono hQ hu) hE hl) hE hx
    exact wb_mono h (fun k => wE_mono a env _ _ E E' k hE) key
  | .rev a, env, Q, Q', E, E', hQ, hE, h => by
    unfold wE at h ⊢
    have key := fun x h => revD_mono (x := x) hQ h
    exact wb_mono h (fun k => wE_mono a env _ _ E E' k hE) key
  | .call f es, env, Q, Q', E, E', hQ, hE, h => by
    unfold wE at h ⊢
    exact wEs_mono es env _ _ E E' (fun ds => mf f ds Q Q' E E' hQ hE) hE h
  | .callk f es perm, env, Q, Q', E, E', hQ, hE, h => by
    unfold wE at h ⊢
    exact wEs_mono es env _ _ E E' (fun ds => mf f _ Q Q' E E' hQ hE) hE h
  | .bi b es, env, Q, Q', E, E', hQ, hE, h => by
    unfold wE at h ⊢
    exact wBs_mono es env _ _ E E' (fun ds => biD_mono hQ) hE h
  | .mt m a es, env, Q, Q', E, E', hQ, hE, h => by
    unfold wE at h ⊢
    have key : ∀ x : D, (mtT m x = true ∧ wBs pf pc es env (fun ds => mtD m x ds Q) E) → (mtT m x = true ∧ wBs pf' pc' es env (fun ds => mtD m x ds Q') E') := fun x hx => ⟨hx.1, wBs_mono es env _ _ E E' (fun ds => mtD_mono hQ) hE hx.2⟩
    exact wb_mono h (fun k => wE_mono a env _ _ E E' k hE) key
  | .get a k d, env, Q, Q', E, E', hQ, hE, h => by
    unfold wE at h ⊢
    have key2 := fun (x y : D) (hy : wD pf pc d env (fun z => getDD x y z Q) E) => wD_mono d env _ _ E E' (fun z => getDD_mono hQ) hE hy
    have key : ∀ x : D, (isDic x = true ∧ bor k (wE pf pc k) env (fun y => wD pf pc d env (fun z => getDD x y z Q) E) E) → (isDic x = true ∧ bor k (wE pf' pc' k) env (fun y => wD pf' pc' d env (fun z => getDD x y z Q') E') E') := fun x hx => ⟨hx.1, wb_mono hx.2 (fun kk => wE_mono k env _ _ E E' kk hE) (key2 x)⟩
    exact wb_mono h (fun k => wE_mono a env _ _ E E' k hE) key
  | .isi a ts, env, Q, Q', E, E', hQ, hE, h => by
    unfold wE at h ⊢
    have key : ∀ x : D, (∃ bs : List Bool, ts.map (fun t => tyD t x) = bs.map some ∧ Q (.bl (bs.any id))) → ∃ bs : List Bool, ts.map (fun t => tyD t x) = bs.map some ∧ Q' (.bl (bs.any id)) := fun x ⟨bs, e, q⟩ => ⟨bs, e, hQ _ q⟩
    exact wb_mono h (fun k => wE_mono a env _ _ E E' k hE) key
  | .lc elt tg src c own, env, Q, Q', E, E', hQ, hE, h => by
    unfold wE at h ⊢
    have key : ∀ ds, lcLoop (fun d e => asg tg d e) (fun e k => wC pf pc c e k) (fun e k => wE pf pc elt e k fun _ => False) (wipeD env own) Q ds [] → lcLoop (fun d e => asg tg d e) (fun e k => wC pf' pc' c e k) (fun e k => wE pf' pc' elt e k fun _ => False) (wipeD env own) Q' ds [] := fun ds hd => lcLoop_mono (fun e k k' hk hh => wC_mono c e k k' hk hh) (fun e k k' hk hh => wE_mono elt e k k' _ _ hk (fun _ z => z) hh) hQ ds [] hd
    cases q : dkeys src env with
    | some ds =>
      rw [q] at h
      exact key ds h
    | none =>
    rw [q] at h
    refine wSrc_mono true src env _ _ E E' (fun ds hd => ?_) hE h
    exact lcLoop_mono (fun e k k' hk hh => wC_mono c e k k' hk hh) (fun e k k' hk hh => wE_mono elt e k k' _ _ hk (fun _ z => z) hh) hQ ds [] hd
  | .lrg a b c, env, Q, Q', E, E', hQ, hE, h => by
    unfold wE at h ⊢
    have k3 := fun (x y z : D) (h : onInt x fun i => onInt y fun j => onInt z fun k => (k = 1 ∨ k = -1) ∧ small i ∧ small j ∧ (i - j).natAbs ≤ 100000 ∧ Q (.lst (rangeD i j k))) =>
      onInt_mono (fun i => onInt_mono fun j => onInt_mono fun k (h : (k = 1 ∨ k = -1) ∧ small i ∧ small j ∧ (i - j).natAbs ≤ 100000 ∧ Q (.lst (rangeD i j k))) => (⟨h.1, h.2.1, h.2.2.1, h.2.2.2.1, hQ _ h.2.2.2.2⟩ : (k = 1 ∨ k = -1) ∧ small i ∧ small j ∧ (i - j).natAbs ≤ 100000 ∧ Q' (.lst (rangeD i j k)))) h
    exact wb_mono h (fun k => wE_mono a env _ _ E E' k hE) fun x hx => wb_mono hx (fun k => wE_mono b env _ _ E E' k hE) fun y hy => wb_mono hy (fun k => wE_mono c env _ _ E E' k hE) (k3 x y)
  | .items a, env, Q, Q', E, E', hQ, hE, h => by
    unfold wE at h ⊢
    have key := fun x h => itD_mono (x := x) hQ h
    exact wb_mono h (fun k => wE_mono a env _ _ E E' k hE) key
  | .calls i, env, Q, Q', E, E', hQ, hE, h => by
    unfold wE at h ⊢
    exact onClo_mono (fun k cs h => mc.run k cs Q Q' E E' hQ hE h) h
  | .callL f es, env, Q, Q', E, E', hQ, hE, h => by
    unfold wE at h ⊢
    exact wEs_mono es env _ _ E E' (fun ds => mf f ds _ _ _ _ (fun d z => ⟨z.1, hQ d z.2⟩) (fun x z => ⟨z.1, hE x z.2⟩)) hE h
termination_by e => (sizeOf e, 0)
theorem wEs_mono : ∀ (es : IEs) (env : DEnv) (Q Q' : List D → Prop) (E E' : EK), (∀ d, Q d → Q' d) → (∀ x, E x → E' x) → wEs pf pc es env Q E → wEs pf' pc' es env Q' E'
  | .nil, env, Q, Q', E, E', hQ, hE, h => by
    unfold wEs at h ⊢
    exact hQ _ h
  | .cons e r, env, Q, Q', E, E', hQ, hE, h => by
    unfold wEs at h ⊢
    exact wE_mono e env _ _ E E' (fun x hx => wEs_mono r env _ _ E E' (fun xs => hQ _) hE hx) hE h
  | .lam k b caps r, env, Q, Q', E, E', hQ, hE, h => by
    unfold wEs at h ⊢
    obtain ⟨h1, cs, h2, h3, h4⟩ := h
    exact ⟨mc.lam _ _ _ h1, cs, h2, h3, wEs_mono r env _ _ E E' (fun xs => hQ _) hE h4⟩
termination_by e => (sizeOf e, 0)
theorem wPs_mono : ∀ (ps : IPs) (env : DEnv) (Q Q' : List (D × D) → Prop) (E E' : EK), (∀ d, Q d → Q' d) → (∀ x, E x → E' x) → wPs pf pc ps env Q E → wPs pf' pc' ps env Q' E'
  | .nil, env, Q, Q', E, E', hQ, hE, h => by
    unfold wPs at h ⊢
    exact hQ _ h
  | .cons k v r, env, Q, Q', E, E', hQ, hE, h => by
    unfold wPs at h ⊢
    exact wE_mono k env _ _ E E' (fun x hx => wE_mono v env _ _ E E' (fun y hy => wPs_mono r env _ _ E E' (fun r => hQ _) hE hy) hE hx) hE h
termination_by e => (sizeOf e, 0)
theorem wBs_mono : ∀ (es : IEs) (env : DEnv) (Q Q' : List D → Prop) (E E' : EK), (∀ d, Q d → Q' d) → (∀ x, E x → E' x) → wBs pf pc es env Q E → wBs pf' pc' es env Q' E'
  | .nil, env, Q, Q', E, E', hQ, hE, h => by
    unfold wBs at h ⊢
    exact hQ _ h
  | .cons e r, env, Q, Q', E, E', hQ, hE, h => by
    unfold wBs at h ⊢
    have key := fun x hx => wBs_mono r env _ _ E E' (fun xs => hQ (x :: xs)) hE hx
    exact wb_mono h (fun k => wE_mono e env _ _ E E' k hE) key
  | .lam k b caps r, env, Q, Q', E, E', hQ, hE, h => by
    unfold wBs at h ⊢
    exact h
termination_by e => (sizeOf e, 0)
theorem wO_mono : ∀ (o : IO) (env : DEnv) (Q Q' : Option Int → Prop) (E E' : EK), (∀ d, Q d → Q' d) → (∀ x, E x → E' x) → wO pf pc o env Q E → wO pf' pc' o env Q' E'
  | .none, env, Q, Q', E, E', hQ, hE, h => by
    unfold wO at h ⊢
    exact hQ _ h
  | .some e, env, Q, Q', E, E', hQ, hE, h => by
    unfold wO at h ⊢
    have key := fun x h => onInt_mono (x := x) (fun i => hQ (some i)) h
    exact wb_mono h (fun k => wE_mono e env _ _ E E' k hE) key
termination_by e => (sizeOf e, 0)
theorem wD_mono : ∀ (o : IO) (env : DEnv) (Q Q' : DK) (E E' : EK), (∀ d, Q d → Q' d) → (∀ x, E x → E' x) → wD pf pc o env Q E → wD pf' pc' o env Q' E'
  | .none, env, Q, Q', E, E', hQ, hE, h => by
    unfold wD at h ⊢
    exact hQ _ h
  | .some e, env, Q, Q', E, E', hQ, hE, h => by
    unfold wD at h ⊢
    exact wE_mono e env _ _ E E' hQ hE h
termination_by e => (sizeOf e, 0)
theorem wC_mono : ∀ (o : IO) (env : DEnv) (Q Q' : Bool → Prop), (∀ d, Q d → Q' d) → wC pf pc o env Q → wC pf' pc' o env Q'
  | .none, env, Q, Q', hQ, h => by
    unfold wC at h ⊢
    exact hQ _ h
  | .some e, env, Q, Q', hQ, h => by
    unfold wC at h ⊢
    exact wT_mono e env Q Q' _ _ hQ (fun _ z => z) h
termination_by e => (sizeOf e, 0)
theorem wT_mono : ∀ (e : IE) (env : DEnv) (Q Q' : Bool → Prop) (E E' : EK), (∀ d, Q d → Q' d) → (∀ x, E x → E' x) → wT pf pc e env Q E → wT pf' pc' e env Q' E'
  | .and a b, env, Q, Q', E, E', hQ, hE, h => by
    unfold wT at h ⊢
    exact wT_mono a env _ _ E E' (fun t ht => ite_mono (wT_mono b env Q Q' E E' hQ hE) (hQ _) ht) hE h
  | .or a b, env, Q, Q', E, E', hQ, hE, h => by
    unfold wT at h ⊢
    exact wT_mono a env _ _ E E' (fun t ht => ite_mono (hQ _) (wT_mono b env Q Q' E E' hQ hE) ht) hE h
  | .not a, env, Q, Q', E, E', hQ, hE, h => by
    unfold wT at h ⊢
    exact wT_mono a env _ _ E E' (fun t => hQ _) hE h
  | .ite t a b, env, Q, Q', E, E', hQ, hE, h => by
    unfold wT at h ⊢
    exact wT_mono t env _ _ E E' (fun t ht => ite_mono (wT_mono a env Q Q' E E' hQ hE) (wT_mono b env Q Q' E E' hQ hE) ht) hE h
  | .slot i, env, Q, Q', E, E', hQ, hE, h => by
    unfold wT at h ⊢
    have key := fun x h => onTru_mono (x := x) hQ h
    exact wb_mono h (fun k => wE_mono (.slot i) env _ _ E E' k hE) key
  | .cn d, env, Q, Q', E, E', hQ, hE, h => by
    unfold wT at h ⊢
    have key := fun x h => onTru_mono (x := x) hQ h
    exact wb_mono h (fun k => wE_mono (.cn d) env _ _ E E' k hE) key
  | .bin op a b, env, Q, Q', E, E', hQ, hE, h => by
    unfold wT at h ⊢
    have key := fun x h => onTru_mono (x := x) hQ h
    exact wb_mono h (fun k => wE_mono (.bin op a b) env _ _ E E' k hE) key
  | .neg a, env, Q, Q', E, E', hQ, hE, h => by
    unfold wT at h ⊢
    have key := fun x h => onTru_mono (x := x) hQ h
    exact wb_mono h (fun k => wE_mono (.neg a) env _ _ E E' k hE) key
  | .cmp op a b, env, Q, Q', E, E', hQ, hE, h => by
    unfold wT at h ⊢
    have key := fun x h => onTru_mono (x := x) hQ h
    exact wb_mono h (fun k => wE_mono (.cmp op a b) env _ _ E E' k hE) key
  | .chain op op' a b c, env, Q, Q', E, E', hQ, hE, h => by
    unfold wT at h ⊢
    have key := fun x h => onTru_mono (x := x) hQ h
    exact wb_mono h (fun k => wE_mono (.chain op op' a b c) env _ _ E E' k hE) key
  | .tup es, env, Q, Q', E, E', hQ, hE, h => by
    unfold wT at h ⊢
    have key := fun x h => onTru_mono (x := x) hQ h
    exact wb_mono h (fun k => wE_mono (.tup es) env _ _ E E' k hE) key
  | .lst es, env, Q, Q', E, E', hQ, hE, h => by
    unfold wT at h ⊢
    have key := fun x h => onTru_mono (x := x) hQ h
    exact wb_mono h (fun k => wE_mono (.lst es) env _ _ E E' k hE) key
  | .dic ps, env, Q, Q', E, E', hQ, hE, h => by
    unfold wT at h ⊢
    have key := fun x h => onTru_mono (x := x) hQ h
    exact wb_mono h (fun k => wE_mono (.dic ps) env _ _ E E' k hE) key
  | .idx a b, env, Q, Q', E, E', hQ, hE, h => by
    unfold wT at h ⊢
    have key := fun x h => onTru_mono (x := x) hQ h
    exact wb_mono h (fun k => wE_mono (.idx a b) env _ _ E E' k hE) key
  | .slc a lo hi, env, Q, Q', E, E', hQ, hE, h => by
    unfold wT at h ⊢
    have key := fun x h => onTru_mono (x := x) hQ h
    exact wb_mono h (fun k => wE_mono (.slc a lo hi) env _ _ E E' k hE) key
  | .rev a, env, Q, Q', E, E', hQ, hE, h => by
    unfold wT at h ⊢
    have key := fun x h => onTru_mono (x := x) hQ h
    exact wb_mono h (fun k => wE_mono (.rev a) env _ _ E E' k hE) key
  | .call f es, env, Q, Q', E, E', hQ, hE, h => by
    unfold wT at h ⊢
    have key := fun x h => onTru_mono (x := x) hQ h
    exact wb_mono h (fun k => wE_mono (.call f es) env _ _ E E' k hE) key
  | .callk f es perm, env, Q, Q', E, E', hQ, hE, h => by
    unfold wT at h ⊢
    have key := fun x h => onTru_mono (x := x) hQ h
    exact wb_mono h (fun k => wE_mono (.callk f es perm) env _ _ E E' k hE) key
  | .bi b es, env, Q, Q', E, E', hQ, hE, h => by
    unfold wT at h ⊢
    have key := fun x h => onTru_mono (x := x) hQ h
    exact wb_mono h (fun k => wE_mono (.bi b es) env _ _ E E' k hE) key
  | .mt m a es, env, Q, Q', E, E', hQ, hE, h => by
    unfold wT at h ⊢
    have key := fun x h => onTru_mono (x := x) hQ h
    exact wb_mono h (fun k => wE_mono (.mt m a es) env _ _ E E' k hE) key
  | .get a k d, env, Q, Q', E, E', hQ, hE, h => by
    unfold wT at h ⊢
    have key := fun x h => onTru_mono (x := x) hQ h
    exact wb_mono h (fun kk => wE_mono (.get a k d) env _ _ E E' kk hE) key
  | .isi a ts, env, Q, Q', E, E', hQ, hE, h => by
    unfold wT at h ⊢
    have key := fun x h => onTru_mono (x := x) hQ h
    exact wb_mono h (fun k => wE_mono (.isi a ts) env _ _ E E' k hE) key
  | .lc elt tg src c own, env, Q, Q', E, E', hQ, hE, h => by
    unfold wT at h ⊢
    have key := fun x h => onTru_mono (x := x) hQ h
    exact wb_mono h (fun k => wE_mono (.lc elt tg src c own) env _ _ E E' k hE) key
  | .lrg a b c, env, Q, Q', E, E', hQ, hE, h => by
    unfold wT at h ⊢
    have key := fun x h => onTru_mono (x := x) hQ h
    exact wb_mono h (fun k => wE_mono (.lrg a b c) env _ _ E E' k hE) key
  | .items a, env, Q, Q', E, E', hQ, hE, h => by
    unfold wT at h ⊢
    have key := fun x h => onTru_mono (x := x) hQ h
    exact wb_mono h (fun k => wE_mono (.items a) env _ _ E E' k hE) key
  | .calls i, env, Q, Q', E, E', hQ, hE, h => by
    unfold wT at h ⊢
    have key := fun x h => onTru_mono (x := x) hQ h
    exact wb_mono h (fun k => wE_mono (.calls i) env _ _ E E' k hE) key
  | .callL f es, env, Q, Q', E, E', hQ, hE, h => by
    unfold wT at h ⊢
    have key := fun x h => onTru_mono (x := x) hQ h
    exact wb_mono h (fun k => wE_mono (.callL f es) env _ _ E E' k hE) key
termination_by e => (sizeOf e, 1)
theorem wSrc_mono (m : Bool) : ∀ (s : ISrc) (env : DEnv) (Q Q' : List D → Prop) (E E' : EK), (∀ d, Q d → Q' d) → (∀ x, E x → E' x) → wSrc pf pc m s env Q E → wSrc pf' pc' m s env Q' E'
  | .val e, env, Q, Q', E, E', hQ, hE, h => by
    unfold wSrc at h ⊢
    have key := fun x h => onItems_mono (x := x) hQ h
    exact wbM_mono h (fun k => wE_mono e env _ _ E E' k hE) key
  | .enum e k, env, Q, Q', E, E', hQ, hE, h => by
    unfold wSrc at h ⊢
    have key := fun x h => onItems_mono (x := x) (fun ds (h : small k ∧ Q (ds.zipIdx.map fun p => .tup [.int (k + (p.2 : Nat)), p.1])) => (⟨h.1, hQ _ h.2⟩ : small k ∧ Q' (ds.zipIdx.map fun p => .tup [.int (k + (p.2 : Nat)), p.1]))) h
    exact wbM_mono h (fun k => wE_mono e env _ _ E E' k hE) key
  | .zip a b, env, Q, Q', E, E', hQ, hE, h => by
    unfold wSrc at h ⊢
    have k2 := fun (x y : D) (h : onItems x fun ds => onItems y fun es => Q ((ds.zip es).map fun p => .tup [p.1, p.2])) => onItems_mono (fun ds => onItems_mono fun es => hQ ((ds.zip es).map fun p => .tup [p.1, p.2])) h
    exact wbM_mono h (fun k => wE_mono a env _ _ E E' k hE) fun x hx => wbM_mono hx (fun k => wE_mono b env _ _ E E' k hE) (k2 x)
  | .rng a b c, env, Q, Q', E, E', hQ, hE, h => by
    unfold wSrc at h ⊢
    have k2 := fun (x y : D) (h : onInt x fun i => onInt y fun j => (c = 1 ∨ c = -1) ∧ small i ∧ small j ∧ (i - j).natAbs ≤ 100000 ∧ Q (rangeD i j c)) =>
      onInt_mono (fun i => onInt_mono fun j (h : (c = 1 ∨ c = -1) ∧ small i ∧ small j ∧ (i - j).natAbs ≤ 100000 ∧ Q (rangeD i j c)) => (⟨h.1, h.2.1, h.2.2.1, h.2.2.2.1, hQ _ h.2.2.2.2⟩ : (c = 1 ∨ c = -1) ∧ small i ∧ small j ∧ (i - j).natAbs ≤ 100000 ∧ Q' (rangeD i j c))) h
    exact wb_mono h (fun k => wE_mono a env _ _ E E' k hE) fun x hx => wb_mono hx (fun k => wE_mono b env _ _ E E' k hE) (k2 x)
termination_by e => (sizeOf e, 0)
end
end
end Dl
namespace Dl
open PySem PySem.Spec PyProof.Rows L2
structure KS.Le (K K' : KS) : Prop where
  nx : ∀ e, K.nx e → K'.nx e
  rt : ∀ d, K.rt d → K'.rt d
  bk : ∀ e, K.bk e → K'.bk e
  ct : ∀ e, K.ct e → K'.ct e
  ex : ∀ e x, K.ex e x → K'.ex e x
theorem setD_mono {x k v : D} {K K' : D → Prop} (hK : ∀ d, K d → K' d) (h : setD x k v K) : setD x k v K' := by
  unfold setD at h ⊢
  split <;> simp only at h
  · obtain ⟨j, e, h⟩ := h; exact ⟨j, e, hK _ h⟩
  · split <;> rename_i e <;> rw [e] at h <;> simp only at h
    exact ⟨h.1, hK _ h.2⟩
theorem hdsD_mono {K K' : KS} (hK : K.Le K') : ∀ (hs : List Hd) (env : DEnv) (x : XV), hdsD hs env x K → hdsD hs env x K'
  | [], env, x, h => by
    unfold hdsD at h ⊢
    exact hK.ex _ _ h
  | .mk c i ret j word :: r, env, x, h => by
    unfold hdsD at h ⊢
    by_cases hc : c = x.c
    · rw [if_pos hc] at h ⊢
      obtain ⟨a, e, hi, h⟩ := h
      refine ⟨a, e, hi, ?_⟩
      cases ret
      · exact hK.nx _ h
      · exact hK.rt _ h
    · rw [if_neg hc] at h ⊢
      exact hdsD_mono hK r env x h
theorem forLoop_mono {g : D → DEnv → Option DEnv} {b b' : DEnv → KS → Prop} (hb : ∀ e K K', KS.Le K K' → b e K → b' e K') {K K' : KS} (hK : K.Le K') : ∀ (ds : List D) (env : DEnv), forLoop g b K ds env → forLoop g b' K' ds env
  | [], env, h => hK.nx _ h
  | d :: r, env, h => by
    obtain ⟨e1, h1, h2⟩ := h
    refine ⟨e1, h1, hb _ _ _ ?_ h2⟩
    exact ⟨fun e he => forLoop_mono hb hK r e he, hK.rt, hK.nx, fun e he => forLoop_mono hb hK r e he, hK.ex⟩
section
variable {pf pf' : PF} {pc pc' : PC} (mf : PFM pf pf') (mc : PCM pc pc')
include mf mc
theorem wB_mono {e : IE} {env : DEnv} {Q Q' : DK} {E E' : EK} (hQ : ∀ d, Q d → Q' d) (hE : ∀ x, E x → E' x) (h : wB pf pc e env Q E) : wB pf' pc' e env Q' E' :=
  wb_mono h (fun k => wE_mono mf mc e env _ _ E E' k hE) hQ
mutual
theorem wS_mono : ∀ (s : IS) (env : DEnv) (K K' : KS), K.Le K' → wS pf pc s env K → wS pf' pc' s env K'
  | .expr sh e, env, K, K', hK, h => by
    unfold wS at h ⊢
    exact wE_mono mf mc e _ _ _ _ _ (fun _ => hK.nx _) (hK.ex _) h
  | .asg sh i e, env, K, K', hK, h => by
    unfold wS at h ⊢
    exact wE_mono mf mc e _ _ _ _ _ (fun _ => hK.nx _) (hK.ex _) h
  | .asgT sh ts e, env, K, K', hK, h => by
    unfold wS at h ⊢
    exact wE_mono mf mc e _ _ _ _ _ (fun _ ⟨e2, a, b⟩ => ⟨e2, a, hK.nx _ b⟩) (hK.ex _) h
  | .par sh js es, env, K, K', hK, h => by
    unfold wS at h ⊢
    exact wEs_mono mf mc es _ _ _ _ _ (fun _ ⟨e2, a, b⟩ => ⟨e2, a, hK.nx _ b⟩) (hK.ex _) h
  | .setk sh i k v, env, K, K', hK, h => by
    unfold wS at h ⊢
    exact onOwn_mono (fun x hx => wE_mono mf mc v _ _ _ _ _ (fun y hy => wB_mono mf mc (fun z hz => setD_mono (fun x' hx' => hK.nx _ hx') hz) (hK.ex _) hy) (hK.ex _) hx) h
  | .app sh i e, env, K, K', hK, h => by
    unfold wS at h ⊢
    exact onOwn_mono (fun x hx => onLst_mono (fun xs hxs => wE_mono mf mc e _ _ _ _ _ (fun y hy => ⟨hy.1, hK.nx _ hy.2⟩) (hK.ex _) hxs) hx) h
  | .extd sh i e, env, K, K', hK, h => by
    unfold wS at h ⊢
    exact onOwn_mono (fun x hx => onLst_mono (fun xs hxs => wB_mono mf mc (fun y hy => onLst_mono (fun ys hys => ⟨hys.1, hK.nx _ hys.2⟩) hy) (hK.ex _) hxs) hx) h
  | .aug i op e, env, K, K', hK, h => by
    unfold wS at h ⊢
    refine onVal_mono (fun x hx => onInt_mono (fun a ha => wB_mono mf mc (fun y hy => onInt_mono (fun b hb => ?_) hy) (hK.ex _) ha) hx) h
    rcases hb with ⟨e, q⟩ | ⟨e, q⟩
    · exact .inl ⟨e, hK.nx _ q⟩
    · exact .inr ⟨e, hK.nx _ q⟩
  | .ret sh e, env, K, K', hK, h => by
    unfold wS at h ⊢
    exact wE_mono mf mc e _ _ _ _ _ hK.rt (hK.ex _) h
  | .retN, env, K, K', hK, h => by
    unfold wS at h ⊢
    exact hK.rt _ h
  | .ite sh t a b, env, K, K', hK, h => by
    unfold wS at h ⊢
    exact wT_mono mf mc t _ _ _ _ _ (fun t ht => ite_mono (wSs_mono a _ K K' hK) (wSs_mono b _ K K' hK) ht) (hK.ex _) h
  | .whl sh t b, env, K, K', hK, h => by
    unfold wS at h ⊢
    obtain ⟨I, h0, h1⟩ := h
    refine ⟨I, h0, fun m e hm => ?_⟩
    refine wT_mono mf mc t _ _ _ _ _ (fun t ht => ite_mono (fun h => ?_) (hK.nx _) ht) (hK.ex _) (h1 m e hm)
    refine wSs_mono b _ _ _ ?_ h
    exact ⟨fun _ z => z, hK.rt, hK.nx, fun _ z => z, hK.ex⟩
  | .for sh t src b, env, K, K', hK, h => by
    unfold wS at h ⊢
    cases q : dkeys src (shr env sh) with
    | some ds =>
      simp only [q] at h
      exact forLoop_mono (K := { K with ex := fun _ _ => False }) (K' := { K' with ex := fun _ _ => False }) (fun e K K' hK hh => wSs_mono b e K K' hK hh) ⟨hK.nx, hK.rt, hK.bk, hK.ct, fun _ _ z => z⟩ ds _ h
    | none =>
      simp only [q] at h
      exact wSrc_mono mf mc false src _ _ _ _ _ (fun ds hd => forLoop_mono (fun e K K' hK hh => wSs_mono b e K K' hK hh) hK ds _ hd) (hK.ex _) h
  | .rais sh c e, env, K, K', hK, h => by
    unfold wS at h ⊢
    exact wE_mono mf mc e _ _ _ _ _ (fun _ => hK.ex _ _) (hK.ex _) h
  | .tryc b hs, env, K, K', hK, h => by
    unfold wS at h ⊢
    refine wSs_mono b _ _ _ ?_ h
    exact ⟨hK.nx, hK.rt, hK.bk, hK.ct, fun e x hx => hdsD_mono hK hs e x hx⟩
  | .pass, env, K, K', hK, h => by
    unfold wS at h ⊢
    exact hK.nx _ h
  | .brk, env, K, K', hK, h => by
    unfold wS at h ⊢
    exact hK.bk _ h
  | .cont, env, K, K', hK, h => by
    unfold wS at h ⊢
    exact hK.ct _ h
theorem wSs_mono : ∀ (s : ISs) (env : DEnv) (K K' : KS), K.Le K' → wSs pf pc s env K → wSs pf' pc' s env K'
  | .nil, env, K, K', hK, h => by
    unfold wSs at h ⊢
    exact hK.nx _ h
  | .cons s r, env, K, K', hK, h => by
    unfold wSs at h ⊢
    refine wS_mono s env _ _ ?_ h
    exact ⟨fun e he => wSs_mono r e K K' hK he, hK.rt, hK.bk, hK.ct, hK.ex⟩
end
end
/-- a spec that may be used -/
def SpecMono (m : PC → List D → DK → EK → Prop) : Prop := ∀ pc, PCM pc pc → ∀ ds (Q Q' : DK) (E E' : EK), (∀ d, Q d → Q' d) → (∀ x, E x → E' x) → m pc ds Q E → m pc ds Q' E'
theorem pFC_mono {fns : Nat → Option FK} {lms : Nat → Option ILam} (hs : ∀ k m, fns k = some (.spec m) → SpecMono m) : ∀ n, PFM (pF fns lms n) (pF fns lms n) ∧ PCM (pC fns lms n) (pC fns lms n)
  | 0 => ⟨fun k ds Q Q' E E' hQ hE h => by
      unfold pF at h
      exact h.elim, ⟨fun k cs Q Q' E E' hQ hE h => by
      unfold pC at h
      exact h.elim, fun _ _ _ h => h⟩⟩
  | n + 1 => by
    obtain ⟨mf, mc⟩ := pFC_mono hs n
    refine ⟨fun k ds Q Q' E E' hQ hE h => ?_, ⟨fun k cs Q Q' E E' hQ hE h => ?_, fun _ _ _ h => h⟩⟩
    · unfold pF at h ⊢
      split <;> rename_i e <;> rw [e] at h <;> simp only at h
      · refine ⟨h.1, h.2.1, wSs_mono mf mc _ _ _ _ ?_ h.2.2⟩
        exact ⟨fun _ => hQ _, hQ, fun _ z => z, fun _ z => z, fun _ => hE⟩
      · exact hs _ _ e _ mc _ _ _ _ _ hQ hE h
    · unfold pC at h ⊢
      simp only at h ⊢
      split <;> rename_i e <;> rw [e] at h <;> simp only at h
      exact ⟨h.1, wE_mono mf mc _ _ _ _ _ _ hQ hE h.2⟩
end Dl
namespace Dl
open PySem PySem.Spec PyProof.Rows L2

/-! ### from the syntax to the inner language -/
structure GC where
  fns : List (Str × Nat)
  kws : List (Str × List Str × List Nat)
  cls : List (Str × Nat)
  cns : List (Str × D)
  flds : List (Nat × Str)
structure CC where
  N : List Str
  sc : Scope
  fn : Str → Bool
  /-- lambdas may stand here -/
  lm : Bool
def slotFrom (x : Str) : List Str → Nat → Option Nat
  | [], _ => none
  | y :: r, n => if y = x then some n else slotFrom x r (n + 1)
def okName (x : Str) : Bool := !(x == ("__debug__" : Str)) && !(x == ("__classdict__" : Str)) && !decide (x = "__name__")
/-- a local name's place -/
def cName (c : CC) (x : Str) : Option Nat := match c.sc.names.lookup x with
  | some .local => if okName x then slotFrom x c.N 0 else none
  | some .cell => if okName x then slotFrom x c.N 0 else none
  | some .free => if okName x then slotFrom x c.N 0 else none
  | _ => none
def isGl (c : CC) (x : Str) : Bool := (match c.sc.names.lookup x with
  | some .globalImplicit => true
  | _ => false) && okName x
def cBop : Operator → Option BOp
  | .Add => some .add
  | .Sub => some .sub
  | .Mult => some .mul
  | .FloorDiv => some .fdiv
  | .Mod => some .mod
  | .Pow => some .pow
  | _ => none
def cCop : CmpOp → COp
  | .Eq => .eq
  | .NotEq => .ne
  | .Lt => .lt
  | .LtE => .le
  | .Gt => .gt
  | .GtE => .ge
  | .Is => .is
  | .IsNot => .isnot
  | .In => .isin
  | .NotIn => .notin
def sokB (s : Str) : Bool := decide (s.length ≤ 1000) && s.cps.toList.all fun c => decide (c < 0x110000)
def builtins : List (Str × BI) := [("len", .len), ("list", .list), ("tuple", .tuple), ("int", .int), ("str", .str), ("min", .min), ("max", .max), ("all", .all), ("any", .any), ("sum", .sum), ("sorted", .sorted), ("dict", .dict), ("abs", .abs), ("bool", .bool), ("repr", .repr)]
def methods : List (Str × Mt) := [("items", .items), ("values", .values), ("join", .join), ("split", .split), ("index", .index), ("count", .count), ("replace", .replace)]
def types : List (Str × Ty) := [("int", .int), ("str", .str), ("list", .list), ("tuple", .tuple), ("dict", .dict), ("bool", .bool)]
def notStar : Expr → Bool
  | .Starred _ _ => false
  | _ => true
def notSet : Expr → Bool
  | .Set _ _ _ => false
  | _ => true
/-- no super() -/
def notSuper : Expr → Bool
  | .Call (.Name id _) [] [] _ => id != "super"
  | _ => true
def isSlice : Expr → Bool
  | .Slice _ _ _ _ => true
  | _ => false
def ownOfT : IT → List Nat
  | .nm i => [i]
  | .tp ts => ownOfTs ts
where ownOfTs : List IT → List Nat
  | [] => []
  | t :: ts => ownOfT t ++ ownOfTs ts
def ieLen : IEs → Nat
  | .nil => 0
  | .cons _ r => ieLen r + 1
  | .lam _ _ _ r => ieLen r + 1
/-- pairs go to a tuple of names -/
def tgOk : ISrc → Expr → Bool
  | .enum _ _, .Tuple _ _ _ => true
  | .enum _ _, _ => false
  | .zip _ _, .Tuple _ _ _ => true
  | .zip _ _, _ => false
  | _, _ => true
def cTy (c : CC) (e : Expr) : Option Ty := match e with
  | .Name t _ => if isGl c t then types.lookup t else none
  | _ => none
def cTys (c : CC) : List Expr → Option (List Ty)
  | [] => some []
  | e :: r => (cTy c e).bind fun t => (cTys c r).map fun ts => t :: ts
/-- where a keyword's value goes -/
def kwPerm (G : GC) (g : Str) (ks : List Str) : Option (List Nat) := (G.kws.find? fun e => decide (e.1 = g) && decide (e.2.1 = ks)).map (·.2.2)
def kwNames : List Keyword → Option (List Str)
  | [] => some []
  | ⟨some n, _, _⟩ :: r => (kwNames r).map fun ns => n :: ns
  | ⟨none, _, _⟩ :: _ => none
def kwVals : List Keyword → List Expr
  | [] => []
  | ⟨_, v, _⟩ :: r => v :: kwVals r
/-- a comprehension -/
def isComp : Expr → Bool
  | .ListComp _ _ _ _ => true
  | .SetComp _ _ _ _ => true
  | .DictComp _ _ _ _ _ => true
  | _ => false
/-- a constant -/
def cK : Const → Option IE
  | .int i => some (.cn (.int i))
  | .bool b => some (.cn (.bl b))
  | .none => some (.cn .non)
  | .str s => if sokB s then some (.cn (.str s)) else none
  | _ => none
/-- the step -1 -/
def isNeg1 : Expr → Bool
  | .UnaryOp .USub (.Constant (.int i) _ _) _ => decide (i = 1)
  | _ => false
def isTxt : Mt → Bool
  | .join => true
  | .split => true
  | _ => false
def ipLen : IPs → Nat
  | .nil => 0
  | .cons _ _ r => ipLen r + 1
def dicOk (ks : List (Option Expr)) (vs : List Expr) (l : IPs) : Bool := ks.all (·.isSome) && decide (ks.length = vs.length) && decide (ks.length ≤ 15) && decide (ipLen l ≤ 15)
/-- range(..) alone -/
def isRg (c : CC) : List Expr → Bool
  | [.Call (.Name r _) _ [] _] => decide (r = "range") && isGl c r
  | _ => false
/-- d.items() alone -/
def isIt : List Expr → Bool
  | [.Call (.Attribute e m ap) [] [] cp] => decide (m = "items") && notSuper e && ap.endLine == cp.line
  | _ => false
/-! lambdas -/
def isLam : Expr → Bool
  | .Lambda _ _ _ _ => true
  | _ => false
def noParams (a : Arguments) : Bool := a.posonlyargs.isEmpty && a.args.isEmpty && a.vararg.isNone && a.kwonlyargs.isEmpty && a.kw_defaults.isEmpty && a.kwarg.isNone && a.defaults.isEmpty
def lamFr (sc : Scope) : List Str := sc.names.filterMap fun y => match y.2 with
  | .free => some y.1
  | _ => none
def lamKey (pos : Pos) : Nat := pos.line * 1000 + pos.col
def capSlots (c : CC) : List Str → Option (List Nat)
  | [] => some []
  | y :: r => (cName c y).bind fun i => (capSlots c r).map fun is => i :: is
inductive SK where
  | en (a : Expr)
  | enk (a : Expr) (k : Int)
  | zi (a b : Expr)
  | rg1 (a : Expr)
  | rg2 (a b : Expr)
  | rg3 (a b : Expr)
/-- enumerate, zip, range, as they are written -/
def srcKind (G : GC) (c : CC) : Expr → Option SK
  | .Call (.Name g _) args [] _ => if isGl c g && (G.fns.lookup g).isNone then
      (if g = "enumerate" then match args with
        | [a] => if notStar a then some (.en a) else none
        | [a, .Constant (.int k) _ _] => if notStar a && decide (-(2 ^ 31) ≤ k) && decide (k < 2 ^ 31) then some (.enk a k) else none
        | _ => none
      else if g = "zip" then match args with
        | [a, b] => if notStar a && notStar b then some (.zi a b) else none
        | _ => none
      else if g = "range" then match args with
        | [a] => if notStar a then some (.rg1 a) else none
        | [a, b] => if notStar a && notStar b then some (.rg2 a b) else none
        | [a, b, d] => if notStar a && notStar b && isNeg1 d then some (.rg3 a b) else none
        | _ => none
      else none)
    else none
  | _ => none
section
variable (G : GC)
/-- a target -/
def cT (c : CC) : Nat → Expr → Option IT
  | 0, _ => none
  | _ + 1, .Name x _ => match c.sc.names.lookup x with
    | some .local => if okName x then (slotFrom x c.N 0).map .nm else none
    | some .cell => if okName x && c.fn x then (slotFrom x c.N 0).map .nm else none
    | _ => none
  | f + 1, .Tuple es _ _ => (cTs f es).map .tp
  | _, _ => none
where cTs (f : Nat) : List Expr → Option (List IT)
  | [] => some []
  | e :: r => if notStar e then (cT c f e).bind fun t => (cTs f r).map fun ts => t :: ts else none
mutual
def cE (c : CC) : Nat → Expr → Option IE
  | 0, _ => none
  | f + 1, e => match e with
    | .Name x _ => match cName c x with
      | some i => some (.slot i)
      | none => if isGl c x then (G.cns.lookup x).map .cn else none
    | .Constant v _ _ => cK v
    | .BinOp a op b _ => (cBop op).bind fun o => (cE c f a).bind fun x => (cE c f b).map fun y => .bin o x y
    | .UnaryOp op a _ => match op with
      | .USub => (cE c f a).map .neg
      | .Not => (cE c f a).map .not
      | _ => none
    | .BoolOp op vs p => match vs with
      | [a] => cE c f a
      | a :: b :: r => (cE c f a).bind fun x => (cE c f (.BoolOp op (b :: r) p)).map fun y => match op with
        | .And => .and x y
        | .Or => .or x y
      | [] => none
    | .IfExp t a b _ => (cE c f t).bind fun x => (cE c f a).bind fun y => (cE c f b).map fun z => .ite x y z
    | .Compare a ops bs _ => match ops, bs with
      | [op], [b] => if behindInMarks op b then none else (cE c f a).bind fun x => (cE c f b).map fun y => .cmp (cCop op) x y
      | [op, op'], [b, d] => if lastMarks [op, op'] [b, d] then none else (cE c f a).bind fun x => (cE c f b).bind fun y => (cE c f d).map fun z => .chain (cCop op) (cCop op') x y z
      | _, _ => none
    | .Tuple es _ _ => (cEs c f es).bind fun l => if ieLen l ≤ 1000 then some (.tup l) else none
    | .List es _ => (cEs c f es).bind fun l => if ieLen l ≤ 1000 then some (.lst l) else none
    | .Subscript a s _ => match s with
      | .Slice lo hi st _ => match st with
        | none => (cE c f a).bind fun x => (cO c f lo).bind fun l => (cO c f hi).map fun h => .slc x l h
        | some t => if isNeg1 t && lo.isNone && hi.isNone then (cE c f a).map .rev else none
      | s => (cE c f a).bind fun x => (cE c f s).map fun y => .idx x y
    | .Call fn args kws cp => match fn with
      | .Name g p => if isGl c g then match kws with
          | [] => match G.fns.lookup g with
            | some k => if args.any isLam then (if c.lm then (cLs c f args).map fun es => .callL k es else none) else (cEs c f args).map fun es => .call k es
            | none => cBi c f g args
          | kw :: kws => match args with
            | [] => (G.fns.lookup g).bind fun k => (kwNames (kw :: kws)).bind fun ks => (kwPerm G g ks).bind fun perm => (cEs c f (kwVals (kw :: kws))).bind fun es => if ieLen es = ks.length then some (.callk k es perm) else none
            | _ => none
        else if kws.isEmpty && args.isEmpty then (cName c g).map .calls else none
      | .Attribute o m ap => match kws with
        | [] => if notSuper o && ap.endLine == cp.line then (if m = "get" then (match args with
            | [k] => if notStar k then (cE c f o).bind fun x => (cE c f k).map fun y => .get x y .none else none
            | [k, d] => if notStar k && notStar d then (cE c f o).bind fun x => (cE c f k).bind fun y => (cE c f d).map fun z => .get x y (.some z) else none
            | _ => none) else (match args with
            | a :: r => (methods.lookup m).bind fun m' => if isTxt m' && decide ((a :: r).length < 20) then (cE c f o).bind fun x => (cEs c f (a :: r)).map fun es => .mt m' x es else none
            | [] => none)) else none
        | _ => none
      | _ => none
    | .Dict ks vs _ => (cPs c f ks vs).bind fun l => if dicOk ks vs l then some (.dic l) else none
    | .ListComp elt gens scope _ => match gens with
      | [⟨tg, it, ifs, 0⟩] => (cSrc c f it).bind fun src =>
        (cT ⟨c.N, relS scope c.sc, fun x => scope.names.lookup x == some .cell, false⟩ f tg).bind fun t =>
        (cE ⟨c.N, relS scope c.sc, fun x => scope.names.lookup x == some .cell, false⟩ f elt).bind fun x =>
        (cIfs ⟨c.N, relS scope c.sc, fun x => scope.names.lookup x == some .cell, false⟩ f ifs).bind fun o =>
        if blkC c.N c.sc scope ((ownOfT t).map fun i => (c.N.getD i "", i)) && notSet it && tgOk src tg then some (.lc x t src o (ownOfT t)) else none
      | _ => none
    | _ => none
def cEs (c : CC) : Nat → List Expr → Option IEs
  | 0, _ => none
  | f + 1, es => match es with
    | [] => some .nil
    | e :: r => if notStar e then (cE c f e).bind fun x => (cEs c f r).map fun xs => .cons x xs else none
/-- arguments, lambdas among them -/
def cLs (c : CC) : Nat → List Expr → Option IEs
  | 0, _ => none
  | f + 1, es => match es with
    | [] => some .nil
    | e :: r => match e with
      | .Lambda params body scope pos => if noParams params && LamX.lamSB c.sc scope && NdefX.nscB (lamFr scope) [] (lamFr scope) scope then
          (cE ⟨lamFr scope, scope, fun _ => false, false⟩ f body).bind fun b => (capSlots c (lamFr scope)).bind fun caps => (cLs c f r).map fun xs => .lam (lamKey pos) b caps xs else none
      | e => if notStar e then (cE c f e).bind fun x => (cLs c f r).map fun xs => .cons x xs else none
def cPs (c : CC) : Nat → List (Option Expr) → List Expr → Option IPs
  | 0, _, _ => none
  | f + 1, ks, vs => match ks, vs with
    | [], [] => some .nil
    | some k :: ks, v :: vs => (cE c f k).bind fun x => (cE c f v).bind fun y => (cPs c f ks vs).map fun r => .cons x y r
    | _, _ => none
def cO (c : CC) : Nat → Option Expr → Option IO
  | 0, _ => none
  | f + 1, o => match o with
    | none => some .none
    | some e => (cE c f e).map .some
def cIfs (c : CC) : Nat → List Expr → Option IO
  | 0, _ => none
  | f + 1, es => match es with
    | [] => some .none
    | [e] => (cE c f e).map .some
    | _ => none
def cBi (c : CC) : Nat → Str → List Expr → Option IE
  | 0, _, _ => none
  | f + 1, g, args =>
    if g = "isinstance" then match args with
      | [a, t] => if notStar a then (cE c f a).bind fun x => (match t with
          | .Tuple ts _ _ => (cTys c ts).bind fun l => if l.length ≤ 100 ∧ l ≠ [] then some (.isi x l) else none
          | t => (cTy c t).map fun l => .isi x [l]) else none
      | _ => none
    else if g = "list" && isIt args then match args with
      | [.Call (.Attribute e _ _) _ _ _] => (cE c f e).map .items
      | _ => none
    else if g = "list" && isRg c args then match args with
      | [.Call _ as _ _] => match as with
        | [a] => if notStar a then (cE c f a).map fun x => .lrg (.cn (.int 0)) x (.cn (.int 1)) else none
        | [a, b] => if notStar a && notStar b then (cE c f a).bind fun x => (cE c f b).map fun y => .lrg x y (.cn (.int 1)) else none
        | [a, b, d] => if notStar a && notStar b && notStar d then (cE c f a).bind fun x => (cE c f b).bind fun y => (cE c f d).map fun z => .lrg x y z else none
        | _ => none
      | _ => none
    else match args with
      | [] => none
      | a :: r => (builtins.lookup g).bind fun b => (cEs c f (a :: r)).map fun es => .bi b es
def cSrc (c : CC) : Nat → Expr → Option ISrc
  | 0, _ => none
  | f + 1, e => match srcKind G c e with
    | some k => match k with
      | .en a => (cE c f a).map fun x => .enum x 0
      | .enk a k => (cE c f a).map fun x => .enum x k
      | .zi a b => (cE c f a).bind fun x => (cE c f b).map fun y => .zip x y
      | .rg1 a => (cE c f a).map fun x => .rng (.cn (.int 0)) x 1
      | .rg2 a b => (cE c f a).bind fun x => (cE c f b).map fun y => .rng x y 1
      | .rg3 a b => (cE c f a).bind fun x => (cE c f b).map fun y => .rng x y (-1)
    | none => (cE c f e).map .val
end
end
end Dl
namespace Dl
open PySem PySem.Spec PyProof.Rows L2

/-! ### lists of data -/
section
variable {P : Par} {W : Addr → Prop} {H : Hp}
theorem RepL.nil_iff {xs : List V} : RepL P W H [] xs ↔ xs = [] := by unfold RepL; exact Iff.rfl
theorem RepL.cons_iff {d : D} {ds : List D} {xs : List V} : RepL P W H (d :: ds) xs ↔ ∃ x r, xs = x :: r ∧ Rep P W H d x ∧ RepL P W H ds r := by
  conv => lhs; unfold RepL
theorem RepL.mk {d : D} {ds : List D} {x : V} {r : List V} (h : Rep P W H d x) (hr : RepL P W H ds r) : RepL P W H (d :: ds) (x :: r) := RepL.cons_iff.mpr ⟨x, r, rfl, h, hr⟩
theorem RepL.len : ∀ {ds : List D} {xs : List V}, RepL P W H ds xs → ds.length = xs.length
  | [], xs, h => by rw [RepL.nil_iff.mp h]; rfl
  | d :: ds, xs, h => by
    obtain ⟨x, r, rfl, h1, h2⟩ := RepL.cons_iff.mp h
    rw [List.length_cons, List.length_cons, RepL.len h2]
theorem RepL.get : ∀ {ds : List D} {xs : List V} {i : Nat} {d : D}, RepL P W H ds xs → ds[i]? = some d → ∃ x, xs[i]? = some x ∧ Rep P W H d x
  | [], xs, i, d, h, e => by simp at e
  | d :: ds, xs, 0, d', h, e => by
    obtain ⟨x, r, rfl, h1, h2⟩ := RepL.cons_iff.mp h
    simp at e
    subst e
    exact ⟨x, rfl, h1⟩
  | d :: ds, xs, i + 1, d', h, e => by
    obtain ⟨x, r, rfl, h1, h2⟩ := RepL.cons_iff.mp h
    obtain ⟨y, hy, q⟩ := RepL.get (i := i) (d := d') h2 (by simpa using e)
    exact ⟨y, by simpa using hy, q⟩
theorem RepL.of : ∀ {ds : List D} {xs : List V}, ds.length = xs.length → (∀ (i : Nat) (d : D) (x : V), ds[i]? = some d → xs[i]? = some x → Rep P W H d x) → RepL P W H ds xs
  | [], [], _, _ => RepL.nil_iff.mpr rfl
  | d :: ds, x :: xs, hl, h => RepL.mk (h 0 d x rfl rfl) (RepL.of (by simpa using hl) fun i d' x' a b => h (i + 1) d' x' (by simpa using a) (by simpa using b))
theorem RepL.at {ds : List D} {xs : List V} (h : RepL P W H ds xs) {i : Nat} {d : D} {x : V} (a : ds[i]? = some d) (b : xs[i]? = some x) : Rep P W H d x := by
  obtain ⟨y, hy, q⟩ := h.get a
  rw [b] at hy
  cases hy
  exact q
theorem RepL.app : ∀ {ds es : List D} {xs ys : List V}, RepL P W H ds xs → RepL P W H es ys → RepL P W H (ds ++ es) (xs ++ ys)
  | [], es, xs, ys, h, h' => by rw [RepL.nil_iff.mp h]; exact h'
  | d :: ds, es, xs, ys, h, h' => by
    obtain ⟨x, r, rfl, h1, h2⟩ := RepL.cons_iff.mp h
    exact RepL.mk h1 (RepL.app h2 h')
theorem RepL.one {d : D} {x : V} (h : Rep P W H d x) : RepL P W H [d] [x] := RepL.mk h (RepL.nil_iff.mpr rfl)
theorem RepL.drop : ∀ {ds : List D} {xs : List V} (n : Nat), RepL P W H ds xs → RepL P W H (ds.drop n) (xs.drop n)
  | _, _, 0, h => h
  | [], xs, n + 1, h => by rw [RepL.nil_iff.mp h]; exact RepL.nil_iff.mpr rfl
  | d :: ds, xs, n + 1, h => by
    obtain ⟨x, r, rfl, h1, h2⟩ := RepL.cons_iff.mp h
    exact RepL.drop n h2
theorem RepL.take : ∀ {ds : List D} {xs : List V} (n : Nat), RepL P W H ds xs → RepL P W H (ds.take n) (xs.take n)
  | _, _, 0, h => by rw [List.take_zero, List.take_zero]; exact RepL.nil_iff.mpr rfl
  | [], xs, n + 1, h => by rw [RepL.nil_iff.mp h]; exact RepL.nil_iff.mpr rfl
  | d :: ds, xs, n + 1, h => by
    obtain ⟨x, r, rfl, h1, h2⟩ := RepL.cons_iff.mp h
    exact RepL.mk h1 (RepL.take n h2)
theorem RepL.rev : ∀ {ds : List D} {xs : List V}, RepL P W H ds xs → RepL P W H ds.reverse xs.reverse
  | [], xs, h => by rw [RepL.nil_iff.mp h]; exact RepL.nil_iff.mpr rfl
  | d :: ds, xs, h => by
    obtain ⟨x, r, rfl, h1, h2⟩ := RepL.cons_iff.mp h
    rw [List.reverse_cons, List.reverse_cons]
    exact RepL.app (RepL.rev h2) (RepL.one h1)
theorem RepL.set : ∀ {ds : List D} {xs : List V} (i : Nat) {d : D} {x : V}, RepL P W H ds xs → Rep P W H d x → RepL P W H (ds.set i d) (xs.set i x)
  | [], xs, i, d, x, h, q => by rw [RepL.nil_iff.mp h]; exact RepL.nil_iff.mpr rfl
  | e :: ds, xs, 0, d, x, h, q => by
    obtain ⟨y, r, rfl, h1, h2⟩ := RepL.cons_iff.mp h
    exact RepL.mk q h2
  | e :: ds, xs, i + 1, d, x, h, q => by
    obtain ⟨y, r, rfl, h1, h2⟩ := RepL.cons_iff.mp h
    exact RepL.mk h1 (RepL.set i h2 q)
theorem RepL.rep {ds : List D} {xs : List V} (h : RepL P W H ds xs) : ∀ k : Nat, RepL P W H (List.replicate k ds).flatten (List.replicate k xs).flatten
  | 0 => RepL.nil_iff.mpr rfl
  | k + 1 => by
    rw [List.replicate_succ, List.replicate_succ, List.flatten_cons, List.flatten_cons]
    exact RepL.app h (RepL.rep h k)
theorem RepL.perm {ds : List D} {xs : List V} (h : RepL P W H ds xs) (perm : List Nat) : RepL P W H (permA .non perm ds) (permA .non perm xs) := by
  unfold permA
  refine RepL.of (by simp) fun i d x a b => ?_
  rw [List.getElem?_map] at a b
  cases e : perm[i]? with
  | none => rw [e] at a; simp at a
  | some j =>
    rw [e] at a b
    simp only [Option.map_some, Option.some.injEq] at a b
    subst a b
    rw [List.getD_eq_getElem?_getD, List.getD_eq_getElem?_getD]
    cases q : ds[j]? with
    | none =>
      have : xs[j]? = none := by
        rw [List.getElem?_eq_none_iff] at q ⊢
        rw [← h.len]; exact q
      rw [this]
      unfold Rep
      rfl
    | some d =>
      obtain ⟨x, hx, r⟩ := h.get q
      rw [hx]
      exact r
end

/-! ### a list or dict of the def's own -/
def isCont : D → Bool
  | .lst _ => true
  | .dK _ => true
  | .dT _ => true
  | _ => false
def OwnRep (P : Par) (W : Addr → Prop) (H : Hp) (d : D) (a : Addr) : Prop := match d with
  | .lst ds => ∃ xs, H a = some (.lst xs) ∧ xs.length ≤ sizeLine ∧ RepL P W H ds xs
  | .dK kds => ∃ kvs, H a = some (.dK kvs) ∧ KzK kvs ∧ RepK P W H kds kvs
  | .dT kds => ∃ kvs, H a = some (.dT kvs) ∧ KzT kvs ∧ RepT P W H kds kvs
  | _ => False
/-- what may be looked at -/
def RepB (P : Par) (W : Addr → Prop) (H : Hp) (d : D) (v : V) : Prop := Rep P W H d v ∨ ∃ a, v = .ref a ∧ (¬ P.T a) ∧ OwnRep P W H d a
/-- behind a piece of the run: all but the stream is as it was -/
structure Ext (P : Par) (k : Nat) (H H' : Hp) : Prop where
  keep : ∀ a o, ¬ P.T a → H a = some o → H' a = some o
  strm : P.sok k H'
  dom : ∀ a, H a ≠ none → H' a ≠ none
theorem Ext.refl {P : Par} {k : Nat} {H : Hp} (h : P.sok k H) : Ext P k H H := ⟨fun _ _ _ h => h, h, fun _ h => h⟩
theorem Ext.trans {P : Par} {j k : Nat} {H H1 H2 : Hp} (a : Ext P j H H1) (b : Ext P k H1 H2) : Ext P k H H2 := ⟨fun x u n h => b.keep x u n (a.keep x u n h), b.strm, fun x h => b.dom x (a.dom x h)⟩
theorem Ext.le {P : Par} {j k : Nat} {H H1 : Hp} (e : Ext P k H H1) (h : j ≤ k) : Ext P j H H1 := ⟨e.keep, P.sokLe _ _ _ h e.strm, e.dom⟩
theorem Ext.fr {P : Par} {k : Nat} {W : Addr → Prop} {H H' : Hp} (e : Ext P k H H') (h1 : ∀ a, P.T a → W a) : Fr W H H' := fun a u n o h => by
  have k : ∀ o, H a = some o → H' a = some o := fun o q => e.keep a o (fun z => n (h1 a z)) q
  cases u <;> first
    | exact k _ h
    | (rcases h with h | ⟨w, h⟩
       · exact .inl (k _ h)
       · exact .inr ⟨w, k _ h⟩)
/-- a new object -/
theorem Ext.new {P : Par} {k : Nat} {H : Hp} {p : Addr} {o : HO} (hs : P.sok k H) (ht : ∀ a, P.T a → H a ≠ none) (hp : H p = none) : Ext P k H (upd H p o) := by
  have ne : ∀ a, H a ≠ none → a ≠ p := fun a h z => h (z ▸ hp)
  exact ⟨fun a u _ h => by rw [upd_ne (ne a (by rw [h]; exact fun q => nomatch q))]; exact h, P.sokFr _ _ _ (fun a h => (upd_ne (ne a (ht a h))).symm) (codeN hp) hs, fun a h => by rw [upd_ne (ne a h)]; exact h⟩
/-- snapshots: what may have changed since, the heap then -/
abbrev Sn := List ((Addr → Prop) × Hp)
/-- a thing of the def's own: no snapshot knows it but as what may change -/
def New (P : Par) (S : Sn) (a : Addr) : Prop := ¬ P.T a ∧ ∀ s ∈ S, s.1 a ∨ s.2 a = none
/-- what the variables hold -/
structure Rel (P : Par) (k : Nat) (W0 W : Addr → Prop) (S : Sn) (H : Hp) (env : DEnv) (σ : L2.St) : Prop where
  len : env.length = σ.length
  val : ∀ (i : Nat) (d : D), env[i]? = some (.val d) → ∃ v, σ[i]? = some (some v) ∧ Rep P W H d v
  own : ∀ (i : Nat) (d : D), env[i]? = some (.own d) → ∃ a, σ[i]? = some (some (.ref a)) ∧ W a ∧ New P S a ∧ OwnRep P W H d a
  apart : ∀ (i j : Nat) (d d' : D) (a : Addr), env[i]? = some (.own d) → env[j]? = some (.own d') → σ[i]? = some (some (.ref a)) → σ[j]? = some (some (.ref a)) → i = j
  w0 : ∀ a, W0 a → W a
  w00 : ∀ a, W0 a → ∃ s ∈ S, ¬ s.1 a ∧ s.2 a ≠ none
  wk : ∀ a, W a → NE H a
  dom0 : ∀ s ∈ S, ∀ a, s.2 a ≠ none → H a ≠ none
  old : ∀ s ∈ S, ∀ a o, ¬ P.T a → ¬ s.1 a → s.2 a = some o → H a = some o
  sub : ∀ s ∈ S, ∀ a, W a → s.1 a ∨ s.2 a = none ∨ W0 a
  strm : P.sok k H
  tw : ∀ a, P.T a → W0 a
section
variable {P : Par} {j k : Nat} {W0 W W' : Addr → Prop} {H0 : Sn} {H H' : Hp} {env : DEnv} {σ : L2.St}
theorem OwnRep.frame {d : D} {a : Addr} (f : Fr W H H') (hw : ∀ a, W' a → W a ∨ H a = none) (ha : ∀ o, H a = some o → H' a = some o) (h : OwnRep P W H d a) : OwnRep P W' H' d a := by
  cases d <;> first
    | exact h
    | skip
  · obtain ⟨xs, e, hz, r⟩ := h
    exact ⟨xs, ha _ e, hz, RepL.frame f hw _ _ r⟩
  · obtain ⟨xs, e, hz, r⟩ := h
    exact ⟨xs, ha _ e, hz, RepK.frame f hw _ _ r⟩
  · obtain ⟨xs, e, hz, r⟩ := h
    exact ⟨xs, ha _ e, hz, RepT.frame f hw _ _ r⟩
theorem OwnRep.cont {d : D} {a : Addr} (h : OwnRep P W H d a) : isCont d = true := by
  cases d <;> first
    | rfl
    | exact h.elim
theorem OwnRep.ne {P : Par} {W : Addr → Prop} {H : Hp} {d : D} {a : Addr} (h : OwnRep P W H d a) : NE H a := by
  cases d <;> first
    | exact h.elim
    | (obtain ⟨xs, e, _⟩ := h
       exact ⟨_, e, fun _ z => nomatch z⟩)
theorem OwnRep.some {d : D} {a : Addr} (h : OwnRep P W H d a) : H a ≠ none := by
  cases d <;> first
    | exact h.elim
    | (obtain ⟨xs, e, _⟩ := h
       rw [e]
       exact fun z => nomatch z)
/-- own, then shared -/
theorem OwnRep.rep {d : D} {a : Addr} (h : OwnRep P W H d a) (n : ¬ W a) : Rep P W H d (.ref a) := by
  cases d <;> first
    | exact h.elim
    | (obtain ⟨xs, e, hz, r⟩ := h
       unfold Rep
       first
         | exact ⟨a, xs, rfl, n, e, hz, r⟩
         | exact ⟨a, xs, rfl, n, .inl e, hz, r⟩)
theorem Rel.dom (r : Rel P j W0 W H0 H env σ) : ∀ a, W a → H a ≠ none := fun a h => (r.wk a h).some
theorem Rel.t0 (r : Rel P j W0 W H0 H env σ) : ∀ a, P.T a → H a ≠ none := fun a h => r.dom _ (r.w0 _ (r.tw a h))
theorem Rel.fr (r : Rel P j W0 W H0 H env σ) (e : Ext P k H H') : Fr W H H' := e.fr fun a h => r.w0 _ (r.tw a h)
theorem Rel.notT {a : Addr} (h : New P H0 a) : ¬ P.T a := h.1
theorem Rel.not0 (r : Rel P j W0 W H0 H env σ) {a : Addr} (h : New P H0 a) : ¬ W0 a := fun z => by
  obtain ⟨s, hs, n1, n2⟩ := r.w00 a z
  rcases h.2 s hs with q | q
  · exact n1 q
  · exact n2 q
theorem Rel.ext (r : Rel P j W0 W H0 H env σ) (e : Ext P k H H') : Rel P k W0 W H0 H' env σ where
  len := r.len
  val := fun i d h => let ⟨v, hv, q⟩ := r.val i d h; ⟨v, hv, Rep.frame (r.fr e) (fun a h => .inl h) d v q⟩
  own := fun i d h => let ⟨a, ha, w, n, q⟩ := r.own i d h; ⟨a, ha, w, n, q.frame (r.fr e) (fun a h => .inl h) fun o => e.keep a o n.1⟩
  apart := r.apart
  w0 := r.w0
  w00 := r.w00
  wk := fun a h => by
    obtain ⟨u, e1, e2⟩ := r.wk a h
    by_cases t : P.T a
    · exact P.sokT _ _ _ e.strm t
    · exact ⟨u, e.keep a u t e1, e2⟩
  dom0 := fun s hs a h => e.dom a (r.dom0 s hs a h)
  old := fun s hs a o n m h => e.keep a o n (r.old s hs a o n m h)
  sub := r.sub
  strm := e.strm
  tw := r.tw
theorem Rel.le (r : Rel P k W0 W H0 H env σ) (h : j ≤ k) : Rel P j W0 W H0 H env σ := { r with strm := P.sokLe _ _ _ h r.strm }
/-- more is held apart: a new object -/
theorem Rel.more (r : Rel P j W0 W H0 H env σ) {p : Addr} (hp : H p = none) (e : Ext P k H H') (h1 : NE H' p) : Rel P k W0 (fun a => W a ∨ a = p) H0 H' env σ where
  len := r.len
  val := fun i d h => let ⟨v, hv, q⟩ := r.val i d h; ⟨v, hv, Rep.frame (r.fr e) (fun a h => h.elim .inl fun z => .inr (z ▸ hp)) d v q⟩
  own := fun i d h => let ⟨a, ha, w, n, q⟩ := r.own i d h; ⟨a, ha, .inl w, n, q.frame (r.fr e) (fun a h => h.elim .inl fun z => .inr (z ▸ hp)) fun o => e.keep a o n.1⟩
  apart := r.apart
  w0 := fun a h => .inl (r.w0 a h)
  w00 := r.w00
  wk := fun a h => h.elim ((r.ext e).wk a) fun z => z ▸ h1
  dom0 := fun s hs a h => e.dom a (r.dom0 s hs a h)
  old := fun s hs a o n m h => e.keep a o n (r.old s hs a o n m h)
  sub := fun s hs a h => h.elim (r.sub s hs a) fun z => .inr (.inl (by
    cases q : s.2 a with
    | none => rfl
    | some o => exact absurd (z ▸ hp) (r.dom0 s hs a (by rw [q]; exact fun z => nomatch z))))
  strm := e.strm
  tw := r.tw
theorem Rel.newN (r : Rel P j W0 W H0 H env σ) {p : Addr} (hp : H p = none) : New P H0 p := ⟨fun z => r.dom _ (r.w0 _ (r.tw _ z)) hp, fun s hs => .inr (by
  cases q : s.2 p with
  | none => rfl
  | some o => exact absurd hp (r.dom0 s hs p (by rw [q]; exact fun z => nomatch z)))⟩
theorem Rel.extNew' (r : Rel P j W0 W H0 H env σ) {p : Addr} {o : HO} (hp : H p = none) : Ext P j H (upd H p o) := Ext.new r.strm r.t0 hp
theorem Rel.newW (r : Rel P j W0 W H0 H env σ) {p : Addr} (hp : H p = none) : ¬ W p := fun z => r.dom p z hp
theorem Rel.grow (rel : Rel P k W0 W H0 H env σ) (h : ∀ a o, H a = some o → H' a = some o) : Ext P k H H' :=
  ⟨fun a o _ => h a o, P.sokFr _ _ _ (fun a ha => by
    cases q : H a with
    | none => exact absurd q (rel.t0 a ha)
    | some o => exact (h a o q).symm) (fun c q z => h _ _ z) rel.strm, fun a ha => by
    cases q : H a with
    | none => exact absurd q ha
    | some o => rw [h a o q]; exact fun z => nomatch z⟩
end
end Dl
namespace Dl
open PySem PySem.Spec PyProof.Rows L2

theorem PE.imp {X : Cx} {e : Expr} {t t' : TE} (h : PE X e t) (i : ∀ σ H Q, t' σ H Q → t σ H Q) : PE X e t' := ⟨fun pins s σ H Q I hw => h.run pins s σ H Q I (i _ _ _ hw)⟩
theorem PT.imp {X : Cx} {e : Expr} {t t' : TT} (h : PT X e t) (i : ∀ σ H Q, t' σ H Q → t σ H Q) : PT X e t' := ⟨fun pins s σ H Q I hw => h.run pins s σ H Q I (i _ _ _ hw)⟩
theorem PA.imp {X : Cx} {e : List Expr} {t t' : TA} (h : PA X e t) (i : ∀ σ H Q, t' σ H Q → t σ H Q) : PA X e t' := ⟨fun pos pins s σ H Q I hw => h.run pos pins s σ H Q I (i _ _ _ hw)⟩
theorem PS.imp {X : Cx} {e : Stmt} {t t' : TS} (h : PS X e t) (i : ∀ D σ H, t' D σ H → t D σ H) : PS X e t' := ⟨fun pins s σ H D I hw => h.run pins s σ H D I (i _ _ _ hw)⟩
theorem PSs.imp {X : Cx} {e : List Stmt} {t t' : TS} (h : PSs X e t) (i : ∀ D σ H, t' D σ H → t D σ H) : PSs X e t' := ⟨fun pins s σ H D I hw => h.run pins s σ H D I (i _ _ _ hw)⟩
theorem OpR.imp {X : Cx} {f : Value → Value → Sem Value} {r r' : R2} (h : OpR X f r) (i : ∀ x y H Q, r' x y H Q → r x y H Q) : OpR X f r' := fun pins s σ H x y v u Q I rx ry hw => h pins s σ H x y v u Q I rx ry (i _ _ _ _ hw)
theorem OpR.or {X : Cx} {f : Value → Value → Sem Value} {r r' : R2} (h : OpR X f r) (h' : OpR X f r') : OpR X f (fun x y H Q => r x y H Q ∨ r' x y H Q) := fun pins s σ H x y v u Q I rx ry hw =>
  hw.elim (h pins s σ H x y v u Q I rx ry) (h' pins s σ H x y v u Q I rx ry)

/-- an error as it lies -/
def XRep (P : Par) (W : Addr → Prop) (H : Hp) (x : XV) (cls : Value) (dd : Option Addr) : Prop :=
  ∃ C f dx v a, P.exc x.c = some (C, f) ∧ cls = .ref C ∧ dd = some dx ∧ x.a = some a ∧ H dx = some (.xd [(f, v)]) ∧ Rep P W H a v
/-- a new list or dict -/
def Fresh (P : Par) (W : Addr → Prop) (H H' : Hp) (d : D) (v : V) : Prop := isCont d = true → ∃ a, v = .ref a ∧ H a = none ∧ OwnRep P (fun b => W b ∨ b = a) H' d a

/-! ### costs: how many draws at most -/
structure Co where
  f : Nat → Nat
  c : Nat
  eq : ∀ k, f k = c + k
namespace Co
def one : Co := ⟨fun k => k, 0, fun k => (Nat.zero_add k).symm⟩
def comp (a b : Co) : Co := ⟨fun k => a.f (b.f k), a.c + b.c, fun k => by rw [a.eq, b.eq]; omega⟩
def of (n : Nat) : Co := ⟨fun k => n + k, n, fun _ => rfl⟩
def iter (n : Nat) (a : Co) : Co := ⟨fun k => n * a.c + k, n * a.c, fun _ => rfl⟩
theorem le (a : Co) (k : Nat) : k ≤ a.f k := by rw [a.eq]; omega
theorem mono (a : Co) {j k : Nat} (h : j ≤ k) : a.f j ≤ a.f k := by rw [a.eq, a.eq]; omega
theorem iter_succ (a : Co) (n k : Nat) : (iter (n + 1) a).f k = a.f ((iter n a).f k) := by
  rw [a.eq]
  show (n + 1) * a.c + k = a.c + (n * a.c + k)
  rw [Nat.add_mul]
  omega
end Co
/-- what is fixed in a def's body -/
structure Fx where
  P : Par
  W0 : Addr → Prop
  H0 : Sn
  Wx : WX
  cf : Nat → Co
abbrev WT := DEnv → DK → EK → Prop
/-- what is wanted of an error, there -/
def xk (F : Fx) (k : Nat) (W : Addr → Prop) (σ : L2.St) (H : Hp) : EK := fun x => ∀ cls dd H', Ext F.P k H H' → XRep F.P W H' x cls dd → F.Wx cls dd σ H'
def vk (F : Fx) (k : Nat) (W : Addr → Prop) (fr : Bool) (H : Hp) (Q : VK) : DK := fun d => ∀ v H', Ext F.P k H H' → Rep F.P W H' d v → (fr = true → Fresh F.P W H H' d v) → Q v H'
def bk (F : Fx) (k : Nat) (W : Addr → Prop) (H : Hp) (Q : VK) : DK := fun d => ∀ v H', Ext F.P k H H' → RepB F.P W H' d v → Q v H'
def tD (F : Fx) (fr : Bool) (co : Co) (w : WT) : TE := fun σ H Q => ∃ W env k, Rel F.P (co.f k) F.W0 W F.H0 H env σ ∧ w env (vk F k W fr H Q) (xk F k W σ H)
def tDB (F : Fx) (co : Co) (w : WT) : TE := fun σ H Q => ∃ W env k, Rel F.P (co.f k) F.W0 W F.H0 H env σ ∧ w env (bk F k W H Q) (xk F k W σ H)
def ak (F : Fx) (k : Nat) (W : Addr → Prop) (H : Hp) (Q : List V → Hp → Prop) : List D → Prop := fun ds => ∀ vs H', Ext F.P k H H' → RepL F.P W H' ds vs → Q vs H'
def bak (F : Fx) (k : Nat) (W : Addr → Prop) (H : Hp) (Q : List V → Hp → Prop) : List D → Prop := fun ds => ∀ vs H', Ext F.P k H H' → ds.length = vs.length → (∀ (i : Nat) d v, ds[i]? = some d → vs[i]? = some v → RepB F.P W H' d v) → Q vs H'
def tDA (F : Fx) (co : Co) (w : DEnv → (List D → Prop) → EK → Prop) : TA := fun σ H Q => ∃ W env k, Rel F.P (co.f k) F.W0 W F.H0 H env σ ∧ w env (ak F k W H Q) (xk F k W σ H)
def tDBA (F : Fx) (co : Co) (w : DEnv → (List D → Prop) → EK → Prop) : TA := fun σ H Q => ∃ W env k, Rel F.P (co.f k) F.W0 W F.H0 H env σ ∧ w env (bak F k W H Q) (xk F k W σ H)
/-- a test -/
def tDT (F : Fx) (co : Co) (w : DEnv → (Bool → Prop) → EK → Prop) : TT := fun σ H Q => ∃ W env k, Rel F.P (co.f k) F.W0 W F.H0 H env σ ∧ w env (fun b => ∀ H', Ext F.P k H H' → Q b H') (xk F k W σ H)
theorem xk.le {F : Fx} {W : Addr → Prop} {σ : L2.St} {H : Hp} {j k : Nat} {x : XV} (h : xk F k W σ H x) (hj : k ≤ j) : xk F j W σ H x := fun cls dd H' e xr => h cls dd H' (e.le hj) xr
/-- what is left only grows less -/
theorem xk.ext {F : Fx} {W : Addr → Prop} {σ : L2.St} {H H1 : Hp} {j k : Nat} {x : XV} (e : Ext F.P j H H1) (h : xk F k W σ H x) : xk F k W σ H1 x := fun cls dd H' e2 xr => h cls dd H' (e.trans e2) xr
theorem Fresh.ext {P : Par} {W : Addr → Prop} {H H1 H' : Hp} {d : D} {v : V} {k : Nat} (e : Ext P k H H1) (h : Fresh P W H1 H' d v) : Fresh P W H H' d v := fun c => by
  obtain ⟨a, ev, hn, o⟩ := h c
  refine ⟨a, ev, ?_, o⟩
  cases q : H a with
  | none => rfl
  | some z =>
    exact absurd hn (e.dom a (by rw [q]; exact fun z => nomatch z))

section
variable {F : Fx} {j k : Nat} {co : Co} {W : Addr → Prop} {env : DEnv} {σ : L2.St} {H : Hp}
variable {pf : PF} {pc : PC}
/-- a borrowed part, then the rest -/
theorem goB {k0 : Nat} (mf : PFM pf pf) (mc : PCM pc pc) {a : IE} {K : DK} {E : EK} {R : VK} (rel : Rel F.P (co.f k) F.W0 W F.H0 H env σ) (h : bor a (wE pf pc a) env K E) (hE : ∀ x, E x → xk F k0 W σ H x)
    (hk : ∀ x v H1, K x → Ext F.P k H H1 → Rel F.P k F.W0 W F.H0 H1 env σ → RepB F.P W H1 x v → R v H1) (hk0 : k0 ≤ k := by first | exact Nat.le_refl _ | exact Co.le _ _ | exact Nat.le_trans (Co.le _ _) (Co.le _ _) | exact Nat.le_trans (Nat.le_trans (Co.le _ _) (Co.le _ _)) (Co.le _ _)) : tDB F co (bor a (wE pf pc a)) σ H R :=
  ⟨W, env, k, rel, wb_mono h (fun k => wE_mono mf mc a env _ _ _ _ k fun x hx => (hE x hx).le hk0) fun x hx v H1 e r => hk x v H1 hx e (rel.ext e) r⟩
theorem goV {k0 : Nat} (mf : PFM pf pf) (mc : PCM pc pc) {a : IE} {K : DK} {E : EK} {R : VK} {fr : Bool} (rel : Rel F.P (co.f k) F.W0 W F.H0 H env σ) (h : wE pf pc a env K E) (hE : ∀ x, E x → xk F k0 W σ H x)
    (hk : ∀ x v H1, K x → Ext F.P k H H1 → Rel F.P k F.W0 W F.H0 H1 env σ → Rep F.P W H1 x v → (fr = true → Fresh F.P W H H1 x v) → R v H1) (hk0 : k0 ≤ k := by first | exact Nat.le_refl _ | exact Co.le _ _ | exact Nat.le_trans (Co.le _ _) (Co.le _ _) | exact Nat.le_trans (Nat.le_trans (Co.le _ _) (Co.le _ _)) (Co.le _ _)) : tD F fr co (wE pf pc a) σ H R :=
  ⟨W, env, k, rel, wE_mono mf mc a env _ _ _ _ (fun x hx v H1 e r f => hk x v H1 hx e (rel.ext e) r f) (fun x hx => (hE x hx).le hk0) h⟩
theorem goA {k0 : Nat} (mf : PFM pf pf) (mc : PCM pc pc) {es : IEs} {K : List D → Prop} {E : EK} {R : List V → Hp → Prop} (rel : Rel F.P (co.f k) F.W0 W F.H0 H env σ) (h : wEs pf pc es env K E) (hE : ∀ x, E x → xk F k0 W σ H x)
    (hk : ∀ x v H1, K x → Ext F.P k H H1 → Rel F.P k F.W0 W F.H0 H1 env σ → RepL F.P W H1 x v → R v H1) (hk0 : k0 ≤ k := by first | exact Nat.le_refl _ | exact Co.le _ _ | exact Nat.le_trans (Co.le _ _) (Co.le _ _) | exact Nat.le_trans (Nat.le_trans (Co.le _ _) (Co.le _ _)) (Co.le _ _)) : tDA F co (wEs pf pc es) σ H R :=
  ⟨W, env, k, rel, wEs_mono mf mc es env _ _ _ _ (fun x hx v H1 e r => hk x v H1 hx e (rel.ext e) r) (fun x hx => (hE x hx).le hk0) h⟩
theorem goBA {k0 : Nat} (mf : PFM pf pf) (mc : PCM pc pc) {es : IEs} {K : List D → Prop} {E : EK} {R : List V → Hp → Prop} (rel : Rel F.P (co.f k) F.W0 W F.H0 H env σ) (h : wBs pf pc es env K E) (hE : ∀ x, E x → xk F k0 W σ H x)
    (hk : ∀ x v H1, K x → Ext F.P k H H1 → Rel F.P k F.W0 W F.H0 H1 env σ → x.length = v.length → (∀ (i : Nat) d u, x[i]? = some d → v[i]? = some u → RepB F.P W H1 d u) → R v H1) (hk0 : k0 ≤ k := by first | exact Nat.le_refl _ | exact Co.le _ _ | exact Nat.le_trans (Co.le _ _) (Co.le _ _) | exact Nat.le_trans (Nat.le_trans (Co.le _ _) (Co.le _ _)) (Co.le _ _)) : tDBA F co (wBs pf pc es) σ H R :=
  ⟨W, env, k, rel, wBs_mono mf mc es env _ _ _ _ (fun x hx v H1 e l r => hk x v H1 hx e (rel.ext e) l r) (fun x hx => (hE x hx).le hk0) h⟩
end

/-! ### values of known data -/
section
variable {P : Par} {W : Addr → Prop} {H : Hp} {v : V}
theorem Rep.int {i : Int} : Rep P W H (.int i) v ↔ v = .int i := by conv => lhs; unfold Rep
theorem Rep.bl {i : Bool} : Rep P W H (.bl i) v ↔ v = .bl i := by conv => lhs; unfold Rep
theorem Rep.non : Rep P W H .non v ↔ v = .non := by conv => lhs; unfold Rep
theorem Rep.str {s : Str} : Rep P W H (.str s) v ↔ v = .str s ∧ SOk s := by conv => lhs; unfold Rep
theorem Rep.lst {ds : List D} : Rep P W H (.lst ds) v ↔ ∃ a xs, v = .ref a ∧ ¬ W a ∧ H a = some (.lst xs) ∧ xs.length ≤ sizeLine ∧ RepL P W H ds xs := by conv => lhs; unfold Rep
theorem Rep.tup {ds : List D} : Rep P W H (.tup ds) v ↔ ∃ a xs, v = .ref a ∧ ¬ W a ∧ H a = some (.tup xs) ∧ xs.length ≤ sizeLine ∧ RepL P W H ds xs := by conv => lhs; unfold Rep
theorem RepB.of_not {d : D} (h : RepB P W H d v) (n : isCont d = false) : Rep P W H d v := by
  rcases h with h | ⟨a, _, _, o⟩
  · exact h
  · have := o.cont
    rw [n] at this
    cases this
theorem RepB.int {i : Int} (h : RepB P W H (.int i) v) : v = .int i := Rep.int.mp (h.of_not rfl)
theorem RepB.bl {i : Bool} (h : RepB P W H (.bl i) v) : v = .bl i := Rep.bl.mp (h.of_not rfl)
theorem RepB.non (h : RepB P W H .non v) : v = .non := Rep.non.mp (h.of_not rfl)
theorem RepB.str {s : Str} (h : RepB P W H (.str s) v) : v = .str s ∧ SOk s := Rep.str.mp (h.of_not rfl)
theorem RepB.lst {ds : List D} (h : RepB P W H (.lst ds) v) : ∃ a xs, v = .ref a ∧ H a = some (.lst xs) ∧ xs.length ≤ sizeLine ∧ RepL P W H ds xs := by
  rcases h with h | ⟨a, rfl, _, xs, e, hz, r⟩
  · obtain ⟨a, xs, e, n, h1, hz, r⟩ := Rep.lst.mp h
    exact ⟨a, xs, e, h1, hz, r⟩
  · exact ⟨a, xs, rfl, e, hz, r⟩
theorem RepB.tup {ds : List D} (h : RepB P W H (.tup ds) v) : ∃ a xs, v = .ref a ∧ H a = some (.tup xs) ∧ xs.length ≤ sizeLine ∧ RepL P W H ds xs := by
  obtain ⟨a, xs, e, n, h1, hz, r⟩ := Rep.tup.mp (h.of_not rfl)
  exact ⟨a, xs, e, h1, hz, r⟩
end
/-! a new tracked thing, behind W -/
section
variable {F : Fx} {k : Nat} {W : Addr → Prop} {env : DEnv} {σ : L2.St} {H : Hp}
theorem Rel.extNew (rel : Rel F.P k F.W0 W F.H0 H env σ) {p : Addr} {o : HO} (hp : H p = none) : Ext F.P k H (upd H p o) := Ext.new rel.strm rel.t0 hp
/-- the new list -/
theorem newLst (rel : Rel F.P k F.W0 W F.H0 H env σ) {p : Addr} {xs : List V} {ds : List D} (hp : H p = none) (hz : xs.length ≤ sizeLine) (r : RepL F.P W H ds xs) :
    Rep F.P W (upd H p (.lst xs)) (.lst ds) (.ref p) ∧ Fresh F.P W H (upd H p (.lst xs)) (.lst ds) (.ref p) := by
  have e := rel.extNew (o := .lst xs) hp
  refine ⟨Rep.lst.mpr ⟨p, xs, rfl, rel.newW hp, upd_same, hz, RepL.frame (rel.fr e) (fun a h => .inl h) _ _ r⟩, fun _ => ⟨p, rfl, hp, xs, upd_same, hz, RepL.frame (rel.fr e) (fun a h => h.elim .inl fun z => .inr (z ▸ hp)) _ _ r⟩⟩
theorem newTup (rel : Rel F.P k F.W0 W F.H0 H env σ) {p : Addr} {xs : List V} {ds : List D} (hp : H p = none) (hz : xs.length ≤ sizeLine) (r : RepL F.P W H ds xs) :
    Rep F.P W (upd H p (.tup xs)) (.tup ds) (.ref p) := by
  have e := rel.extNew (o := .tup xs) hp
  exact Rep.tup.mpr ⟨p, xs, rfl, rel.newW hp, upd_same, hz, RepL.frame (rel.fr e) (fun a h => .inl h) _ _ r⟩
theorem Fresh.of_not {P : Par} {W : Addr → Prop} {H H' : Hp} {d : D} {v : V} (n : isCont d = false) : Fresh P W H H' d v := fun c => by rw [n] at c; cases c
end
end Dl
namespace Dl
open PySem PySem.Spec PyProof.Rows L2

/-! ### text -/
theorem SOk.app {a b : Str} (ha : SOk a) (hb : SOk b) (h : a.length + b.length ≤ sizeLine) : SOk (a ++ b) := by
  refine ⟨?_, fun c hc => ?_⟩
  · show (a.cps ++ b.cps).size ≤ _
    rw [Array.size_append]
    exact h
  · have : c ∈ (a.cps ++ b.cps).toList := hc
    rw [Array.toList_append, List.mem_append] at this
    exact this.elim (ha.2 c) (hb.2 c)
theorem SOk.of_mem {a : Str} (ha : SOk a) {l : List Nat} (h : ∀ c ∈ l, c ∈ a.cps.toList) (hl : l.length ≤ sizeLine) : SOk ⟨l.toArray⟩ :=
  ⟨by show l.toArray.size ≤ _; rw [List.size_toArray]; exact hl, fun c hc => ha.2 c (h c (by simpa using hc))⟩
theorem SOk.one {c : Nat} {a : Str} (ha : SOk a) (h : c ∈ a.cps.toList) : SOk ⟨#[c]⟩ := SOk.of_mem (l := [c]) ha (fun d hd => by simp at hd; rw [hd]; exact h) (by show 1 ≤ sizeLine; decide)
theorem SOk.cut {a : Str} (ha : SOk a) (lo hi : Option Int) : SOk (cutS a lo hi) := by
  refine ⟨Nat.le_trans (cutS_length a lo hi) ha.1, fun c hc => ha.2 c ?_⟩
  unfold cutS at hc
  simp only at hc
  exact List.mem_of_mem_drop (List.mem_of_mem_take (by simpa using hc))
theorem strRep_len (s : Str) (n : Nat) : (strRep s n).length = s.length * n := by
  show ((List.replicate n s.cps.toList).flatten).toArray.size = s.cps.size * n
  rw [List.size_toArray, List.length_flatten, List.map_replicate, List.sum_replicate_nat, Array.length_toList, Nat.mul_comm]
theorem SOk.rep {a : Str} (ha : SOk a) {n : Nat} (h : a.length * n ≤ sizeLine) : SOk (strRep a n) := by
  refine ⟨by rw [strRep_len]; exact h, fun c hc => ha.2 c ?_⟩
  unfold strRep at hc
  simp only at hc
  obtain ⟨l, ⟨_, e⟩, hc⟩ : ∃ l, (¬ n = 0 ∧ l = a.cps.toList) ∧ c ∈ l := by simpa using hc
  rw [e] at hc
  exact hc
theorem rep_cps (s : Str) : ∀ (n : Nat) (acc : List Nat), (List.replicate n s.cps).foldl (· ++ ·) acc.toArray = (acc ++ (List.replicate n s.cps.toList).flatten).toArray
  | 0, acc => by simp
  | n + 1, acc => by
    rw [List.replicate_succ, List.foldl_cons, List.replicate_succ, List.flatten_cons, ← List.append_assoc]
    have e : acc.toArray ++ s.cps = (acc ++ s.cps.toList).toArray := by
      apply Array.ext'
      simp
    rw [e]
    exact rep_cps s n _
theorem rep_eq (s : Str) (n : Nat) : (⟨(List.replicate n s.cps).foldl (· ++ ·) #[]⟩ : Str) = strRep s n := by
  have h := rep_cps s n []
  unfold strRep
  rw [List.nil_append] at h
  exact congrArg Str.mk h

section
variable {X : Cx}
theorem op_mul_str : OpR X (binaryOp .Mult) (fun x y H Q => ∃ i k, x = .str i ∧ y = .int k ∧ 0 ≤ k ∧ k < 2 ^ 31 ∧ i.length * k.toNat ≤ sizeLine ∧ Q (.str (strRep i k.toNat)) H) := by
  intro pins s σ H x y v u Q I rx ry h
  obtain ⟨i, k, rfl, rfl, h0, h1, hz, q⟩ := h
  obtain ⟨t, rfl⟩ := rx
  obtain ⟨t', rfl⟩ := ry
  have hs : sizeLine = 16777216 := sizeLine_eq
  have nl : Builtin.Str.tooLong (i.length * k.toNat) = false := by
    unfold Builtin.Str.tooLong
    rw [decide_eq_false]
    omega
  refine PySem.P.mul_str ?_ (fun h2 h3 z => ?_) (fun _ _ => nl) ?_
  · rw [decide_eq_false (by omega), decide_eq_false (by omega)]
    rfl
  · obtain ⟨m, rfl⟩ : ∃ m : Nat, k = (m : Int) := ⟨k.toNat, by omega⟩
    have hm : 0 < m := by omega
    rw [Int.toNat_natCast] at hz
    have h4 : (i.length : Int) * m ≤ 2 ^ 63 - 1 := by
      have : ((i.length * m : Nat) : Int) ≤ 16777216 := by omega
      rw [Int.natCast_mul] at this
      omega
    have h5 := (Int.le_ediv_iff_mul_le (c := (m : Int)) (by omega)).mpr h4
    omega
  · by_cases hk : k < 1
    · rw [if_pos hk]
      have e : k = 0 := by omega
      subst e
      exact ⟨by decide, ⟨.str (strRep i 0), H, I.tok _, ⟨_, rfl⟩, q⟩⟩
    · rw [if_neg hk]
      by_cases h2 : (k == 1 || i.length == 0) = true
      · rw [if_pos h2]
        have e : strRep i k.toNat = i := by
          simp only [Bool.or_eq_true, beq_iff_eq] at h2
          rcases h2 with h2 | h2
          · subst h2
            show (⟨([i.cps.toList].flatten).toArray⟩ : Str) = i
            simp
          · have e0 : i.cps.toList = [] := by
              have : i.cps.size = 0 := h2
              simpa using this
            unfold strRep
            rw [e0]
            have e1 : (List.replicate k.toNat ([] : List Nat)).flatten = [] := by simp
            rw [e1]
            have e2 : i.cps = #[] := by
              have : i.cps.size = 0 := h2
              simpa using this
            cases i
            simp only at e2
            rw [e2]
        rw [e] at q
        exact ⟨.str i, H, I, ⟨_, rfl⟩, q⟩
      · rw [if_neg h2, rep_eq]
        exact ⟨by rw [strRep_len]; exact hz, ⟨.str (strRep i k.toNat), H, I.tok _, ⟨_, rfl⟩, q⟩⟩
/-! ### two-place operations -/
def rBin (op : BOp) : R2 := match op with
  | .add => fun x y H Q => rI0 (fun i j => .int (i + j)) x y H Q ∨ (∃ i j, x = .str i ∧ y = .str j ∧ i.length + j.length ≤ sizeLine ∧ Q (.str (i ++ j)) H) ∨ rCat x y H Q
  | .sub => rI0 (fun i j => .int (i - j))
  | .mul => fun x y H Q => rI CMul (fun i j => .int (i * j)) x y H Q ∨ (∃ i k, x = .str i ∧ y = .int k ∧ 0 ≤ k ∧ k < 2 ^ 31 ∧ i.length * k.toNat ≤ sizeLine ∧ Q (.str (strRep i k.toNat)) H) ∨ rRep x y H Q
  | .fdiv => rI CDiv (fun i j => .int (i / j))
  | .mod => rI (fun _ j => 0 < j) (fun i j => .int (i % j))
  | .pow => rI CPw (fun i j => .int (i ^ j.toNat))
theorem op_bin {o : Operator} {op : BOp} (h : cBop o = some op) : OpR X (binaryOp o) (rBin op) := by
  cases o <;> simp only [cBop, Option.some.injEq, reduceCtorEq] at h <;> subst h
  · exact op_add.or (op_add_str.or op_cat)
  · exact op_sub
  · exact op_mul.or (op_mul_str.or op_rep)
  · exact op_mod
  · exact opI fun _ _ _ _ _ _ _ hc q => PyProof.Rows.pow_int hc.1 hc.2 q
  · exact op_fdiv
end
section
variable {F : Fx} {j k : Nat} {W : Addr → Prop} {env : DEnv} {σ : L2.St} {H H1 : Hp} {Q : VK}
theorem vk.ext {fr : Bool} {d : D} (e : Ext F.P j H H1) (h : vk F k W fr H Q d) : vk F k W fr H1 Q d := fun v H' e2 r f => h v H' (e.trans e2) r fun z => (f z).ext e
theorem vk.le {fr : Bool} {d : D} (h : vk F j W fr H Q d) (le : j ≤ k) : vk F k W fr H Q d := fun v H' e2 r f => h v H' (e2.le le) r f
/-- a value that is no list or dict -/
theorem vk.val {fr : Bool} {d : D} {v : V} (rel : Rel F.P k F.W0 W F.H0 H env σ) (h : vk F k W fr H Q d) (r : Rep F.P W H d v) (n : isCont d = false) : Q v H := h v H (Ext.refl rel.strm) r fun _ => Fresh.of_not n
theorem vk.lst {fr : Bool} {ds : List D} {xs : List V} (rel : Rel F.P k F.W0 W F.H0 H env σ) (h : vk F k W fr H Q (.lst ds)) (hz : xs.length ≤ sizeLine) (r : RepL F.P W H ds xs) : ∀ p, H p = none → Q (.ref p) (upd H p (.lst xs)) := fun p hp =>
  have q := newLst rel hp hz r
  h _ _ (rel.extNew hp) q.1 fun _ => q.2
theorem vk.tup {fr : Bool} {ds : List D} {xs : List V} (rel : Rel F.P k F.W0 W F.H0 H env σ) (h : vk F k W fr H Q (.tup ds)) (hz : xs.length ≤ sizeLine) (r : RepL F.P W H ds xs) : ∀ p, H p = none → Q (.ref p) (upd H p (.tup xs)) := fun p hp =>
  h _ _ (rel.extNew hp) (newTup rel hp hz r) fun _ => Fresh.of_not rfl
theorem vk.int {fr : Bool} {i : Int} (rel : Rel F.P k F.W0 W F.H0 H env σ) (h : vk F k W fr H Q (.int i)) : Q (.int i) H := vk.val rel h (Rep.int.mpr rfl) rfl
theorem vk.bl {fr : Bool} {i : Bool} (rel : Rel F.P k F.W0 W F.H0 H env σ) (h : vk F k W fr H Q (.bl i)) : Q (.bl i) H := vk.val rel h (Rep.bl.mpr rfl) rfl
theorem vk.str {fr : Bool} {i : Str} (rel : Rel F.P k F.W0 W F.H0 H env σ) (h : vk F k W fr H Q (.str i)) (s : SOk i) : Q (.str i) H := vk.val rel h (Rep.str.mpr ⟨rfl, s⟩) rfl
theorem snd_bin {op : BOp} {fr : Bool} {x y : D} {v u : V} (rel : Rel F.P k F.W0 W F.H0 H env σ) (rx : RepB F.P W H x v) (ry : RepB F.P W H y u) (h : binD op x y (vk F k W fr H Q)) : rBin op v u H Q := by
  unfold binD at h
  split at h
  · rw [rx.int, ry.int]
    exact .inl ⟨_, _, rfl, rfl, vk.int rel h⟩
  · obtain ⟨rfl, s1⟩ := rx.str
    obtain ⟨rfl, s2⟩ := ry.str
    exact .inr (.inl ⟨_, _, rfl, rfl, h.1, vk.str rel h.2 (s1.app s2 h.1)⟩)
  · obtain ⟨a, xs, rfl, ha, hz, r1⟩ := rx.lst
    obtain ⟨b, ys, rfl, hb, hz2, r2⟩ := ry.lst
    have hl : xs.length + ys.length ≤ sizeLine := by rw [← r1.len, ← r2.len]; exact h.1
    exact .inr (.inr ⟨a, b, xs, ys, rfl, rfl, ha, hb, hl, vk.lst rel h.2 (by rw [List.length_append]; exact hl) (r1.app r2)⟩)
  · rw [rx.int, ry.int]
    exact ⟨_, _, rfl, rfl, vk.int rel h⟩
  · rw [rx.int, ry.int]
    exact .inl ⟨_, _, rfl, rfl, h.1, vk.int rel h.2⟩
  · obtain ⟨rfl, s1⟩ := rx.str
    rw [ry.int]
    exact .inr (.inl ⟨_, _, rfl, rfl, h.1, h.2.1, h.2.2.1, vk.str rel h.2.2.2 (s1.rep h.2.2.1)⟩)
  · obtain ⟨a, xs, rfl, ha, hz, r1⟩ := rx.lst
    rw [ry.int]
    have hl := h.2.2.1
    rw [r1.len] at hl
    have h1 := h.1
    have h2 := h.2.1
    refine .inr (.inr ⟨a, _, xs, rfl, rfl, ha, by omega, by omega, hl, vk.lst rel h.2.2.2 ?_ (r1.rep _)⟩)
    rw [List.length_flatten, List.map_replicate, List.sum_replicate_nat, Nat.mul_comm]
    exact hl
  · rw [rx.int, ry.int]
    exact ⟨_, _, rfl, rfl, ⟨h.1, h.2.1⟩, vk.int rel h.2.2⟩
  · rw [rx.int, ry.int]
    exact ⟨_, _, rfl, rfl, h.1, vk.int rel h.2⟩
  · rw [rx.int, ry.int]
    exact ⟨_, _, rfl, rfl, h.1, vk.int rel h.2⟩
  · exact h.elim
end
end Dl
namespace Dl
open PySem PySem.Spec PyProof.Rows L2

/-! ### data as PyData -/
section
variable {P : Par} {W : Addr → Prop} {H : Hp}
mutual
theorem Rep.dp : ∀ (d : D) (v : V) (p : PyData), Rep P W H d v → d.toPy = some p → Dp P.K H v p ∧ PyData.canLay0 p = true
  | .non, v, p, h, e => by
    unfold D.toPy at e
    cases e
    rw [Rep.non.mp h]
    exact ⟨.non, by unfold PyData.canLay0; rfl⟩
  | .bl b, v, p, h, e => by
    unfold D.toPy at e
    cases e
    rw [Rep.bl.mp h]
    exact ⟨.bl b, by unfold PyData.canLay0; rfl⟩
  | .int i, v, p, h, e => by
    unfold D.toPy at e
    cases e
    rw [Rep.int.mp h]
    exact ⟨.int i, by unfold PyData.canLay0; rfl⟩
  | .str s, v, p, h, e => by
    unfold D.toPy at e
    cases e
    obtain ⟨rfl, s2⟩ := Rep.str.mp h
    refine ⟨.str s, ?_⟩
    unfold PyData.canLay0 PyData.strOk
    rw [← Array.all_toList, List.all_eq_true]
    exact fun c hc => decide_eq_true (s2.2 c hc)
  | .lst xs, v, p, h, e => by
    unfold D.toPy at e
    obtain ⟨ps, e1, rfl⟩ := Option.map_eq_some_iff.mp e
    obtain ⟨a, vs, rfl, n, ha, hz, r⟩ := Rep.lst.mp h
    obtain ⟨q1, q2⟩ := RepL.dp xs vs ps r e1
    exact ⟨.lst (SqL.of ha) q1, by unfold PyData.canLay0; exact q2⟩
  | .tup xs, v, p, h, e => by
    unfold D.toPy at e
    obtain ⟨ps, e1, rfl⟩ := Option.map_eq_some_iff.mp e
    obtain ⟨a, vs, rfl, n, ha, hz, r⟩ := Rep.tup.mp h
    obtain ⟨q1, q2⟩ := RepL.dp xs vs ps r e1
    exact ⟨.tup (SqT.of ha) q1, by unfold PyData.canLay0; exact q2⟩
  | .dK _, v, p, h, e => by unfold D.toPy at e; cases e
  | .dT _, v, p, h, e => by unfold D.toPy at e; cases e
  | .ins _ _, v, p, h, e => by unfold D.toPy at e; cases e
  | .strm, v, p, h, e => by unfold D.toPy at e; cases e
  | .clo _ _, v, p, h, e => by unfold D.toPy at e; cases e
theorem RepL.dp : ∀ (ds : List D) (vs : List V) (ps : List PyData), RepL P W H ds vs → toPyL ds = some ps → DpAll P.K H vs ps ∧ PyData.canLayAll0 ps = true
  | [], vs, ps, h, e => by
    unfold toPyL at e
    cases e
    rw [RepL.nil_iff.mp h]
    exact ⟨.nil, by unfold PyData.canLayAll0; rfl⟩
  | d :: ds, vs, ps, h, e => by
    unfold toPyL at e
    obtain ⟨p, e1, e2⟩ := Option.bind_eq_some_iff.mp e
    obtain ⟨r, e3, rfl⟩ := Option.map_eq_some_iff.mp e2
    obtain ⟨x, vr, rfl, h1, h2⟩ := RepL.cons_iff.mp h
    obtain ⟨a1, a2⟩ := Rep.dp d x p h1 e1
    obtain ⟨b1, b2⟩ := RepL.dp ds vr r h2 e3
    exact ⟨.cons a1 b1, by unfold PyData.canLayAll0; rw [a2, b2]; rfl⟩
end
theorem RepB.dp {d : D} {v : V} {p : PyData} (h : RepB P W H d v) (e : d.toPy = some p) : Dp P.K H v p ∧ PyData.canLay0 p = true := by
  rcases h with h | ⟨a, rfl, _, o⟩
  · exact h.dp d v p e
  · cases d <;> first
      | exact o.elim
      | (unfold D.toPy at e
         first
           | cases e
           | (obtain ⟨ps, e1, rfl⟩ := Option.map_eq_some_iff.mp e
              obtain ⟨vs, ha, hz, r⟩ := o
              obtain ⟨q1, q2⟩ := RepL.dp _ vs ps r e1
              exact ⟨.lst (SqL.of ha) q1, by unfold PyData.canLay0; exact q2⟩))
theorem shaped_of {p : PyData} (h : PyData.canLay0 p = true) (d : p.depth ≤ 64) : SeqAt.shaped p = true := by
  unfold SeqAt.shaped
  rw [h, decide_eq_true d]
  rfl
/-! ### dicts -/
variable {κ : Type} [DecidableEq κ]
/-- pairs side by side, whatever the keys are -/
def RepX (P : Par) (W : Addr → Prop) (H : Hp) : List (κ × D) → List (κ × V) → Prop
  | [], xs => xs = []
  | (k, d) :: ds, xs => ∃ x r, xs = (k, x) :: r ∧ Rep P W H d x ∧ RepX P W H ds r
theorem RepK.x : ∀ {kds : List (Key × D)} {kvs : List (Key × V)}, RepK P W H kds kvs ↔ RepX P W H kds kvs
  | [], kvs => by unfold RepK RepX; exact Iff.rfl
  | (k, d) :: r, kvs => by
    unfold RepK RepX
    exact ⟨fun ⟨x, s, e, h1, h2⟩ => ⟨x, s, e, h1, RepK.x.mp h2⟩, fun ⟨x, s, e, h1, h2⟩ => ⟨x, s, e, h1, RepK.x.mpr h2⟩⟩
theorem RepT.x : ∀ {kds : List (List Key × D)} {kvs : List (List Key × V)}, RepT P W H kds kvs ↔ RepX P W H kds kvs
  | [], kvs => by unfold RepT RepX; exact Iff.rfl
  | (k, d) :: r, kvs => by
    unfold RepT RepX
    exact ⟨fun ⟨x, s, e, h1, h2⟩ => ⟨x, s, e, h1, RepT.x.mp h2⟩, fun ⟨x, s, e, h1, h2⟩ => ⟨x, s, e, h1, RepT.x.mpr h2⟩⟩
theorem RepX.look : ∀ {kds : List (κ × D)} {kvs : List (κ × V)} (k : κ), RepX P W H kds kvs → match lookD kds k with
    | some d => ∃ v, valV kvs k = some v ∧ Rep P W H d v
    | none => valV kvs k = none
  | [], kvs, k, h => by
    unfold RepX at h
    subst h
    rfl
  | (a, d) :: r, kvs, k, h => by
    unfold RepX at h
    obtain ⟨x, s, rfl, h1, h2⟩ := h
    have ih := RepX.look k h2
    by_cases e : a = k
    · have e1 : lookD ((a, d) :: r) k = some d := by simp [lookD, List.find?_cons, e]
      rw [e1]
      exact ⟨x, valV_pos e, h1⟩
    · have e1 : lookD ((a, d) :: r) k = lookD r k := by simp [lookD, List.find?_cons, e]
      rw [e1, valV_neg e]
      exact ih
theorem RepX.len : ∀ {kds : List (κ × D)} {kvs : List (κ × V)}, RepX P W H kds kvs → kds.length = kvs.length
  | [], kvs, h => by
    unfold RepX at h
    subst h
    rfl
  | (a, d) :: r, kvs, h => by
    unfold RepX at h
    obtain ⟨x, s, rfl, h1, h2⟩ := h
    rw [List.length_cons, List.length_cons, RepX.len h2]
theorem RepX.any : ∀ {kds : List (κ × D)} {kvs : List (κ × V)} (k : κ), RepX P W H kds kvs → (kds.any fun kv => decide (kv.1 = k)) = kvs.any fun kv => decide (kv.1 = k)
  | [], kvs, k, h => by
    unfold RepX at h
    subst h
    rfl
  | (a, d) :: r, kvs, k, h => by
    unfold RepX at h
    obtain ⟨x, s, rfl, h1, h2⟩ := h
    rw [List.any_cons, List.any_cons, RepX.any k h2]
theorem RepX.repl : ∀ {kds : List (κ × D)} {kvs : List (κ × V)} (k : κ) {d : D} {v : V}, RepX P W H kds kvs → Rep P W H d v →
    RepX P W H (kds.map fun kv => if kv.1 = k then (kv.1, d) else kv) (kvs.map fun kv => if kv.1 = k then (kv.1, v) else kv)
  | [], kvs, k, d, v, h, q => by
    unfold RepX at h
    subst h
    unfold RepX
    rfl
  | (a, d') :: r, kvs, k, d, v, h, q => by
    unfold RepX at h
    obtain ⟨x, s, rfl, h1, h2⟩ := h
    have ih := RepX.repl k h2 q
    rw [List.map_cons, List.map_cons]
    by_cases e : a = k
    · simp only [e, if_true]
      unfold RepX
      exact ⟨v, _, rfl, q, ih⟩
    · simp only [e, if_false]
      unfold RepX
      exact ⟨x, _, rfl, h1, ih⟩
theorem RepX.snoc : ∀ {kds : List (κ × D)} {kvs : List (κ × V)} (k : κ) {d : D} {v : V}, RepX P W H kds kvs → Rep P W H d v → RepX P W H (kds ++ [(k, d)]) (kvs ++ [(k, v)])
  | [], kvs, k, d, v, h, q => by
    unfold RepX at h
    subst h
    show RepX P W H [(k, d)] [(k, v)]
    unfold RepX
    exact ⟨v, [], rfl, q, by unfold RepX; rfl⟩
  | (a, d') :: r, kvs, k, d, v, h, q => by
    unfold RepX at h
    obtain ⟨x, s, rfl, h1, h2⟩ := h
    rw [List.cons_append, List.cons_append]
    unfold RepX
    exact ⟨x, _, rfl, h1, RepX.snoc k h2 q⟩
theorem RepX.put {kds : List (κ × D)} {kvs : List (κ × V)} (k : κ) {d : D} {v : V} (h : RepX P W H kds kvs) (q : Rep P W H d v) : RepX P W H (putD kds k d) (putK kvs k v) := by
  unfold putD putK
  rw [h.any k]
  split
  · exact h.repl k q
  · exact h.snoc k q
theorem keyD_val {d : D} {k : Key} {v : V} (e : keyD d = some k) (r : Rep P W H d v) : v = kV k := by
  cases d <;> simp only [keyD, Option.some.injEq, reduceCtorEq] at e
  · subst e
    exact Rep.int.mp r
  · subst e
    exact (Rep.str.mp r).1
theorem keysD_vals : ∀ {ds : List D} {ks : List Key} {vs : List V}, keysD ds = some ks → RepL P W H ds vs → vs = ks.map kV
  | [], ks, vs, e, r => by
    unfold keysD at e
    cases e
    exact RepL.nil_iff.mp r
  | d :: ds, ks, vs, e, r => by
    unfold keysD at e
    obtain ⟨k, e1, e2⟩ := Option.bind_eq_some_iff.mp e
    obtain ⟨kr, e3, rfl⟩ := Option.map_eq_some_iff.mp e2
    obtain ⟨x, vr, rfl, h1, h2⟩ := RepL.cons_iff.mp r
    rw [keyD_val e1 h1, keysD_vals e3 h2]
    rfl
theorem keyD_cont {d : D} {k : Key} (e : keyD d = some k) : isCont d = false := by
  cases d <;> simp only [keyD, reduceCtorEq] at e <;> rfl
theorem RepB.dK {kds : List (Key × D)} {v : V} (h : RepB P W H (.dK kds) v) : ∃ a kvs, v = .ref a ∧ Rd H a (.dK kvs) ∧ KzK kvs ∧ RepX P W H kds kvs := by
  rcases h with h | ⟨a, rfl, _, kvs, e, hz, r⟩
  · unfold Rep at h
    obtain ⟨a, kvs, e, n, h1, hz, r⟩ := h
    exact ⟨a, kvs, e, h1, hz, RepK.x.mp r⟩
  · exact ⟨a, kvs, rfl, .inl e, hz, RepK.x.mp r⟩
theorem RepB.dT {kds : List (List Key × D)} {v : V} (h : RepB P W H (.dT kds) v) : ∃ a kvs, v = .ref a ∧ Rd H a (.dT kvs) ∧ KzT kvs ∧ RepX P W H kds kvs := by
  rcases h with h | ⟨a, rfl, _, kvs, e, hz, r⟩
  · unfold Rep at h
    obtain ⟨a, kvs, e, n, h1, hz, r⟩ := h
    exact ⟨a, kvs, e, h1, hz, RepT.x.mp r⟩
  · exact ⟨a, kvs, rfl, .inl e, hz, RepT.x.mp r⟩
end
end Dl
namespace Dl
open PySem PySem.Spec PyProof.Rows L2
section
variable {X : Cx}
theorem op_in_dict (hu : X.A.units + 1 < cLine) : OpR X (compareOp .In) (fun x y H Q => ∃ a o, y = .ref a ∧ DGet H a x o ∧ Q (.bl o.isSome) H) := fun pins s σ H x y v u Q I rx ry h => by
  obtain ⟨a, o, rfl, g, q⟩ := h
  obtain rfl : u = Value.ref a := ry
  exact d_in hu I g rx fun s3 I3 => ⟨.bl o.isSome, H, I3, rfl, q⟩
theorem op_notin_dict (hu : X.A.units + 1 < cLine) : OpR X (compareOp .NotIn) (fun x y H Q => ∃ a o, y = .ref a ∧ DGet H a x o ∧ Q (.bl (!o.isSome)) H) := fun pins s σ H x y v u Q I rx ry h => by
  obtain ⟨a, o, rfl, g, q⟩ := h
  obtain rfl : u = Value.ref a := ry
  exact d_notIn hu I g rx fun s3 I3 => ⟨.bl (!o.isSome), H, I3, rfl, q⟩
theorem ix_dict (hu : X.A.units + 1 < cLine) : IxR X (fun x y H Q => ∃ a v, x = .ref a ∧ DGet H a y (some v) ∧ Q v H) := fun value slice pins s σ H x y v u Q I rx ry h hs => by
  obtain ⟨a, w, rfl, g, q⟩ := h
  obtain rfl : v = Value.ref a := rx
  exact tail_any (dict_typeIs I g) PySem.F.slot_dict_getitem.lookup (d_getItem hu I g ry fun w' s3 I3 rw' => ⟨w, H, I3, rw', q⟩) hs
def rStrIn (neg : Bool) : R2 := fun x y H Q => ∃ i j, x = .str i ∧ y = .str j ∧ Q (.bl (if neg then !strIn i j else strIn i j)) H
def rCmp (K : PySem.W.Frag) (op : COp) : R2 := match op with
  | .eq => rEqD K
  | .ne => rNeD K
  | .lt => fun x y H Q => rI0 (fun i j => .bl (decide (i < j))) x y H Q ∨ (∃ i j, x = .str i ∧ y = .str j ∧ Q (.bl (decide (i.cps.toList < j.cps.toList))) H)
  | .le => rI0 (fun i j => .bl (decide (i ≤ j)))
  | .gt => rI0 (fun i j => .bl (decide (j < i)))
  | .ge => rI0 (fun i j => .bl (decide (j ≤ i)))
  | .is => fun x y H Q => (y = .non ∧ Q (.bl (decide (x = .non))) H) ∨ rIsB x y H Q
  | .isnot => fun x y H Q => (y = .non ∧ Q (.bl (!decide (x = .non))) H) ∨ rNotB x y H Q
  | .isin => fun x y H Q => (∃ i j, x = .str i ∧ y = .str j ∧ Q (.bl (!(Builtin.Str.occurrences j i 0 j.length 1).isEmpty)) H) ∨ rInD K x y H Q ∨ (∃ a o, y = .ref a ∧ DGet H a x o ∧ Q (.bl o.isSome) H)
  | .notin => fun x y H Q => (∃ i j, x = .str i ∧ y = .str j ∧ Q (.bl (!(!(Builtin.Str.occurrences j i 0 j.length 1).isEmpty))) H) ∨ rNotInD K x y H Q ∨ (∃ a o, y = .ref a ∧ DGet H a x o ∧ Q (.bl (!o.isSome)) H)
theorem op_cmp (hu : X.A.units + 65 < cLine) (o : CmpOp) : OpR X (compareOp o) (rCmp X.K (cCop o)) := by
  have hu1 : X.A.units + 1 < cLine := by omega
  have hu2 : X.A.units + 64 < cLine := by omega
  cases o
  · exact op_eqD hu2
  · exact op_neD hu2
  · exact op_lt.or op_lt_str
  · exact op_le
  · exact op_gt
  · exact op_ge
  · exact op_isN.or op_isBl
  · exact op_notN.or op_notBl
  · exact op_in_str.or ((op_inD hu).or (op_in_dict hu1))
  · exact op_notin_str.or ((op_notInD hu).or (op_notin_dict hu1))
end
section
variable {F : Fx} {j k : Nat} {W : Addr → Prop} {env : DEnv} {σ : L2.St} {H : Hp} {Q : VK}
theorem snd_eq {x y : D} {v u : V} {K : Bool → Prop} (rx : RepB F.P W H x v) (ry : RepB F.P W H y u) (h : eqD x y K) : ∃ d e, Dp F.P.K H v d ∧ Dp F.P.K H u e ∧ SeqAt.shaped d = true ∧ SeqAt.shaped e = true ∧ K (PyData.eqv d e) := by
  unfold eqD at h
  split at h
  · rename_i p q e1 e2
    obtain ⟨d1, c1⟩ := rx.dp e1
    obtain ⟨d2, c2⟩ := ry.dp e2
    exact ⟨p, q, d1, d2, shaped_of c1 h.1, shaped_of c2 h.2.1, h.2.2⟩
  · exact h.elim
theorem isNon_iff {x : D} {v : V} (r : Rep F.P W H x v) : isNon x = decide (v = .non) := by
  cases x <;> unfold Rep at r
  · subst r; rfl
  · subst r; rfl
  · subst r; rfl
  · obtain ⟨rfl, _⟩ := r; rfl
  · obtain ⟨a, _, rfl, _⟩ := r; rfl
  · obtain ⟨a, _, rfl, _⟩ := r; rfl
  · obtain ⟨a, _, rfl, _⟩ := r; rfl
  · obtain ⟨a, _, rfl, _⟩ := r; rfl
  · obtain ⟨a, _, _, _, _, _, rfl, _⟩ := r; rfl
  · subst r; rfl
  · obtain ⟨a, _, rfl, _⟩ := r; rfl
theorem isNon_iffB {x : D} {v : V} (r : RepB F.P W H x v) : isNon x = decide (v = .non) := by
  rcases r with r | ⟨a, rfl, _, o⟩
  · exact isNon_iff r
  · cases x <;> first
      | exact o.elim
      | rfl
/-- a key as it lies -/
theorem key_tup {xs : List D} {ks : List Key} {v : V} (e : keysD xs = some ks) (r : RepB F.P W H (.tup xs) v) : ∃ b, v = .ref b ∧ H b = some (.tup (ks.map kV)) := by
  obtain ⟨b, vs, rfl, hb, hz, r⟩ := r.tup
  rw [keysD_vals e r] at hb
  exact ⟨b, rfl, hb⟩
theorem look_none {κ : Type} [DecidableEq κ] {P : Par} {kds : List (κ × D)} {kvs : List (κ × V)} {k : κ} (r : RepX P W H kds kvs) : (lookD kds k).isSome = (valV kvs k).isSome := by
  have h := r.look k
  cases e : lookD kds k with
  | none =>
    rw [e] at h
    rw [h]
    rfl
  | some d =>
    rw [e] at h
    obtain ⟨v, hv, _⟩ := h
    rw [hv]
    rfl
theorem snd_in {x y : D} {v u : V} {K : Bool → Prop} (rx : RepB F.P W H x v) (ry : RepB F.P W H y u) (h : inD x y K) :
    (∃ i j, v = .str i ∧ u = .str j ∧ K (!(Builtin.Str.occurrences j i 0 j.length 1).isEmpty)) ∨
    (∃ d ds, Dp F.P.K H v d ∧ Dp F.P.K H u (.list ds) ∧ SeqAt.shaped d = true ∧ SeqAt.shaped (.list ds) = true ∧ K (ds.any fun z => PyData.eqv z d)) ∨ (∃ a o, u = .ref a ∧ DGet H a v o ∧ K o.isSome) := by
  unfold inD at h
  split at h
  · split at h
    · obtain ⟨rfl, _⟩ := rx.str
      obtain ⟨rfl, _⟩ := ry.str
      exact .inl ⟨_, _, rfl, rfl, h⟩
    · exact h.elim
  · split at h
    · rename_i ys p qs e1 e2
      obtain ⟨d1, c1⟩ := rx.dp e1
      obtain ⟨d2, c2⟩ := ry.dp (p := .list qs) (by unfold D.toPy; rw [e2]; rfl)
      exact .inr (.inl ⟨p, qs, d1, d2, shaped_of c1 h.1, shaped_of c2 h.2.1, h.2.2⟩)
    · exact h.elim
  · split at h
    · rename_i k e
      obtain ⟨a, kvs, rfl, ha, hz, r⟩ := ry.dK
      refine .inr (.inr ⟨a, _, rfl, .inl ⟨kvs, k, ha, keyD_val e (rx.of_not (keyD_cont e)), rfl⟩, ?_⟩)
      rw [← look_none r]
      exact h
    · exact h.elim
  · split at h
    · split at h
      · rename_i xs k e
        obtain ⟨a, kvs, rfl, ha, hz, r⟩ := ry.dT
        obtain ⟨b, rfl, hb⟩ := key_tup e rx
        refine .inr (.inr ⟨a, _, rfl, .inr ⟨kvs, k, b, ha, rfl, hb, rfl⟩, ?_⟩)
        rw [← look_none r]
        exact h
      · exact h.elim
    · exact h.elim
  · exact h.elim
theorem snd_cmp {op : COp} {fr : Bool} {x y : D} {v u : V} (rel : Rel F.P k F.W0 W F.H0 H env σ) (rx : RepB F.P W H x v) (ry : RepB F.P W H y u) (h : cmpD op x y (vk F k W fr H Q)) : rCmp F.P.K op v u H Q := by
  have vb : ∀ {b : Bool}, vk F k W fr H Q (.bl b) → Q (.bl b) H := fun h => vk.bl rel h
  cases op <;> unfold cmpD at h <;> simp only at h
  · obtain ⟨d, e, h1, h2, h3, h4, q⟩ := snd_eq rx ry h
    exact ⟨d, e, h1, h2, h3, h4, vb q⟩
  · obtain ⟨d, e, h1, h2, h3, h4, q⟩ := snd_eq rx ry h
    exact ⟨d, e, h1, h2, h3, h4, vb q⟩
  · split at h
    · rw [rx.int, ry.int]
      exact .inl ⟨_, _, rfl, rfl, vb h⟩
    · obtain ⟨rfl, _⟩ := rx.str
      obtain ⟨rfl, _⟩ := ry.str
      exact .inr ⟨_, _, rfl, rfl, vb h⟩
    · exact h.elim
  · split at h
    · rw [rx.int, ry.int]
      exact ⟨_, _, rfl, rfl, vb h⟩
    · exact h.elim
  · split at h
    · rw [rx.int, ry.int]
      exact ⟨_, _, rfl, rfl, vb h⟩
    · exact h.elim
  · split at h
    · rw [rx.int, ry.int]
      exact ⟨_, _, rfl, rfl, vb h⟩
    · exact h.elim
  · split at h
    · rw [ry.non]
      refine .inl ⟨rfl, ?_⟩
      rw [← isNon_iffB rx]
      exact vb h
    · split at h
      · rw [rx.bl, ry.bl]
        refine .inr ⟨_, _, rfl, rfl, ?_⟩
        rw [← Bool.beq_eq_decide_eq]
        exact vb h
      · exact h.elim
    · exact h.elim
  · split at h
    · rw [ry.non]
      refine .inl ⟨rfl, ?_⟩
      rw [← isNon_iffB rx]
      exact vb h
    · split at h
      · rw [rx.bl, ry.bl]
        refine .inr ⟨_, _, rfl, rfl, ?_⟩
        rw [← Bool.beq_eq_decide_eq]
        exact vb h
      · exact h.elim
    · exact h.elim
  · rcases snd_in rx ry h with ⟨i, j, e1, e2, q⟩ | ⟨d, ds, h1, h2, h3, h4, q⟩ | ⟨a, o, e, g, q⟩
    · exact .inl ⟨i, j, e1, e2, vb q⟩
    · exact .inr (.inl ⟨d, ds, h1, h2, h3, h4, vb q⟩)
    · exact .inr (.inr ⟨a, o, e, g, vb q⟩)
  · rcases snd_in rx ry h with ⟨i, j, e1, e2, q⟩ | ⟨d, ds, h1, h2, h3, h4, q⟩ | ⟨a, o, e, g, q⟩
    · exact .inl ⟨i, j, e1, e2, vb q⟩
    · exact .inr (.inl ⟨d, ds, h1, h2, h3, h4, vb q⟩)
    · exact .inr (.inr ⟨a, o, e, g, vb q⟩)
end
end Dl
namespace Dl
open PySem PySem.Spec PyProof.Rows L2

/-! ### subscripts -/
def rIdx (K : PySem.W.Frag) : R2 := fun x y H Q => rIx K x y H Q ∨ (∃ a v, x = .ref a ∧ DGet H a y (some v) ∧ Q v H)
section
variable {X : Cx}
theorem ix_all (hu : X.A.units + 1 < cLine) : IxR X (rIdx X.K) := ix_seq.or (ix_dict hu)
def rSlc (K : PySem.W.Frag) : V → Option Int → Option Int → Hp → VK → Prop := fun x lo hi H Q => rSlL K x lo hi H Q ∨ rSlS x lo hi H Q ∨ rSlA K x lo hi H Q
theorem sl_all : SlR X (rSlc X.K) := sl_list.or (sl_str.or sl_tupA)
end
theorem RepL.cut {P : Par} {W : Addr → Prop} {H : Hp} {ds : List D} {xs : List V} (h : RepL P W H ds xs) (lo hi : Option Int) : RepL P W H (cutA ds lo hi) (cutV xs lo hi) := by
  unfold cutA cutV
  rw [h.len]
  exact (h.drop _).take _
theorem RepL.atI {P : Par} {W : Addr → Prop} {H : Hp} {ds : List D} {xs : List V} (h : RepL P W H ds xs) {i : Int} {d : D} (e : L2.atI ds i = some d) : ∃ v, L2.atI xs i = some v ∧ Rep P W H d v := by
  unfold L2.atI at e ⊢
  obtain ⟨j, h1, h2⟩ := Option.bind_eq_some_iff.mp e
  obtain ⟨v, hv, r⟩ := h.get h2
  exact ⟨v, by rw [← h.len, h1]; exact hv, r⟩
theorem atI_mem {l : List Nat} {i : Int} {c : Nat} (e : L2.atI l i = some c) : c ∈ l := by
  unfold L2.atI at e
  obtain ⟨j, h1, h2⟩ := Option.bind_eq_some_iff.mp e
  exact List.mem_of_getElem? h2
section
variable {F : Fx} {j k : Nat} {W : Addr → Prop} {env : DEnv} {σ : L2.St} {H : Hp} {Q : VK}
/-- a part of what stands -/
theorem vk.old {fr : Bool} {d : D} {v : V} (rel : Rel F.P k F.W0 W F.H0 H env σ) (h : vk F k W fr H Q d) (r : Rep F.P W H d v) (hf : fr = false) : Q v H := h v H (Ext.refl rel.strm) r fun z => by rw [hf] at z; cases z
theorem snd_idx {x y : D} {v u : V} (rel : Rel F.P k F.W0 W F.H0 H env σ) (rx : RepB F.P W H x v) (ry : RepB F.P W H y u) (h : idxD x y (vk F k W false H Q)) : rIdx F.P.K v u H Q := by
  unfold idxD at h
  split at h
  · obtain ⟨d, e, h⟩ := h
    obtain ⟨a, xs, rfl, ha, hz, r⟩ := rx.lst
    rw [ry.int]
    obtain ⟨w, hw, rw'⟩ := r.atI e
    exact .inl (.inl ⟨a, xs, _, w, rfl, rfl, SqL.of ha, hw, vk.old rel h rw' rfl⟩)
  · obtain ⟨d, e, h⟩ := h
    obtain ⟨a, xs, rfl, ha, hz, r⟩ := rx.tup
    rw [ry.int]
    obtain ⟨w, hw, rw'⟩ := r.atI e
    exact .inl (.inr (.inl ⟨a, xs, _, w, rfl, rfl, SqT.of ha, hw, vk.old rel h rw' rfl⟩))
  · obtain ⟨c, e, h⟩ := h
    obtain ⟨rfl, s1⟩ := rx.str
    rw [ry.int]
    exact .inl (.inr (.inr ⟨_, _, c, rfl, rfl, s1.1, e, vk.str rel h (s1.one (atI_mem e))⟩))
  · split at h
    · rename_i k e
      obtain ⟨d, e2, h⟩ := h
      obtain ⟨a, kvs, rfl, ha, hz, r⟩ := rx.dK
      have q := r.look k
      rw [e2] at q
      obtain ⟨w, hw, rw'⟩ := q
      exact .inr ⟨a, w, rfl, .inl ⟨kvs, k, ha, keyD_val e (ry.of_not (keyD_cont e)), hw.symm⟩, vk.old rel h rw' rfl⟩
    · exact h.elim
  · split at h
    · rename_i k e
      obtain ⟨d, e2, h⟩ := h
      obtain ⟨a, kvs, rfl, ha, hz, r⟩ := rx.dT
      have q := r.look k
      rw [e2] at q
      obtain ⟨w, hw, rw'⟩ := q
      obtain ⟨b, rfl, hb⟩ := key_tup e ry
      exact .inr ⟨a, w, rfl, .inr ⟨kvs, k, b, ha, rfl, hb, hw.symm⟩, vk.old rel h rw' rfl⟩
    · exact h.elim
  · exact h.elim
theorem cutA_whole {α : Type} {xs : List α} {lo hi : Option Int} (h : HT.sIx xs.length 0 lo = 0 ∧ HT.sIx xs.length xs.length hi = xs.length) : cutA xs lo hi = xs := by
  unfold cutA
  rw [h.1, h.2]
  simp
theorem snd_slc {x : D} {v : V} {lo hi : Option Int} {fr : Bool} (rel : Rel F.P k F.W0 W F.H0 H env σ) (rx : RepB F.P W H x v) (h : slcD x lo hi (vk F k W fr H Q)) : rSlc F.P.K v lo hi H Q := by
  unfold slcD at h
  split at h
  · obtain ⟨a, xs, rfl, ha, hz, r⟩ := rx.lst
    exact .inl ⟨a, xs, rfl, SqL.of ha, vk.lst rel h (Nat.le_trans (cutV_length xs lo hi) hz) (r.cut lo hi)⟩
  · obtain ⟨a, xs, e, n, ha, hz, r⟩ := Rep.tup.mp (rx.of_not rfl)
    subst e
    refine .inr (.inr ⟨a, xs, rfl, SqT.of ha, fun z => ?_, fun _ => vk.tup rel h (Nat.le_trans (cutV_length xs lo hi) hz) (r.cut lo hi)⟩)
    rw [← r.len] at z
    rw [cutA_whole z] at h
    exact vk.val rel h (Rep.tup.mpr ⟨a, xs, rfl, n, ha, hz, r⟩) rfl
  · obtain ⟨rfl, s1⟩ := rx.str
    exact .inr (.inl ⟨_, rfl, s1.1, vk.str rel h (s1.cut lo hi)⟩)
  · exact h.elim
theorem emp_eq {α β : Type} : ∀ {xs : List α} {ys : List β}, xs.length = ys.length → (!xs.isEmpty) = !ys.isEmpty
  | [], [], _ => rfl
  | _ :: _, _ :: _, _ => rfl
/-- truth -/
theorem snd_tru {x : D} {v : V} {b : Bool} {P : Par} (rx : RepB P W H x v) (h : x.tru = some b) : TruV P.K v H b := by
  cases x <;> simp only [D.tru, Option.some.injEq, reduceCtorEq] at h
  · rw [rx.non]; exact h.symm
  · rw [rx.bl]; exact h.symm
  · rw [rx.int]; exact h.symm
  · obtain ⟨rfl, s1⟩ := rx.str
    exact ⟨s1.1, h.symm⟩
  · obtain ⟨a, xs, rfl, ha, hz, r⟩ := rx.lst
    refine .inl ⟨xs, SqL.of ha, ?_⟩
    rw [← h]
    exact emp_eq r.len
  · obtain ⟨a, xs, rfl, ha, hz, r⟩ := rx.tup
    refine .inr (.inl ⟨xs, SqT.of ha, ?_⟩)
    rw [← h]
    exact emp_eq r.len
end
/-! ### isinstance -/
def dName : D → String
  | .non => "NoneType"
  | .bl _ => "bool"
  | .int _ => "int"
  | .str _ => "str"
  | .lst _ => "list"
  | .tup _ => "tuple"
  | .dK _ => "dict"
  | .dT _ => "dict"
  | _ => ""
def tyName : Ty → String
  | .int => "int"
  | .str => "str"
  | .list => "list"
  | .tuple => "tuple"
  | .dict => "dict"
  | .bool => "bool"
  | .cls _ => ""
theorem kit_all : ∀ (t : Ty) (d : D) (b : Bool), tyD t d = some b → kitB (dName d) (tyName t) = some b := by
  intro t d b h
  cases t <;> cases d <;> simp only [tyD, Option.some.injEq, reduceCtorEq] at h <;> subst h <;> (simp only [dName, tyName]; decide +kernel)
theorem tyX_of {P : Par} {W : Addr → Prop} {H : Hp} {x : D} {v : V} {t : Ty} {b : Bool} (rx : RepB P W H x v) (h : tyD t x = some b) : TyX P.K H v (.type (dName x)) := by
  cases x
  case non => rw [rx.non]; exact .base .non
  case bl => rw [rx.bl]; exact .base (.bl _)
  case int => rw [rx.int]; exact .base (.int _)
  case str => rw [rx.str.1]; exact .base (.str _)
  case lst =>
    obtain ⟨a, xs, rfl, ha, _⟩ := rx.lst
    exact .base (.lst ha)
  case tup =>
    obtain ⟨a, xs, rfl, ha, _⟩ := rx.tup
    exact .base (.tup ha)
  case dK =>
    obtain ⟨a, xs, rfl, ha, _⟩ := rx.dK
    rcases ha with ha | ⟨o, ha⟩
    · exact .base (.dK ha)
    · exact .fDict ha
  all_goals (cases t <;> simp only [tyD, reduceCtorEq] at h)
end Dl
namespace Dl
open PySem PySem.Spec PyProof.Rows L2

section
variable {X : Cx}
theorem call_min3 (hc : X.calm = true) : CallR X (.builtin "min") (fun xs H Q => ∃ i j k, xs = [.int i, .int j, .int k] ∧ Q (.int (if k < (if j < i then j else i) then k else (if j < i then j else i))) H) := by
  intro pins s σ H xs us Q I r h
  obtain ⟨i, j, k, rfl, q⟩ := h
  cases r with
  | cons r1 r =>
    cases r with
    | cons r2 r =>
      cases r with
      | cons r3 r =>
        cases r
        obtain ⟨t, rfl⟩ := r1
        obtain ⟨t', rfl⟩ := r2
        obtain ⟨t'', rfl⟩ := r3
        refine min_three_ints (I.ok.hd hc) fun h' tk kk => ⟨_, H, I.kept kk, ?_, q⟩
        by_cases hj : j < i
        · simp only [if_pos hj]
          by_cases hk : k < j
          · rw [if_pos hk, if_pos hk]; exact ⟨_, rfl⟩
          · rw [if_neg hk, if_neg hk]; exact ⟨_, rfl⟩
        · simp only [if_neg hj]
          by_cases hk : k < i
          · rw [if_pos hk, if_pos hk]; exact ⟨_, rfl⟩
          · rw [if_neg hk, if_neg hk]; exact ⟨_, rfl⟩
def signsV (x : Str) : List V := x.cps.toList.map fun c => .str ⟨#[c]⟩
theorem call_listS (hc : X.calm = true) : CallR X (.type "list") (fun xs H Q => ∃ x, xs = [.str x] ∧ x.length ≤ sizeLine ∧ ∀ p, H p = none → Q (.ref p) (upd H p (.lst (signsV x)))) := by
  intro pins s σ H xs us Q I r h
  obtain ⟨x, rfl, hz, q⟩ := h
  obtain ⟨u, rfl, t, rfl⟩ := vals1 r
  refine call_list_str (I.ok.hd hc) x t (hn := hz) fun h' tk acc' c' hk hS' hacc => ?_
  have hl : acc'.toList.length = x.cps.size := by rw [Array.length_toList]; exact hacc.1
  have rv : Vals (signsV x) acc'.toList := by
    refine vals_of_at (by unfold signsV; rw [List.length_map, Array.length_toList, hl]) fun j v w hv hw => ?_
    obtain ⟨c, tk', hc', rfl⟩ := hacc.2 j w (by rw [← hw, Array.getElem?_toList])
    unfold signsV at hv
    rw [List.getElem?_map, Array.getElem?_toList, hc'] at hv
    cases hv
    exact ⟨_, rfl⟩
  refine ⟨.ref s.heap.objs.size, upd H s.heap.objs.size (.lst (signsV x)), I.laid hk (Nat.le_refl _) (show ObjOk X.prog X.w _ _ _ (.lst (signsV x)) from ⟨?_, acc'.toList, c', rv, ?_⟩), rfl, q _ (I.hok.fresh (Nat.le_refl _))⟩
  · unfold signsV
    rw [List.length_map, Array.length_toList]
    exact hz
  · rw [hS']
/-- what a built-in asks, by values -/
def rBi (K : PySem.W.Frag) : BI → List V → Hp → VK → Prop
  | .len => fun xs H Q => ∃ x n, xs = [x] ∧ LenV K x H n ∧ Q (.int n) H
  | .list => fun xs H Q => (∃ p ys, xs = [.ref p] ∧ (SqL K H p ys ∨ SqT K H p ys) ∧ ∀ l, H l = none → Q (.ref l) (upd H l (.lst ys))) ∨
      (∃ x, xs = [.str x] ∧ x.length ≤ sizeLine ∧ ∀ p, H p = none → Q (.ref p) (upd H p (.lst (signsV x)))) ∨
      (∃ (a : Addr) (kvs : List (Key × V)), xs = [.ref a] ∧ Rd H a (.dK kvs) ∧ ∀ p, H p = none → Q (.ref p) (upd H p (.lst (kvs.map fun kv => kV kv.1))))
  | .tuple => fun xs H Q => ∃ p ys, xs = [.ref p] ∧ ((SqL K H p ys ∧ ∀ l, H l = none → Q (.ref l) (upd H l (.tup ys))) ∨ (SqT K H p ys ∧ Q (.ref p) H))
  | .int => fun xs H Q => (∃ i, xs = [.int i] ∧ Q (.int i) H) ∨ ∃ k, xs = [.bl k] ∧ Q (.int (if k then 1 else 0)) H
  | .min => fun xs H Q => (∃ i j, xs = [.int i, .int j] ∧ Q (.int (if j < i then j else i)) H) ∨ (∃ i j k, xs = [.int i, .int j, .int k] ∧ Q (.int (if k < (if j < i then j else i) then k else (if j < i then j else i))) H)
  | .max => fun xs H Q => ∃ i j, xs = [.int i, .int j] ∧ Q (.int (if j > i then j else i)) H
  | .all => rAll K
  | .any => rAny K
  | .sum => rSum K
  | .sorted => rSortedS K
  | .abs => fun xs H Q => ∃ i, xs = [.int i] ∧ Q (.int (if i < 0 then -i else i)) H
  | .dict => fun vs H Q => ∃ (a : Addr) (ps : List V) (kvs : List (Key × V)), vs = [.ref a] ∧ SqL K H a ps ∧ (ps = [] ∧ kvs = []) ∧ ∀ p, H p = none → Q (.ref p) (upd H p (.dK (mergeK [] kvs)))
  | _ => fun _ _ _ => False
theorem pe_bi {g : Str} {b : BI} {p pos : Pos} {e : Expr} {es : List Expr} {t : TA} (hb : builtins.lookup g = some b) (hc : X.calm = true) (hg : Gl X g) (hm : X.mg g = none) (ha : PA X (e :: es) t)
    (he : starEach (e :: es) X.env = (false, eval e X.env) :: starEach es X.env) (hpl : (backTo pos (starEach es X.env)).any (·.1) = false) : PE X (.Call (.Name g p) (e :: es) [] pos) (tCB (rBi X.K b) t) := by
  have hmem := PySem.mem_of_lookup hb
  simp only [builtins, List.mem_cons, Prod.mk.injEq, List.not_mem_nil, or_false] at hmem
  rcases hmem with ⟨rfl, rfl⟩ | ⟨rfl, rfl⟩ | ⟨rfl, rfl⟩ | ⟨rfl, rfl⟩ | ⟨rfl, rfl⟩ | ⟨rfl, rfl⟩ | ⟨rfl, rfl⟩ | ⟨rfl, rfl⟩ | ⟨rfl, rfl⟩ | ⟨rfl, rfl⟩ | ⟨rfl, rfl⟩ | ⟨rfl, rfl⟩ | ⟨rfl, rfl⟩ | ⟨rfl, rfl⟩ | ⟨rfl, rfl⟩
  · exact pe_callB call_len hg hm (by decide +kernel) ha (he := he) (hpl := hpl)
  · exact pe_callTy (call_list_of.or ((call_listS hc).or (call_listD hc))) hg hm (by decide +kernel) ha (he := he) (hpl := hpl)
  · exact pe_callTy call_tuple_of hg hm (by decide +kernel) ha (he := he) (hpl := hpl)
  · exact pe_callTy call_int1 hg hm (by decide +kernel) ha (he := he) (hpl := hpl)
  · exact pe_callTy (T := "str") (fun _ _ _ _ _ _ _ _ _ h => h.elim) hg hm (by decide +kernel) ha (he := he) (hpl := hpl)
  · exact pe_callB ((call_min2 hc).or (call_min3 hc)) hg hm (by decide +kernel) ha (he := he) (hpl := hpl)
  · exact pe_callB (call_max2 hc) hg hm (by decide +kernel) ha (he := he) (hpl := hpl)
  · exact pe_callB (cr_all hc) hg hm (by decide +kernel) ha (he := he) (hpl := hpl)
  · exact pe_callB (cr_any hc) hg hm (by decide +kernel) ha (he := he) (hpl := hpl)
  · exact pe_callB (cr_sum hc) hg hm (by decide +kernel) ha (he := he) (hpl := hpl)
  · exact pe_callB cr_sortedS hg hm (by decide +kernel) ha (he := he) (hpl := hpl)
  · refine pe_callTy (T := "dict") (r := rBi X.K .dict) (fun pins s σ H vs us Q I r h => ?_) hg hm (by decide +kernel) ha (he := he) (hpl := hpl)
    obtain ⟨a, ps, kvs, rfl, h1, ⟨rfl, rfl⟩, q⟩ := h
    exact call_dictP hc pins s σ H [.ref a] us Q I r ⟨a, [], [], rfl, h1, Paired.nil, q⟩
  · exact pe_callB call_abs hg hm (by decide +kernel) ha (he := he) (hpl := hpl)
  · exact pe_callTy (T := "bool") (fun _ _ _ _ _ _ _ _ _ h => h.elim) hg hm (by decide +kernel) ha (he := he) (hpl := hpl)
  · exact pe_callB (id := "repr") (fun _ _ _ _ _ _ _ _ _ h => h.elim) hg hm (by decide +kernel) ha (he := he) (hpl := hpl)
end
end Dl
namespace Dl
open PySem PySem.Spec PyProof.Rows L2
section
variable {P : Par} {W : Addr → Prop} {H : Hp}
theorem RepL.strs : ∀ {ss : List Str} {xs : List V}, RepL P W H (ss.map D.str) xs → xs = ss.map V.str ∧ ∀ s ∈ ss, SOk s
  | [], xs, h => by
    rw [List.map_nil] at h
    exact ⟨RepL.nil_iff.mp h, fun s hs => nomatch hs⟩
  | s :: ss, xs, h => by
    rw [List.map_cons] at h
    obtain ⟨x, r, rfl, h1, h2⟩ := RepL.cons_iff.mp h
    obtain ⟨rfl, s1⟩ := Rep.str.mp h1
    obtain ⟨rfl, s2⟩ := RepL.strs h2
    exact ⟨rfl, fun s hs => (List.mem_cons.mp hs).elim (fun e => e ▸ s1) (s2 s)⟩
theorem RepL.of_strs : ∀ {ss : List Str}, (∀ s ∈ ss, SOk s) → RepL P W H (ss.map D.str) (ss.map V.str)
  | [], _ => RepL.nil_iff.mpr rfl
  | s :: ss, h => RepL.mk (Rep.str.mpr ⟨rfl, h s List.mem_cons_self⟩) (RepL.of_strs fun s hs => h s (List.mem_cons_of_mem _ hs))
theorem RepL.ints : ∀ {ns : List Int} {xs : List V}, RepL P W H (ns.map D.int) xs → xs = ns.map V.int
  | [], xs, h => RepL.nil_iff.mp h
  | n :: ns, xs, h => by
    rw [List.map_cons] at h
    obtain ⟨x, r, rfl, h1, h2⟩ := RepL.cons_iff.mp h
    rw [Rep.int.mp h1, RepL.ints h2]
    rfl
theorem RepL.of_ints : ∀ {ns : List Int}, RepL P W H (ns.map D.int) (ns.map V.int)
  | [] => RepL.nil_iff.mpr rfl
  | s :: ss => RepL.mk (Rep.int.mpr rfl) RepL.of_ints
theorem RepL.bls : ∀ {ns : List Bool} {xs : List V}, RepL P W H (ns.map D.bl) xs → xs = ns.map V.bl
  | [], xs, h => RepL.nil_iff.mp h
  | n :: ns, xs, h => by
    rw [List.map_cons] at h
    obtain ⟨x, r, rfl, h1, h2⟩ := RepL.cons_iff.mp h
    rw [Rep.bl.mp h1, RepL.bls h2]
    rfl
theorem signs_rep {s : Str} (h : SOk s) : RepL P W H (signs s) (signsV s) := by
  unfold signs signsV
  refine RepL.of (by simp) fun i d x a b => ?_
  rw [List.getElem?_map] at a b
  cases e : s.cps.toList[i]? with
  | none => rw [e] at a; simp at a
  | some c =>
    rw [e] at a b
    simp only [Option.map_some, Option.some.injEq] at a b
    subst a b
    exact Rep.str.mpr ⟨rfl, h.one (List.mem_of_getElem? e)⟩
theorem RepX.keys : ∀ {kds : List (Key × D)} {kvs : List (Key × V)}, RepX P W H kds kvs → kvs.map (·.1) = kds.map (·.1)
  | [], kvs, h => by
    unfold RepX at h
    subst h
    rfl
  | (a, d) :: r, kvs, h => by
    unfold RepX at h
    obtain ⟨x, s, rfl, h1, h2⟩ := h
    rw [List.map_cons, List.map_cons, RepX.keys h2]
theorem keysV_eq {kds : List (Key × D)} {kvs : List (Key × V)} (h : RepX P W H kds kvs) : (kvs.map fun kv => kV kv.1) = (kds.map (·.1)).map kV := by
  rw [← h.keys, List.map_map]
  rfl
theorem keys_ok {kds : List (Key × D)} {kvs : List (Key × V)} (h : RepX P W H kds kvs) (hz : KzK kvs) : ∀ kv ∈ kds, KeyOk kv.1 := fun kv hkv => by
  have h1 : kv.1 ∈ kvs.map (·.1) := by rw [h.keys]; exact List.mem_map.mpr ⟨kv, hkv, rfl⟩
  obtain ⟨kv', h2, e⟩ := List.mem_map.mp h1
  rw [← e]
  exact hz.2 kv' h2
theorem keys_rep : ∀ {kds : List (Key × D)}, (∀ kv ∈ kds, KeyOk kv.1) → RepL P W H (kds.map fun kv => keyVal kv.1) ((kds.map (·.1)).map kV)
  | [], _ => RepL.nil_iff.mpr rfl
  | (k, d) :: r, h => by
    refine RepL.mk ?_ (keys_rep fun kv hkv => h kv (List.mem_cons_of_mem _ hkv))
    have h1 := h (k, d) List.mem_cons_self
    show Rep _ _ _ (keyVal k) (kV k)
    cases k with
    | inl i => exact Rep.int.mpr rfl
    | inr s => exact Rep.str.mpr ⟨rfl, h1⟩
end
section
variable {F : Fx} {j k : Nat} {W : Addr → Prop} {env : DEnv} {σ : L2.St} {H : Hp} {Q : VK}
def BArgs (F : Fx) (W : Addr → Prop) (H : Hp) (ds : List D) (vs : List V) : Prop := ds.length = vs.length ∧ ∀ (i : Nat) d v, ds[i]? = some d → vs[i]? = some v → RepB F.P W H d v
theorem BArgs.one {d : D} {vs : List V} (h : BArgs F W H [d] vs) : ∃ v, vs = [v] ∧ RepB F.P W H d v := by
  obtain ⟨hl, h⟩ := h
  match vs, hl with
  | [v], _ => exact ⟨v, rfl, h 0 d v rfl rfl⟩
theorem BArgs.two {d e : D} {vs : List V} (h : BArgs F W H [d, e] vs) : ∃ v u, vs = [v, u] ∧ RepB F.P W H d v ∧ RepB F.P W H e u := by
  obtain ⟨hl, h⟩ := h
  match vs, hl with
  | [v, u], _ => exact ⟨v, u, rfl, h 0 d v rfl rfl, h 1 e u rfl rfl⟩
theorem BArgs.three {d e f : D} {vs : List V} (h : BArgs F W H [d, e, f] vs) : ∃ v u w, vs = [v, u, w] ∧ RepB F.P W H d v ∧ RepB F.P W H e u ∧ RepB F.P W H f w := by
  obtain ⟨hl, h⟩ := h
  match vs, hl with
  | [v, u, w], _ => exact ⟨v, u, w, rfl, h 0 d v rfl rfl, h 1 e u rfl rfl, h 2 f w rfl rfl⟩
theorem snd_bi {b : BI} {fr : Bool} {ds : List D} {vs : List V} (rel : Rel F.P k F.W0 W F.H0 H env σ) (r : BArgs F W H ds vs) (h : biD b ds (vk F k W fr H Q)) : rBi F.P.K b vs H Q := by
  unfold biD at h
  split at h
  · obtain ⟨v, rfl, rx⟩ := r.one
    obtain ⟨a, xs, rfl, ha, hz, rl⟩ := rx.lst
    exact ⟨_, _, rfl, .inl ⟨xs, SqL.of ha, rl.len⟩, vk.int rel h⟩
  · obtain ⟨v, rfl, rx⟩ := r.one
    obtain ⟨a, xs, rfl, ha, hz, rl⟩ := rx.tup
    exact ⟨_, _, rfl, .inr ⟨xs, SqT.of ha, rl.len⟩, vk.int rel h⟩
  · obtain ⟨v, rfl, rx⟩ := r.one
    obtain ⟨rfl, s1⟩ := rx.str
    exact ⟨_, _, rfl, ⟨s1.1, rfl⟩, vk.int rel h⟩
  · obtain ⟨v, rfl, rx⟩ := r.one
    obtain ⟨a, xs, rfl, ha, hz, rl⟩ := rx.lst
    exact .inl ⟨a, xs, rfl, .inl (SqL.of ha), vk.lst rel h hz rl⟩
  · obtain ⟨v, rfl, rx⟩ := r.one
    obtain ⟨a, xs, rfl, ha, hz, rl⟩ := rx.tup
    exact .inl ⟨a, xs, rfl, .inr (SqT.of ha), vk.lst rel h hz rl⟩
  · obtain ⟨v, rfl, rx⟩ := r.one
    obtain ⟨rfl, s1⟩ := rx.str
    refine .inr (.inl ⟨_, rfl, s1.1, vk.lst rel h ?_ (signs_rep s1)⟩)
    unfold signsV
    rw [List.length_map, Array.length_toList]
    exact s1.1
  · obtain ⟨v, rfl, rx⟩ := r.one
    obtain ⟨a, kvs, rfl, ha, hz, rl⟩ := rx.dK
    refine .inr (.inr ⟨a, kvs, rfl, ha, vk.lst rel h (by rw [List.length_map]; exact hz.1) ?_⟩)
    rw [keysV_eq rl]
    exact keys_rep (keys_ok rl hz)
  · obtain ⟨v, rfl, rx⟩ := r.one
    obtain ⟨a, xs, rfl, ha, hz, rl⟩ := rx.lst
    exact ⟨a, xs, rfl, .inl ⟨SqL.of ha, vk.tup rel h hz rl⟩⟩
  · obtain ⟨v, rfl, rx⟩ := r.one
    obtain ⟨a, xs, e, n, ha, hz, rl⟩ := Rep.tup.mp (rx.of_not rfl)
    subst e
    exact ⟨a, xs, rfl, .inr ⟨SqT.of ha, vk.val rel h (Rep.tup.mpr ⟨a, xs, rfl, n, ha, hz, rl⟩) rfl⟩⟩
  · obtain ⟨v, rfl, rx⟩ := r.one
    rw [rx.int]
    exact .inl ⟨_, rfl, vk.int rel h⟩
  · obtain ⟨v, rfl, rx⟩ := r.one
    rw [rx.bl]
    exact .inr ⟨_, rfl, vk.int rel h⟩
  · obtain ⟨v, u, rfl, rx, ry⟩ := r.two
    rw [rx.int, ry.int]
    exact .inl ⟨_, _, rfl, vk.int rel h⟩
  · obtain ⟨v, u, w, rfl, rx, ry, rz⟩ := r.three
    rw [rx.int, ry.int, rz.int]
    exact .inr ⟨_, _, _, rfl, vk.int rel h⟩
  · obtain ⟨v, u, rfl, rx, ry⟩ := r.two
    rw [rx.int, ry.int]
    exact ⟨_, _, rfl, vk.int rel h⟩
  · obtain ⟨bs, rfl, h⟩ := h
    obtain ⟨v, rfl, rx⟩ := r.one
    obtain ⟨a, xs, rfl, ha, hz, rl⟩ := rx.lst
    rw [rl.bls] at ha
    exact ⟨a, bs, rfl, SqL.of ha, vk.bl rel h⟩
  · obtain ⟨bs, rfl, h⟩ := h
    obtain ⟨v, rfl, rx⟩ := r.one
    obtain ⟨a, xs, rfl, ha, hz, rl⟩ := rx.lst
    rw [rl.bls] at ha
    exact ⟨a, bs, rfl, SqL.of ha, vk.bl rel h⟩
  · obtain ⟨bs, rfl, h⟩ := h
    obtain ⟨v, rfl, rx⟩ := r.one
    obtain ⟨a, xs, rfl, ha, hz, rl⟩ := rx.lst
    rw [rl.ints] at ha
    exact ⟨a, bs, rfl, SqL.of ha, vk.int rel h⟩
  · obtain ⟨ss, rfl, hl, h⟩ := h
    obtain ⟨v, rfl, rx⟩ := r.one
    obtain ⟨a, xs, rfl, ha, hz, rl⟩ := rx.lst
    obtain ⟨rfl, s1⟩ := rl.strs
    refine ⟨a, ss, rfl, SqL.of ha, hl, fun ts p hp hs hn => ?_⟩
    have s2 : ∀ s ∈ ts, SOk s := fun s hs => s1 s (hp.mem_iff.mp hs)
    refine vk.lst rel (h ts hp hs) ?_ (RepL.of_strs s2) p hn
    rw [List.length_map, hp.length_eq, ← List.length_map (f := V.str)]
    exact hz
  · obtain ⟨v, rfl, rx⟩ := r.one
    obtain ⟨a, xs, rfl, ha, hz, rl⟩ := rx.lst
    rw [RepL.nil_iff.mp rl] at ha
    refine ⟨a, [], [], rfl, SqL.of ha, ⟨rfl, rfl⟩, fun p hp => ?_⟩
    have e := rel.extNew (o := .dK []) hp
    refine h _ _ e ?_ fun _ _ => ?_
    · unfold Rep
      exact ⟨p, [], rfl, rel.newW hp, .inl upd_same, ⟨Nat.zero_le _, fun _ z => nomatch z⟩, by unfold RepK; rfl⟩
    · exact ⟨p, rfl, hp, [], upd_same, ⟨Nat.zero_le _, fun _ z => nomatch z⟩, by unfold RepK; rfl⟩
  · obtain ⟨v, rfl, rx⟩ := r.one
    rw [rx.int]
    exact ⟨_, rfl, vk.int rel h⟩
  · exact h.elim
end
end Dl
namespace Dl
open PySem PySem.Spec PyProof.Rows L2

/-! ### cells lent to a callee -/
abbrev Cells := List (Addr × Obj)
def lend (H : Hp) (L : Cells) : Hp := fun a => match L.lookup a with
  | some o => some (CellO a o)
  | none => H a
def unlend (H : Hp) (L : Cells) : Hp := fun a => match L.lookup a with
  | some _ => none
  | none => H a
section
variable {H H' : Hp} {L : Cells} {a : Addr} {o : Obj} {u : HO}
theorem lend_in (e : L.lookup a = some o) : lend H L a = some (CellO a o) := by unfold lend; rw [e]
theorem lend_out (e : L.lookup a = none) : lend H L a = H a := by unfold lend; rw [e]
theorem unlend_in (e : L.lookup a = some o) : unlend H L a = none := by unfold unlend; rw [e]
theorem unlend_out (e : L.lookup a = none) : unlend H L a = H a := by unfold unlend; rw [e]
/-- none of the cells is tracked -/
def Free (H : Hp) (L : Cells) : Prop := ∀ c o, L.lookup c = some o → H c = none
/-- all of them are -/
def Kept (H : Hp) (L : Cells) : Prop := ∀ c o, L.lookup c = some o → H c = some (CellO c o)
theorem Free.out (f : Free H L) (e : H a = some u) : L.lookup a = none := by
  cases q : L.lookup a with
  | none => rfl
  | some o =>
    have := f a o q
    rw [e] at this
    cases this
theorem Free.lent (f : Free H L) (e : H a = some u) : lend H L a = some u := by rw [lend_out (f.out e)]; exact e
theorem Kept.out (f : Kept H L) (e : H a = some u) (hu : ∀ φ, u ≠ .ext φ) : L.lookup a = none := by
  cases q : L.lookup a with
  | none => rfl
  | some o =>
    have := f a o q
    rw [e] at this
    exact absurd (Option.some.inj this) (hu _)
theorem Kept.outN (f : Kept H L) (e : H a = none) : L.lookup a = none := by
  cases q : L.lookup a with
  | none => rfl
  | some o =>
    have := f a o q
    rw [e] at this
    cases this
theorem unlend_some (e : unlend H L a = some u) : L.lookup a = none ∧ H a = some u := by
  unfold unlend at e
  cases q : L.lookup a with
  | none =>
    rw [q] at e
    exact ⟨rfl, e⟩
  | some o =>
    rw [q] at e
    cases e
theorem unlend_free : Free (unlend H L) L := fun c o e => unlend_in e
theorem lend_kept : Kept (lend H L) L := fun c o e => lend_in e
end
section
variable {P : Program} {w : World} {H H' : Hp} {h h' : Heap} {L : Cells} {fs : List Addr}
theorem Kept.at_ (f : Kept H L) (hok : HOk P w H h) {c : Addr} {o : Obj} (e : L.lookup c = some o) : h.get? c = some o := (hok c _ (f c o e)).1
theorem hok_lend (hok : HOk P w H h) (f : Free H L) (hl : ∀ c o, L.lookup c = some o → h.get? c = some o) : HOk P w (lend H L) h := fun a u e => by
  cases q : L.lookup a with
  | some o =>
    rw [lend_in q] at e
    cases e
    exact ⟨hl a o q, ⟨o, hl a o q⟩, fun h1 h2 p st => st o p⟩
  | none =>
    rw [lend_out q] at e
    exact (hok a u e).stay (fun _ _ _ z => z) (fun b z => f.lent z) fun b xs z => f.lent z
theorem hok_unlend (hok : HOk P w H h) (f : Kept H L) : HOk P w (unlend H L) h := fun a u e => by
  obtain ⟨q, e⟩ := unlend_some e
  exact (hok a u e).stay (fun _ _ _ z => z) (fun b z => by rw [unlend_out (f.out z fun _ y => nomatch y)]; exact z) fun b xs z => by rw [unlend_out (f.out z fun _ y => nomatch y)]; exact z
/-- the cells taken back -/
theorem un_back (f : Free H L) (hl : ∀ c o, L.lookup c = some o → h.get? c = some o) (u : Un fs [] (lend H L) H' h h') (hok : HOk P w H' h') (k : Kept H' L) : Un fs [] H (unlend H' L) h h' where
  keep := fun b o e n hb hx => by
    cases q : L.lookup b with
    | some o' =>
      have e2 := hl b o' q
      rw [e] at e2
      cases e2
      exact k.at_ hok q
    | none => exact u.keep b o e (by rw [lend_out q]; exact n) hb hx
  slot := fun b o e n hb hx => by
    cases q : L.lookup b with
    | some o' =>
      have e2 := hl b o' q
      rw [e] at e2
      cases e2
      exact ⟨o.slots, k.at_ hok q⟩
    | none => exact u.slot b o e (by rw [lend_out q]; exact n) hb hx
  free := fun b o e n hx => by
    cases q : L.lookup b with
    | some o' => exact unlend_in q
    | none => rw [unlend_out q]; exact u.free b o e (by rw [lend_out q]; exact n) hx
  there := u.there
  tups := fun b xs e => by rw [unlend_out (f.out e)]; exact u.tups b xs (f.lent e)
  frzs := fun b o x e => by rw [unlend_out (f.out e)]; exact u.frzs b o x (f.lent e)
  tbls := fun b ps e => by rw [unlend_out (f.out e)]; exact u.tbls b ps (f.lent e)
theorem ub_back {B : Heap} (f : Free H L) (hl : ∀ c o, L.lookup c = some o → h.get? c = some o) (u : UB fs (lend H L) H' h B h') (hok : HOk P w H' B) (k : Kept H' L) : UB fs H (unlend H' L) h B h' where
  keep := fun b o e n hb => by
    cases q : L.lookup b with
    | some o' =>
      have e2 := hl b o' q
      rw [e] at e2
      cases e2
      exact k.at_ hok q
    | none => exact u.keep b o e (by rw [lend_out q]; exact n) hb
  slot := u.slot
  free := fun b o e n => by
    cases q : L.lookup b with
    | some o' => exact unlend_in q
    | none => rw [unlend_out q]; exact u.free b o e (by rw [lend_out q]; exact n)
  there := u.there
  tups := fun b xs e => by rw [unlend_out (f.out e)]; exact u.tups b xs (f.lent e)
  frzs := fun b o x e => by rw [unlend_out (f.out e)]; exact u.frzs b o x (f.lent e)
  tbls := fun b ps e => by rw [unlend_out (f.out e)]; exact u.tbls b ps (f.lent e)
/-- the cells lent again -/
theorem un_forth (k : Kept H L) (u : Un fs [] (unlend H L) H' h h') : Un fs [] H (lend H' L) h h' where
  keep := fun b o e n hb hx => u.keep b o e (by rw [unlend_out (k.outN n)]; exact n) hb hx
  slot := fun b o e n hb hx => u.slot b o e (by rw [unlend_out (k.outN n)]; exact n) hb hx
  free := fun b o e n hx => by rw [lend_out (k.outN n)]; exact u.free b o e (by rw [unlend_out (k.outN n)]; exact n) hx
  there := u.there
  tups := fun b xs e => by
    have q := k.out e fun _ z => nomatch z
    rw [lend_out q]
    exact u.tups b xs (by rw [unlend_out q]; exact e)
  frzs := fun b o x e => by
    have q := k.out e fun _ z => nomatch z
    rw [lend_out q]
    exact u.frzs b o x (by rw [unlend_out q]; exact e)
  tbls := fun b ps e => by
    have q := k.out e fun _ z => nomatch z
    rw [lend_out q]
    exact u.tbls b ps (by rw [unlend_out q]; exact e)
theorem ub_forth {B : Heap} (k : Kept H L) (u : UB fs (unlend H L) H' h B h') : UB fs H (lend H' L) h B h' where
  keep := fun b o e n hb => u.keep b o e (by rw [unlend_out (k.outN n)]; exact n) hb
  slot := u.slot
  free := fun b o e n => by rw [lend_out (k.outN n)]; exact u.free b o e (by rw [unlend_out (k.outN n)]; exact n)
  there := u.there
  tups := fun b xs e => by
    have q := k.out e fun _ z => nomatch z
    rw [lend_out q]
    exact u.tups b xs (by rw [unlend_out q]; exact e)
  frzs := fun b o x e => by
    have q := k.out e fun _ z => nomatch z
    rw [lend_out q]
    exact u.frzs b o x (by rw [unlend_out q]; exact e)
  tbls := fun b ps e => by
    have q := k.out e fun _ z => nomatch z
    rw [lend_out q]
    exact u.tbls b ps (by rw [unlend_out q]; exact e)
theorem un_freeF (k : Kept H L) (hok : HOk P w H h) (u : Un fs [] (unlend H L) H' h h') : Free H' L := fun c o e => u.free c o (k.at_ hok e) (unlend_in e) (by simp)
theorem ub_freeF {B : Heap} (k : Kept H L) (hok : HOk P w H h) (u : UB fs (unlend H L) H' h B h') : Free H' L := fun c o e => u.free c o (k.at_ hok e) (unlend_in e)
variable {outer : List Env} {s : Shared} {r : Result} {s' : Shared} {Q : VK} {E : XK}
/-- a call's end, back -/
theorem cr_back (f : Free H L) (hl : ∀ c o, L.lookup c = some o → s.heap.get? c = some o) (c : CR (L2.CX P w) outer P w (lend H L) s (fun v H' => Kept H' L ∧ Q v (unlend H' L)) (fun cls dd H' => Kept H' L ∧ E cls dd (unlend H' L)) r s') :
    CR (L2.CX P w) outer P w H s Q E r s' := by
  cases r with
  | error e =>
    obtain ⟨a, B, H', cls, d, e1, e2, e3, e4, e5, e6, e7, k, e8⟩ := c
    refine ⟨a, B, unlend H' L, cls, d, e1, e2, hok_unlend e3 k, ub_back f hl e4 e3 k, ?_, e6, e7, e8⟩
    cases q : L.lookup a with
    | some o => exact unlend_in q
    | none => rw [unlend_out q]; exact e5
  | ok fl =>
    cases fl with
    | ret u =>
      obtain ⟨v, H', e1, e2, e3, e4, e5, k, e6⟩ := c
      exact ⟨v, unlend H' L, e1, e2, un_back f hl e3 e4 k, hok_unlend e4 k, e5, e6⟩
    | next => exact False.elim c
    | brk => exact False.elim c
    | cont => exact False.elim c
/-- a call's end, with the cells lent again -/
theorem cr_forth (k : Kept H L) (hok : HOk P w H s.heap) (hf : ∀ b o, L.lookup b = some o → b ∉ frs outer) (c : CR (L2.CX P w) outer P w (unlend H L) s (fun v H' => Free H' L → Q v (lend H' L)) (fun cls dd H' => Free H' L → E cls dd (lend H' L)) r s') :
    CR (L2.CX P w) outer P w H s Q E r s' := by
  cases r with
  | error e =>
    obtain ⟨a, B, H', cls, d, e1, e2, e3, e4, e5, e6, e7, e8⟩ := c
    have fr := ub_freeF k hok e4
    have hB : ∀ c o, L.lookup c = some o → B.get? c = some o := fun c o q => e4.keep c o (k.at_ hok q) (unlend_in q) (hf c o q)
    refine ⟨a, B, lend H' L, cls, d, e1, e2, hok_lend e3 fr hB, ub_forth k e4, ?_, e6, e7, e8 fr⟩
    cases q : L.lookup a with
    | some o =>
      have := e2.2.1
      rw [hB a o q] at this
      cases this
    | none => rw [lend_out q]; exact e5
  | ok fl =>
    cases fl with
    | ret u =>
      obtain ⟨v, H', e1, e2, e3, e4, e5, e6⟩ := c
      have fr := un_freeF k hok e3
      have hB : ∀ c o, L.lookup c = some o → s'.heap.get? c = some o := fun c o q => e3.keep c o (k.at_ hok q) (unlend_in q) (hf c o q) (by simp)
      exact ⟨v, lend H' L, e1, e2, un_forth k e3, hok_lend e4 fr hB, e5, e6 fr⟩
    | next => exact False.elim c
    | brk => exact False.elim c
    | cont => exact False.elim c
end
end Dl
namespace Dl
open PySem PySem.Spec PyProof.Rows L2 LamX
section
variable {X : Cx} {pins : List (Addr × Obj)} {σ : L2.St} {H : Hp} {s : Shared}
/-- the frame's cells as they stand -/
def cellsL (cs : List (Str × Addr)) (h : Heap) : Cells := (cs.filter fun y => decide (cs.lookup y.1 = some y.2)).filterMap fun y => (h.get? y.2).map fun o => (y.2, o)
theorem mem_lk {α β : Type} [BEq α] [LawfulBEq α] {l : List (α × β)} {a : α} {b : β} (h : l.lookup a = some b) : (a, b) ∈ l := by
  induction l with
  | nil => cases h
  | cons p r ih =>
    rw [List.lookup_cons] at h
    by_cases q : (a == p.1) = true
    · rw [q] at h
      cases h
      rw [eq_of_beq q]
      exact List.mem_cons_self
    · rw [Bool.not_eq_true] at q
      rw [q] at h
      exact List.mem_cons_of_mem _ (ih h)
theorem cellsL_in {cs : List (Str × Addr)} {h : Heap} {c : Addr} {o : Obj} (e : (cellsL cs h).lookup c = some o) : ∃ y, cs.lookup y = some c ∧ h.get? c = some o := by
  have hm : (c, o) ∈ cellsL cs h := mem_lk e
  obtain ⟨y, hy, e2⟩ := List.mem_filterMap.mp hm
  obtain ⟨o', h1, h2⟩ := Option.map_eq_some_iff.mp e2
  cases h2
  exact ⟨y.1, of_decide_eq_true (List.mem_filter.mp hy).2, h1⟩
theorem lookup_of_mem {α β : Type} [BEq α] [LawfulBEq α] {l : List (α × β)} {a : α} {b : β} (h : (a, b) ∈ l) : ∃ b', l.lookup a = some b' := by
  induction l with
  | nil => cases h
  | cons p r ih =>
    rw [List.lookup_cons]
    by_cases q : (a == p.1) = true
    · rw [q]; exact ⟨_, rfl⟩
    · rw [Bool.not_eq_true] at q
      rw [q]
      rcases List.mem_cons.mp h with e | e
      · rw [← e] at q
        simp at q
      · exact ih e
theorem cellsL_has {cs : List (Str × Addr)} {h : Heap} {y : Str} {c : Addr} {o : Obj} (e : cs.lookup y = some c) (ho : h.get? c = some o) : (cellsL cs h).lookup c = some o := by
  have m : (c, o) ∈ cellsL cs h := List.mem_filterMap.mpr ⟨(y, c), List.mem_filter.mpr ⟨mem_lk e, decide_eq_true e⟩, by rw [ho]; rfl⟩
  obtain ⟨o', h1⟩ := lookup_of_mem m
  obtain ⟨y', _, h2⟩ := cellsL_in h1
  rw [ho] at h2
  cases h2
  exact h1
/-- what may be lent of X -/
structure HasCells (X : Cx) (σ : L2.St) (H : Hp) (s : Shared) (L : Cells) : Prop where
  free : Free H L
  at_ : ∀ c o, L.lookup c = some o → s.heap.get? c = some o
  isC : ∀ c o, L.lookup c = some o → ∃ v, o.data = .cell v
  base : ∀ c o, L.lookup c = some o → X.base.get? c = none
  frm : ∀ c o, L.lookup c = some o → c ∉ frs X.stack
  cell : ∀ y c, X.env.cells.lookup y = some c → ∃ o v, L.lookup c = some o ∧ o.data = .cell v
  val : ∀ (i : Nat) (y : Str) (v : V), X.N[i]? = some y → σ[i]? = some (some v) → (X.env.scope.names.lookup y = some .cell ∨ X.env.scope.names.lookup y = some .free) → ∃ c o u, X.env.cells.lookup y = some c ∧ L.lookup c = some o ∧ o.data = .cell (some u) ∧ RelV v u
theorem cells_of (I : Inv X pins σ H s) (hf : ∀ y, X.fn y = true) : HasCells X σ H s (cellsL X.env.cells s.heap) where
  free := fun c o e => by
    obtain ⟨y, hy, _⟩ := cellsL_in e
    exact I.freeC y c hy
  at_ := fun c o e => by
    obtain ⟨y, _, ho⟩ := cellsL_in e
    exact ho
  isC := fun c o e => by
    obtain ⟨y, hy, ho⟩ := cellsL_in e
    obtain ⟨v, o', ho', hd⟩ := I.cell y c hy
    rw [ho] at ho'
    cases ho'
    exact ⟨v, hd⟩
  base := fun c o e => by
    obtain ⟨y, hy, _⟩ := cellsL_in e
    exact Heap.get?_none_of_le (Nat.le_trans I.ok.bsz (I.ok.cab y c (hf y) hy))
  frm := fun c o e hm => by
    obtain ⟨y, hy, _⟩ := cellsL_in e
    rcases List.mem_cons.mp (I.stkSub c hm) with z | z
    · exact I.cne y c hy z
    · obtain ⟨_, o', ho', _⟩ := I.ok.funs.mem z
      exact absurd (Nat.lt_of_lt_of_le (Heap.lt_size ho') (I.ok.cab y c (hf y) hy)) (Nat.lt_irrefl _)
  cell := fun y c e => by
    obtain ⟨v, o, ho, hd⟩ := I.cell y c e
    exact ⟨o, v, cellsL_has e ho, hd⟩
  val := fun i y v e1 e2 e3 => by
    obtain ⟨m, hn, hl⟩ := I.loc
    obtain ⟨u, r, q⟩ := hl i y v e1 e2 (.inr e3)
    rcases q with ⟨k', _⟩ | ⟨_, c, e', o, ho, hd⟩
    · have k' : X.env.scope.names.lookup y = some .local := k'
      rw [k'] at e3
      rcases e3 with z | z <;> cases z
    · exact ⟨c, o, u, e', cellsL_has e' ho, hd, r⟩
theorem HasCells.noCode {L : Cells} (hc : HasCells X σ H s L) {c : Addr} {o : Obj} (e : L.lookup c = some o) (q : Str) : CellO c o ≠ CodeO c q := fun z => by
  have h1 : (fun h : Heap => h.get? c = some o) s.heap := hc.at_ c o e
  rw [HO.ext.inj z] at h1
  obtain ⟨oc, vs, t, h2, h3, _⟩ := h1
  rw [hc.at_ c o e] at h2
  cases h2
  obtain ⟨v, hv⟩ := hc.isC c o e
  rw [hv] at h3
  cases h3
theorem env0_lend {L : Cells} (I : Inv X pins σ H s) (hc : HasCells X σ H s L) : Env0 X.prog X.w X.K X.mg X.base X.A X.stack s (lend H L) := by
  have e0 := I.env0
  refine ⟨e0.frames, e0.mod, fun b o e => ?_, e0.bsz, e0.funs, fun b hb => ?_, hok_lend e0.hok hc.free hc.at_, e0.bare⟩
  · obtain ⟨h1, h2⟩ := e0.bs b o e
    refine ⟨h1, ?_⟩
    cases q : L.lookup b with
    | some o' =>
      have := hc.base b o' q
      rw [e] at this
      cases this
    | none => rw [lend_out q]; exact h2
  · cases q : L.lookup b with
    | some o' => exact absurd hb (hc.frm b o' q)
    | none => rw [lend_out q]; exact e0.frf b hb
theorem env0_unlend {P : Program} {w : World} {K : PySem.W.Frag} {mg : Str → Option Value} {base : Heap} {A : Around} {outer : List Env} {L : Cells} (e0 : Env0 P w K mg base A outer s H) (k : Kept H L) : Env0 P w K mg base A outer s (unlend H L) ∧ ∀ c o, L.lookup c = some o → c ∉ frs outer := by
  refine ⟨⟨e0.frames, e0.mod, fun b o e => ?_, e0.bsz, e0.funs, fun b hb => ?_, hok_unlend e0.hok k, e0.bare⟩, fun c o e hm => ?_⟩
  · obtain ⟨h1, h2⟩ := e0.bs b o e
    exact ⟨h1, by rw [unlend_out (k.outN h2)]; exact h2⟩
  · have h2 := e0.frf b hb
    rw [unlend_out (k.outN h2)]; exact h2
  · have h2 := e0.frf c hm
    have := k c o e
    rw [h2] at this
    cases this
/-- a call with the cells lent -/
theorem run_fnL {k : Nat} {f : Addr} {fd : FuncData} {ps : List Str} {sp : Sp} {E : XK} {L : Cells} {Q : VK} {us : List Value} {vs : List V} (F : FnOk X.prog X.w X.K X.mg X.base (L2.CX X.prog X.w) k f fd ps sp) (hr : Room k X.A) (hb : L2.Binds X.K fd ps []) (hx : PassesAt (L2.CX X.prog X.w) X σ E)
    (I : Inv X pins σ H s) (r : Vals vs us) (hc : HasCells X σ H s L) (h : sp vs (lend H L) (fun v H' => Kept H' L ∧ Q v (unlend H' L)) (fun cls dd H' => Kept H' L ∧ E cls dd (unlend H' L))) :
    wpAny (model X.prog X.w) X.A (call (.ref f) us) (EP X pins σ Q) X.xe s := by
  have hl : us.length = ps.length := by rw [← r.length]; exact F.len _ _ _ _ h
  have b := hb s us I.kIn (by simpa using hl)
  rw [List.append_nil] at b
  refine wpAny_call (codeAny_mono (F.run X.A X.stack s (lend H L) ⟨us, []⟩ us vs _ _ hr (env0_lend I hc) b r h) fun r s' hq => ?_)
  have hq := cr_back (E := E) hc.free hc.at_ hq
  cases r with
  | error e => exact hx pins H s e s' I hq
  | ok fl =>
    cases fl <;> first
      | exact I.after hq
      | exact False.elim hq
end
/-! ### a lambda made -/
section
variable {X : Cx} {pins : List (Addr × Obj)} {σ : L2.St} {H : Hp} {s : Shared}
/-- the lambda's object at f, its code -/
def LamAt (X : Cx) (t : LamT) (f : Addr) (H : Hp) : Prop := ∃ c, H f = some (LamO f (X.env.qual ++ "<lambda>") t (cloFrom X.env.cells t.scope.names []) c) ∧ H c = some (CodeO c (X.env.qual ++ "<lambda>"))
theorem lamO_ok {P : Program} {w : World} {f c : Addr} {qual : Str} {t : LamT} {cl : List (Str × Addr)} {h : Heap} {H : Hp} {pm ctv : Value} (e : h.get? f = some (PySem.W.kla_obj "<lambda>" qual t.params t.body t.scope cl pm c ctv)) : ObjOk P w H h f (LamO f qual t cl c) :=
  ⟨⟨pm, ctv, e⟩, ⟨_, e⟩, fun h1 h2 p st => by
    obtain ⟨pm', ctv', q⟩ := p
    exact ⟨pm', ctv', st _ q⟩⟩
theorem made {P' c : Addr} {fr : List Str} {params : Arguments} {body : Expr} {scope : Scope} {pos : Pos} {E Q : Value → Shared → Prop} (I : Inv X pins σ H s) (TB : TabB X.base X.mg c P') (hcode : X.env.code = .ref c) (hT : TabS H P' (X.env.qual ++ "<lambda>"))
    (hdef : defaultsOf params X.env = ([], [])) (hfree : ∀ y ∈ scope.names, y.2 = .free → ∃ c, X.env.cells.lookup y.1 = some c)
    (h : ∀ (f : Addr) (H1 : Hp) (s' : Shared), Inv X pins σ H1 s' → (∀ b o, b ≠ P' → H b = some o → H1 b = some o) → H f = none → TabS H1 P' (X.env.qual ++ "<lambda>") → LamAt X ⟨params, body, scope, fr⟩ f H1 → Q (.ref f) s') :
    wpAny (model X.prog X.w) X.A (eval (.Lambda params body scope pos) X.env) Q E s := by
  have hT0 := hT
  obtain ⟨ps, tabAt, triples, found⟩ := hT
  have tabObj := I.hok P' _ tabAt
  have builtinsAt := TB.bm.keeps I.bk
  have clos := closure_ok hfree
  have globs := I.mod.glob.keeps I.bk
  have codeHd := TB.code.keeps I.bk
  refine PySem.W.kla_eval hdef ?_
  cases look : codeAmong pos ps.toList with
  | some cv =>
    obtain ⟨c', rfl, hco⟩ := found pos cv look
    refine PySem.W.kla_makeFunctionHit (mg := X.mg) (c := c) (P := P') (ps := ps) clos I.ok.glob globs hcode codeHd tabObj triples look builtinsAt ?_
    intro ctv h' tk keeps grows
    have nF : H h'.objs.size = none := I.hok.fresh grows
    refine h h'.objs.size _ _ (I.laid (o := LamO h'.objs.size (X.env.qual ++ "<lambda>") ⟨params, body, scope, fr⟩ (cloFrom X.env.cells scope.names []) c') (fun b u e => Heap.get?_push_of_some _ (keeps b u e)) grows (lamO_ok (Heap.get?_push_size _ rfl))) ?_ nF ?_ ?_
    · exact fun b o _ e => by rw [upd_ne (ne_of_none e nF)]; exact e
    · exact hT0.ext fun b o e => by rw [upd_ne (ne_of_none e nF)]; exact e
    · exact ⟨c', upd_same, by rw [upd_ne (ne_of_none hco nF)]; exact hco⟩
  | none =>
    refine PySem.W.kla_makeFunction (mg := X.mg) (c := c) (P := P') (ps := ps) clos I.ok.glob globs hcode codeHd tabObj triples look TB.gP builtinsAt ?_
    intro c' ctv h' tk keeps hge hlt hrec htb
    obtain ⟨c2, oc, vs, t, e2, hoc, hd, hv⟩ := hrec
    cases e2
    have nC : H c' = none := I.hok.fresh hge
    have nPc : P' ≠ c' := ne_of_none tabAt nC
    have I1 := inv_table (t' := tk) I tabAt keeps htb hge ⟨oc, vs, t, hoc, hd, hv⟩
    have nF := I1.hok.fresh (Nat.le_refl _)
    have up : ∀ b o, b ≠ P' → H b = some o → upd (upd H P' (.tbl (ps ++ #[rawInt pos.line, rawInt pos.col, .ref c']))) c' (CodeO c' (X.env.qual ++ "<lambda>")) b = some o := fun b o n e => by
      rw [upd_ne (ne_of_none e nC), upd_ne n]
      exact e
    have hsz : s.heap.objs.size ≤ h'.objs.size := Nat.le_trans hge (Nat.le_of_lt hlt)
    have T1 : TabS (upd (upd H P' (.tbl (ps ++ #[rawInt pos.line, rawInt pos.col, .ref c']))) c' (CodeO c' (X.env.qual ++ "<lambda>"))) P' (X.env.qual ++ "<lambda>") := by
      have eL : (ps ++ #[rawInt pos.line, rawInt pos.col, .ref c']).toList = ps.toList ++ [rawInt pos.line, rawInt pos.col, .ref c'] := by simp
      refine ⟨_, by rw [upd_ne nPc, upd_same], ?_, fun p' cv hcv => ?_⟩
      · rw [eL]
        exact PySem.TriplesOk_snoc _ _ _ _ triples
      · rw [eL] at hcv
        rcases among_app _ triples hcv with z | z
        · obtain ⟨c0, e1, e2⟩ := found p' cv z
          refine ⟨c0, e1, up _ _ (fun z => ?_) e2⟩
          rw [z, tabAt] at e2
          exact codeO_ne ps (Option.some.inj e2).symm
        · exact ⟨c', z, upd_same⟩
    refine h h'.objs.size _ _ (I1.laid (o := LamO h'.objs.size (X.env.qual ++ "<lambda>") ⟨params, body, scope, fr⟩ (cloFrom X.env.cells scope.names []) c') (fun b u e => Heap.get?_push_of_some _ e) (Nat.le_refl _) (lamO_ok (Heap.get?_push_size _ rfl))) ?_ (I.hok.fresh hsz) ?_ ?_
    · exact fun b o n e => by
        have e1 := up b o n e
        exact (upd_ne (ne_of_none e1 nF)).trans e1
    · exact T1.ext fun b o e => (upd_ne (ne_of_none e nF)).trans e
    · exact ⟨c', upd_same, (upd_ne (Nat.ne_of_lt hlt)).trans upd_same⟩
end
end Dl
namespace Dl
open PySem PySem.Spec PyProof.Rows L2 LamX NdefX
theorem noParams_of {a : Arguments} (h : noParams a = true) : a = ⟨[], [], none, [], [], none, []⟩ := by
  obtain ⟨p1, p2, p3, p4, p5, p6, p7⟩ := a
  unfold noParams at h
  simp only [Bool.and_eq_true, List.isEmpty_iff, Option.isNone_iff_eq_none] at h
  obtain ⟨⟨⟨⟨⟨⟨rfl, rfl⟩, rfl⟩, rfl⟩, rfl⟩, rfl⟩, rfl⟩ := h
  rfl
theorem bind_none {p : Arguments} (h : noParams p = true) {q : Str} {body : Expr} {scope : Scope} {cl : List (Str × Addr)} {pm cv ctv : Value} : bindArgs (PySem.W.kla_fn "<lambda>" q p body scope cl pm cv ctv) ⟨[], []⟩ = pure [] := by
  rw [noParams_of h]
  rfl
theorem defaults_none {p : Arguments} (h : noParams p = true) {env : Env} : defaultsOf p env = ([], []) := by
  rw [noParams_of h]
  rfl
section
variable {P : Program} {w : World} {K : PySem.W.Frag} {mg : Str → Option Value} {base : Heap} {A : Around} {outer : List Env} {s : Shared} {H : Hp} {Q : VK} {E : XK}
/-- the context of a lambda's body -/
def lx (P : Program) (w : World) (K : PySem.W.Frag) (mg : Str → Option Value) (base : Heap) (t : LamT) (qual : Str) (cl : List (Str × Addr)) (c a : Addr) (A : Around) (outer : List Env) (s : Shared) (H : Hp) (E : XK) : Cx :=
  ncx (L2.CX P w) P w K mg base t.fr ⟨"<lambda>", qual, t.params, [], t.scope, cl, c⟩ a A outer s H E
theorem startF_lam {N : List Str} {vs : List V} (h : vs.length = N.length) : startF N [] (vs.map some) = vs.map some := by
  unfold startF
  rw [List.map_nil, List.nil_append, List.length_map, h]
  simp
/-- a lambda called, its cells lent -/
theorem lam_call {n : Nat} {t : LamT} {qual : Str} {cl : List (Str × Addr)} {c a : Addr} {L : Cells} {vs : List V} (hr : Room (n + 1) A) (e0 : Env0 P w K mg base A outer s H) (ha : H a = some (LamO a qual t cl c)) (hc : H c = some (CodeO c qual)) (k : Kept H L)
    (hcl : ∀ y b, cl.lookup y = some b → ∃ o v, L.lookup b = some o ∧ o.data = .cell v) (hinj : ∀ x y b, cl.lookup x = some b → cl.lookup y = some b → x = y)
    (hval : ∀ (i : Nat) (y : Str) (v : V), t.fr[i]? = some y → vs[i]? = some v → ∃ b o u, cl.lookup y = some b ∧ L.lookup b = some o ∧ o.data = .cell (some u) ∧ RelV v u)
    (hlen : vs.length = t.fr.length) (S : NScope t.fr [] t.fr t.scope) (hp : noParams t.params = true)
    (hbody : Room n (A.deeper (envF ⟨"<lambda>", qual, t.params, [], t.scope, cl, c⟩ a s.heap.objs.size)) → ∃ tb, PE (lx P w K mg base t qual cl c a A outer s (unlend H L) (fun cls dd H' => Free H' L → E cls dd (lend H' L))) t.body tb ∧ tb (vs.map some) (unlend H L) (fun v H' => Free H' L → Q v (lend H' L))) :
    codeAny (model P w) A (.call (.ref a) ⟨[], []⟩) (CR (L2.CX P w) outer P w H s Q E) s := by
  obtain ⟨e0', hfr⟩ := env0_unlend e0 k
  refine codeAny_mono ?_ fun r s' hq => cr_forth k e0.hok hfr hq
  obtain ⟨pm, ctv, ho⟩ := (e0.hok a _ ha).1
  have lim : s.heap.NoLimit := e0.mod.nolimit.keeps fun b o e => (e0.bs b o e).1
  refine PySem.W.kla_callFunE hr.depth ho rfl S.co S.gen rfl (codeO_at e0.hok hc) ?_
  rw [bind_none hp]
  refine wpAny_pure (wpAny_newFunctionEnv S.nocell (fun y hy => absurd hy (by simp)) (fun h₁ hns hsb => ⟨lim.fresh _ hsb, ?_⟩) S.kind)
  show codeAny _ _ (.expr t.body (envF ⟨"<lambda>", qual, t.params, [], t.scope, cl, c⟩ a s.heap.objs.size)) _ _
  have kp : ∀ b o, s.heap.get? b = some o → h₁.get? b = some o := fun b o e => hsb.extBut b o (Nat.ne_of_lt (Heap.lt_size e)) (Heap.get?_push_of_some _ e)
  obtain ⟨tb, ht, hq⟩ := hbody (hr.deeper _)
  have C : CellsAt cl t.fr (vs.map some) s.heap (unlend H L) :=
    { len := by rw [List.length_map]; exact hlen
      all := fun y b e => by
        obtain ⟨o, v, h1, h2⟩ := hcl y b e
        exact ⟨unlend_in h1, v, o, k.at_ e0.hok h1, h2⟩
      inj := hinj
      has := fun i y hy => by
        have hi : i < vs.length := by rw [hlen]; exact (List.getElem?_eq_some_iff.mp hy).1
        obtain ⟨b, o, u, h1, h2, h3, h4⟩ := hval i y _ hy (List.getElem?_eq_getElem hi)
        refine ⟨b, h1, fun v hv => ⟨u, ?_, o, k.at_ e0.hok h2, h3⟩⟩
        rw [List.getElem?_map, List.getElem?_eq_getElem hi] at hv
        cases hv
        exact h4 }
  have I := inv_startN (CX := L2.CX P w) (E := fun cls dd H' => Free H' L → E cls dd (lend H' L)) (f := a) (F := ⟨"<lambda>", qual, t.params, [], t.scope, cl, c⟩) (N := t.fr) (ps := []) (fr := t.fr) (us := []) (vs := []) (tk := s.toks + 0) S hr.hd e0' rfl .nil C hns kp
  rw [startF_lam hlen] at I
  refine PySem.W.kla_codeExpr (wpAny_mono (ht.run [] _ _ _ _ I hq) (fun v s' hq => ?_) fun e s' hq => hq)
  obtain ⟨u, H', J, rv, q⟩ := hq
  exact ⟨u, H', J.os, J.bare, J.base, J.hok, rv, q⟩
end
end Dl
namespace Dl
open PySem PySem.Spec PyProof.Rows L2

/-! ### calls -/
section
variable {X : Cx} {CX : CXT} {k : Nat} {f : Addr} {fd : FuncData} {ps ks : List Str} {sp : Sp} {E : L2.St → XK} {x : Str} {p pos : Pos} {kws : List Keyword} {tk : TA}
theorem pe_callS0 (F : FnOk X.prog X.w X.K X.mg X.base CX k f fd ps sp) (hr : Room k X.A) (hg : Gl X x) (hm : X.mg x = some (.ref f)) (hk : PySem.W.keepIn X.K (.ref f) = true) (hb : L2.Binds X.K fd ps []) (hx : ∀ σ, PassesAt CX X σ (E σ))
    (hdb : (x == ("__debug__" : Str)) = false) : PE X (.Call (.Name x p) [] [] pos) (tCallS sp E tNil) := by
  refine ⟨fun pins s σ H Q I h => ?_⟩
  refine wpAny_Call_Name_kw (ld_glob I hg hm ?_ hdb)
  exact PySem.W.callWith_K0 I.kIn hk (run_fnS (us := []) F hr hb (hx σ) I .nil h)
/-- how keywords bind -/
def KBindsP (K : PySem.W.Frag) (fd : FuncData) (ps ks : List Str) (perm : List Nat) : Prop :=
  ∀ (s : Shared) (ws : List Value), K.In s.heap → ws.length = ks.length → BindsTo s fd ⟨[], ks.zip ws⟩ (ps.zip (permA Value.none perm ws))
def tCallKS (sp : Sp) (perm : List Nat) (E : L2.St → XK) (tk : TA) : TE := fun σ H Q => tk σ H fun zs H2 => zs.length = ks.length ∧ sp (permA .non perm zs) H2 Q (E σ)
theorem vals_perm {vs : List V} {us : List Value} (r : Vals vs us) (perm : List Nat) : Vals (permA .non perm vs) (permA Value.none perm us) := by
  unfold permA
  refine vals_of_at (by simp) fun j v u a b => ?_
  rw [List.getElem?_map] at a b
  cases e : perm[j]? with
  | none => rw [e] at a; simp at a
  | some i =>
    rw [e] at a b
    simp only [Option.map_some, Option.some.injEq] at a b
    subst a b
    rw [List.getD_eq_getElem?_getD, List.getD_eq_getElem?_getD]
    cases q : vs[i]? with
    | none =>
      rw [r.none_of q]
      exact rfl
    | some v =>
      obtain ⟨u, hu, ru⟩ := r.get q
      rw [hu]
      exact ru
theorem pe_callKS (F : FnOk X.prog X.w X.K X.mg X.base CX k f fd ps sp) (hr : Room k X.A) (hg : Gl X x) (hm : X.mg x = some (.ref f)) (hk : PySem.W.keepIn X.K (.ref f) = true) {perm : List Nat} (hb : KBindsP X.K fd ps ks perm) (hx : ∀ σ, PassesAt CX X σ (E σ))
    (hkw : PK X kws tk) (hall : (backToKw pos (keywordEach kws X.env)).all (·.1.isSome) = true) (hks : (backToKw pos (keywordEach kws X.env)).filterMap (·.1) = ks)
    (hdb : (x == ("__debug__" : Str)) = false) (hpl : ((backTo pos (starEach [] X.env)).any (·.1) || (backToKw pos (keywordEach kws X.env)).any (·.1.isNone)) = false) :
    PE X (.Call (.Name x p) [] kws pos) (tCallKS (ks := ks) sp perm E tk) := by
  refine ⟨fun pins s σ H Q I h => ?_⟩
  refine wpAny_Call_Name_kw (ld_glob I hg hm ?_ hdb)
  refine PySem.W.callWith_KW0 (h₀ := X.base) I.ok.mod.kin hk hall (thn (hkw.run pos pins s σ H _ I h) fun ws s2 ⟨zs, H2, I2, rz, hl, q2⟩ => ⟨I2.kIn, ?_⟩) hpl
  rw [hks]
  have r2 := vals_perm rz perm
  have hlw : ws.length = ks.length := by rw [← rz.length]; exact hl
  refine wpAny_call (codeAny_mono (F.run X.A X.stack s2 H2 ⟨[], ks.zip ws⟩ (permA Value.none perm ws) (permA .non perm zs) Q (E σ) hr I2.env0 (hb s2 ws I2.kIn hlw) r2 q2) fun r s' hq => ?_)
  cases r with
  | error e => exact hx σ pins H2 s2 e s' I2 hq
  | ok fl =>
    cases fl with
    | ret u => exact I2.after hq
    | next => exact False.elim hq
    | brk => exact False.elim hq
    | cont => exact False.elim hq
end

/-! ### what a def's body may use -/
/-- a def's promise, by data -/
def spD (P : Par) (co : Co) (m : List D → DK → EK → Prop) : Sp := fun vs H Q E => ∃ W ds k, RepL P W H ds vs ∧ (∀ a, W a → NE H a) ∧ (∀ a, P.T a → W a) ∧ P.sok (co.f k) H ∧
  m ds (fun d => ∀ v H', Ext P k H H' → Rep P W H' d v → Q v H') (fun x => ∀ cls dd H', Ext P k H H' → XRep P W H' x cls dd → E cls dd H')
structure FnUse (P : Par) (X : Cx) (co : Co) (m : List D → DK → EK → Prop) (n : Nat) (g : Str) (kw : List (List Str × List Nat)) : Prop where
  ex : ∃ f fd ps, X.mg g = some (.ref f) ∧ PySem.W.keepIn X.K (.ref f) = true ∧ FnOk X.prog X.w X.K X.mg X.base (L2.CX X.prog X.w) n f fd ps (spD P co m) ∧ L2.Binds X.K fd ps [] ∧ ∀ e ∈ kw, KBindsP X.K fd ps e.1 e.2
/-- where a lambda's cost stands -/
def lamK : Nat := 1000000
/-- lambdas keep their promise -/
structure CloOk (P : Par) (pr : Program) (w : World) (K : PySem.W.Frag) (mg : Str → Option Value) (base : Heap) (co : Co) (pc : PC) (n : Nat) : Prop where
  run : ∀ {A : Around} {outer : List Env} {s : Shared} {H : Hp} {Q : VK} {E : XK} {k : Nat} {cs : List D} {a : Addr} {vs : List V} {W : Addr → Prop} {kk : Nat}, Room n A → Env0 pr w K mg base A outer s H → CloP P.lok k a vs W H → RepL P W H cs vs → noCloL cs = true →
    (∀ a, W a → NE H a) → (∀ a, P.T a → W a) → P.sok (co.f kk) H → pc.run k cs (fun d => ∀ v H', Ext P kk H H' → Rep P W H' d v → Q v H') (fun x => ∀ cls dd H', Ext P kk H H' → XRep P W H' x cls dd → E cls dd H') →
    codeAny (model pr w) A (.call (.ref a) ⟨[], []⟩) (CR (L2.CX pr w) outer pr w H s Q E) s
/-- the lambda's words and its inner form -/
def LamC (G : GC) (t : LamT) (b : IE) : Prop := ∃ fuel, noParams t.params = true ∧ NdefX.nscB t.fr [] t.fr t.scope = true ∧ cE G ⟨t.fr, t.scope, fun _ => false, false⟩ fuel t.body = some b
/-- lambdas may be made here -/
structure LamHere (G : GC) (P : Par) (X : Cx) (pc : PC) : Prop where
  ex : ∃ cc P', LamX.TabB X.base X.mg cc P' ∧ X.env.code = .ref cc ∧ P.T P' ∧ (∀ k H, P.sok k H → LamX.TabS H P' (X.env.qual ++ "<lambda>")) ∧
    ∀ k H H1, P.sok k H → (∀ b o, b ≠ P' → H b = some o → H1 b = some o) → LamX.TabS H1 P' (X.env.qual ++ "<lambda>") → P.sok k H1
  fn : ∀ y, X.fn y = true
  lok : ∀ k t b, pc.lam k t.fr.length b → LamC G t b → P.lok k t
def bltNames : List Str := (["isinstance", "range", "enumerate", "zip"] : List Str) ++ builtins.map (·.1) ++ types.map (·.1)
structure XOk (G : GC) (c : CC) (F : Fx) (pf : PF) (pc : PC) (n : Nat) (X : Cx) : Prop where
  N : X.N = c.N
  nd : X.N.Nodup
  sc : X.env.scope = c.sc
  fn : X.fn = c.fn
  K : X.K = F.P.K
  calm : X.calm = true
  room : Room n X.A
  tk : Takes X F.Wx
  fns : ∀ g k, G.fns.lookup g = some k → FnUse F.P X (F.cf k) (pf k) n g ((G.kws.filter fun e => decide (e.1 = g)).map (·.2))
  cns : ∀ x d, G.cns.lookup x = some d → isCont d = false ∧ ∃ v u, X.mg x = some u ∧ RelV v u ∧ ∀ W H, Rep F.P W H d v
  blt : ∀ x ∈ bltNames, G.fns.lookup x = none → X.mg x = none
  mf : PFM pf pf
  mc : PCM pc pc
  clo : CloOk F.P X.prog X.w X.K X.mg X.base (F.cf lamK) pc n
  lam : c.lm = true → LamHere G F.P X pc
section
variable {G : GC} {c : CC} {F : Fx} {pf : PF} {pc : PC} {n : Nat} {X : Cx}
theorem XOk.units (o : XOk G c F pf pc n X) : X.A.units + 65 < cLine := by
  have := o.room.un
  omega
theorem slotFrom_get {x : Str} : ∀ {l : List Str} {n i : Nat}, slotFrom x l n = some i → n ≤ i ∧ l[i - n]? = some x
  | [], n, i, h => by cases h
  | y :: r, n, i, h => by
    unfold slotFrom at h
    by_cases e : y = x
    · rw [if_pos e] at h
      cases h
      exact ⟨Nat.le_refl _, by rw [Nat.sub_self, ← e]; rfl⟩
    · rw [if_neg e] at h
      obtain ⟨h1, h2⟩ := slotFrom_get h
      refine ⟨by omega, ?_⟩
      rw [show i - n = (i - (n + 1)) + 1 by omega]
      exact h2
theorem okName_iff {x : Str} (h : okName x = true) : (x == ("__debug__" : Str)) = false ∧ (x == ("__classdict__" : Str)) = false ∧ x ≠ "__name__" := by
  unfold okName at h
  simp only [Bool.and_eq_true, Bool.not_eq_true', decide_eq_false_iff_not] at h
  exact ⟨h.1.1, h.1.2, h.2⟩
theorem cName_ok (o : XOk G c F pf pc n X) {x : Str} {i : Nat} (h : cName c x = some i) : X.N[i]? = some x ∧ Vis X.env.scope x ∧ (x == ("__debug__" : Str)) = false ∧ (x == ("__classdict__" : Str)) = false := by
  unfold cName at h
  rw [o.N]
  unfold Vis
  rw [o.sc]
  split at h
  · rename_i e
    by_cases q : okName x = true
    · rw [if_pos q] at h
      obtain ⟨h1, h2⟩ := slotFrom_get h
      exact ⟨h2, .inl e, (okName_iff q).1, (okName_iff q).2.1⟩
    · rw [if_neg q] at h; cases h
  · rename_i e
    by_cases q : okName x = true
    · rw [if_pos q] at h
      obtain ⟨h1, h2⟩ := slotFrom_get h
      exact ⟨h2, .inr (.inl e), (okName_iff q).1, (okName_iff q).2.1⟩
    · rw [if_neg q] at h; cases h
  · rename_i e
    by_cases q : okName x = true
    · rw [if_pos q] at h
      obtain ⟨h1, h2⟩ := slotFrom_get h
      exact ⟨h2, .inr (.inr e), (okName_iff q).1, (okName_iff q).2.1⟩
    · rw [if_neg q] at h; cases h
  · cases h
theorem isGl_ok (o : XOk G c F pf pc n X) {x : Str} (h : isGl c x = true) : Gl X x ∧ (x == ("__debug__" : Str)) = false ∧ x ≠ "__name__" := by
  unfold isGl at h
  rw [Bool.and_eq_true] at h
  obtain ⟨h1, h2⟩ := h
  refine ⟨?_, (okName_iff h2).1, (okName_iff h2).2.2⟩
  show X.env.scope.names.lookup x = _
  rw [o.sc]
  split at h1
  · assumption
  · cases h1
/-- a name's value -/
theorem snd_slot (o : XOk G c F pf pc n X) {x : Str} {i : Nat} {p : Pos} (h : cName c x = some i) : PE X (.Name x p) (tD F false Co.one (wE pf pc (.slot i))) := by
  obtain ⟨h1, h2, h3, h4⟩ := cName_ok o h
  refine PE.imp (pe_var h1 h2 h3 h4) fun σ H Q ⟨W, env, k, rel, hw⟩ => ?_
  unfold wE at hw
  split at hw
  · rename_i d e
    obtain ⟨v, hv, r⟩ := rel.val i d e
    exact ⟨v, hv, hw v H (Ext.refl rel.strm) r fun z => nomatch z⟩
  · exact hw.elim
theorem snd_slotB (o : XOk G c F pf pc n X) {x : Str} {i : Nat} {p : Pos} (h : cName c x = some i) : PE X (.Name x p) (tDB F Co.one (bor (.slot i) (wE pf pc (.slot i)))) := by
  obtain ⟨h1, h2, h3, h4⟩ := cName_ok o h
  refine PE.imp (pe_var h1 h2 h3 h4) fun σ H Q ⟨W, env, k, rel, hw⟩ => ?_
  unfold bor at hw
  simp only at hw
  split at hw
  · rename_i d e
    obtain ⟨v, hv, r⟩ := rel.val i d e
    exact ⟨v, hv, hw v H (Ext.refl rel.strm) (.inl r)⟩
  · rename_i d e
    obtain ⟨a, hv, wa, hn, r⟩ := rel.own i d e
    exact ⟨.ref a, hv, hw (.ref a) H (Ext.refl rel.strm) (.inr ⟨a, rfl, hn.1, r⟩)⟩
  · exact hw.elim
def notSlot : IE → Bool
  | .slot _ => false
  | _ => true
theorem bor_not {ie : IE} (h : notSlot ie = true) (w : WT) : bor ie w = w := by
  cases ie <;> first
    | rfl
    | cases h
theorem toB {c1 : Co} (o : XOk G c F pf pc n X) {e : Expr} {ie : IE} {fr : Bool} (hn : notSlot ie = true) (h : PE X e (tD F fr c1 (wE pf pc ie))) : PE X e (tDB F c1 (bor ie (wE pf pc ie))) := by
  rw [bor_not hn]
  refine PE.imp h fun σ H Q ⟨W, env, k, rel, hw⟩ => ⟨W, env, k, rel, ?_⟩
  exact wE_mono o.mf o.mc ie env _ _ _ _ (fun d hd v H' e r _ => hd v H' e (.inl r)) (fun _ h => h) hw
/-- a test -/
def plainT : IE → Bool
  | .and _ _ => false
  | .or _ _ => false
  | .not _ => false
  | .ite _ _ _ => false
  | _ => true
theorem wT_plain {ie : IE} (h : plainT ie = true) (env : DEnv) (Q : Bool → Prop) (E : EK) : wT pf pc ie env Q E = bor ie (wE pf pc ie) env (fun x => onTru x Q) E := by
  cases ie <;> first
    | (unfold wT; rfl)
    | exact absurd h (by simp [plainT])
theorem toT {c1 : Co} (o : XOk G c F pf pc n X) {e : Expr} {ie : IE} (hp : plainT ie = true) (h : PE X e (tDB F c1 (bor ie (wE pf pc ie)))) (he : ∀ whole, isTrue e X.env whole = (do let v ← whole; standAt e.pos; holding [v] (truthy v))) : PT X e (tDT F c1 (wT pf pc ie)) := by
  refine PT.imp (pt_truth h he) fun σ H Q ⟨W, env, k, rel, hw⟩ => ⟨W, env, k, rel, ?_⟩
  rw [wT_plain hp] at hw
  refine wb_mono hw (fun k => wE_mono o.mf o.mc ie env _ _ _ _ k fun _ h => h) fun d hd v H' e r => ?_
  unfold onTru at hd
  split at hd
  · rename_i b eb
    exact ⟨b, by rw [o.K]; exact snd_tru r eb, hd H' e⟩
  · exact hd.elim
end
end Dl
namespace Dl
open PySem PySem.Spec PyProof.Rows L2

/-! ### what is walked over: a list, a tuple, a text -/
inductive Kd where
  | l (a : Addr)
  | t (a : Addr)
  | s (x : Str)
def Kd.v : Kd → V
  | .l a => .ref a
  | .t a => .ref a
  | .s x => .str x
def Kd.at_ : Kd → Nat → Hp → V → Prop
  | .l a, i, H, x => ∃ xs, Rd H a (.lst xs) ∧ xs[i]? = some x
  | .t a, i, H, x => ∃ xs, Rd H a (.tup xs) ∧ xs[i]? = some x
  | .s z, i, H, x => ∃ c, z.cps[i]? = some c ∧ x = .str ⟨#[c]⟩
def Kd.ln : Kd → Hp → Nat → Prop
  | .l a, H, n => ∃ xs, Rd H a (.lst xs) ∧ xs.length = n
  | .t a, H, n => ∃ xs, Rd H a (.tup xs) ∧ xs.length = n
  | .s z, H, n => z.cps.size = n
def Kd.tn (k : Kd) (it : Addr) (i : Nat) (h : Heap) : Prop := match k with
  | .l a => h.IsListIter it a i
  | .t a => h.IsTupleIter it a i
  | .s z => ∃ t, h.IsStrIter it (strIterType z) z t i
theorem Kd.tn_obj {k : Kd} {it : Addr} {i : Nat} {h : Heap} (st : k.tn it i h) : ∃ o, h.get? it = some o ∧ ∀ v, o.data ≠ .cell v := by
  cases k with
  | l a => obtain ⟨o, e, c, d⟩ := st; exact ⟨o, e, fun v z => by rw [d] at z; cases z⟩
  | t a => obtain ⟨o, e, c, d⟩ := st; exact ⟨o, e, fun v z => by rw [d] at z; cases z⟩
  | s x => obtain ⟨t, o, e, c, d⟩ := st; exact ⟨o, e, fun v z => by rw [d] at z; cases z⟩
theorem Kd.tn_keep {k : Kd} {it : Addr} {i : Nat} {h h' : Heap} (st : k.tn it i h) (hk : ∀ o, h.get? it = some o → h'.get? it = some o) : k.tn it i h' := by
  cases k with
  | l a => obtain ⟨o, e, r⟩ := st; exact ⟨o, hk o e, r⟩
  | t a => obtain ⟨o, e, r⟩ := st; exact ⟨o, hk o e, r⟩
  | s x => obtain ⟨t, o, e, r⟩ := st; exact ⟨t, o, hk o e, r⟩
theorem Rd.some' {H : Hp} {a : Addr} {u : HO} (h : Rd H a u) : H a ≠ none := by
  rcases h with h | ⟨o, h⟩
  · rw [h]; exact fun z => nomatch z
  · rw [h]; exact fun z => nomatch z
section
variable {X : Cx} {pins : List (Addr × Obj)} {s : Shared} {σ : L2.St} {H : Hp}
theorem vals_get_rev : ∀ {xs : List V} {us : List Value} {i : Nat} {u : Value}, Vals xs us → us[i]? = some u → ∃ x, xs[i]? = some x ∧ RelV x u
  | _, _, i, u, .nil, e => by simp at e
  | _, _, 0, u, .cons r _, e => by
    simp at e
    subst e
    exact ⟨_, rfl, r⟩
  | _, _, i + 1, u, .cons r t, e => by
    obtain ⟨x, hx, q⟩ := vals_get_rev (i := i) t (by simpa using e)
    exact ⟨x, by simpa using hx, q⟩
theorem Kd.feed (k : Kd) (hc : X.calm = true) {i n : Nat} {it : Addr} (I : Inv X pins σ H s) (hn : H it = none) (st : k.tn it i s.heap) (l : k.ln H n) :
    ∃ fp R St, Draws X.prog X.w X.A.in1 it fp n R St ∧ St i s.heap ∧ it ∈ fp ∧ (∀ b ∈ fp, b = it ∨ H b ≠ none) ∧ (i < n → ∀ v, R i v → ∃ x, k.at_ i H x ∧ RelV x v) ∧ ∀ j h, St j h → k.tn it j h := by
  have hh : X.A.in1.handled = none := I.ok.hd hc
  cases k with
  | l a =>
    obtain ⟨xs, hq, rfl⟩ := l
    obtain ⟨its, rv, p, hz⟩ := I.list (X := X) (.inl hq)
    have ne : a ≠ it := fun z => Rd.some' hq (z ▸ hn)
    have hl : its.toArray.size = xs.length := by rw [List.size_toArray]; exact rv.length.symm
    refine ⟨[it, a], _, _, hl ▸ Draws.list hh it a ne its.toArray, ⟨st, p.isList⟩, by simp, fun b hb => ?_, fun hi v hv => ?_, fun j h q => q.1⟩
    · rcases List.mem_cons.mp hb with e | hb
      · exact .inl e
      · rw [List.mem_singleton.mp hb]
        exact .inr (Rd.some' hq)
    · have hv' : its[i]? = some v := by simpa using hv
      obtain ⟨x, hx, r⟩ := vals_get_rev rv hv'
      exact ⟨x, ⟨xs, hq, hx⟩, r⟩
  | t a =>
    obtain ⟨xs, hq, rfl⟩ := l
    obtain ⟨its, rv, p, hz⟩ := I.tuple (X := X) (.inl hq)
    have ne : a ≠ it := fun z => Rd.some' hq (z ▸ hn)
    have hl : its.toArray.size = xs.length := by rw [List.size_toArray]; exact rv.length.symm
    refine ⟨[it, a], _, _, hl ▸ Draws.tuple hh it a ne its.toArray, ⟨st, show s.heap.IsTuple a its.toArray from p⟩, by simp, fun b hb => ?_, fun hi v hv => ?_, fun j h q => q.1⟩
    · rcases List.mem_cons.mp hb with e | hb
      · exact .inl e
      · rw [List.mem_singleton.mp hb]
        exact .inr (Rd.some' hq)
    · have hv' : its[i]? = some v := by simpa using hv
      obtain ⟨x, hx, r⟩ := vals_get_rev rv hv'
      exact ⟨x, ⟨xs, hq, hx⟩, r⟩
  | s x =>
    obtain ⟨t, st⟩ := st
    have hl : x.cps.size = n := l
    subst hl
    refine ⟨[it], _, _, Draws.text hh it x t, st, by simp, fun b hb => .inl (List.mem_singleton.mp hb), fun hi v hv => ?_, fun j h q => ⟨t, q⟩⟩
    obtain ⟨c, u, hcx, rfl⟩ := hv
    exact ⟨.str ⟨#[c]⟩, ⟨c, hcx, rfl⟩, ⟨u, rfl⟩⟩
/-- it begins -/
theorem Kd.begin (k : Kd) {n : Nat} {u : Value} (I : Inv X pins σ H s) (l : k.ln H n) (r : RelV k.v u) : ∃ o Hq, Begins u o Hq ∧ Hq s.heap ∧ ∀ it h, h.get? it = some o → k.tn it 0 h := by
  cases k with
  | l a =>
    obtain ⟨xs, hq, rfl⟩ := l
    obtain ⟨its, rv, p, hz⟩ := I.list (X := X) (.inl hq)
    obtain rfl : u = Value.ref a := r
    exact ⟨_, _, begins_list a its.toArray, p.isList, fun it h e => ⟨_, e, rfl, rfl⟩⟩
  | t a =>
    obtain ⟨xs, hq, rfl⟩ := l
    obtain ⟨its, rv, p, hz⟩ := I.tuple (X := X) (.inl hq)
    obtain rfl : u = Value.ref a := r
    exact ⟨_, _, begins_tuple a its.toArray, show s.heap.IsTuple a its.toArray from p, fun it h e => ⟨_, e, rfl, rfl⟩⟩
  | s x =>
    obtain ⟨t, rfl⟩ := r
    exact ⟨_, _, begins_text x t, trivial, fun it h e => ⟨t, _, e, rfl, rfl⟩⟩
end

/-! ### enumerate(v, k) -/
def Jen (k : Kd) (c : Int) : It :=
  ⟨fun i H => ∃ n, k.ln H n ∧ i < n, fun i H v H' => ∃ T x, v = .ref T ∧ H T = none ∧ H' = upd H T (.tup [.int (c + (i : Nat)), x]) ∧ k.at_ i H x, fun i H => k.ln H i⟩
theorem turn_en {P : Program} {w : World} {K : PySem.W.Frag} {elts : List Expr} {kk : Nat} {tpos : Pos} (k : Kd) (c : Int) (e it : Addr) :
    Turn P w K (.Tuple elts kk tpos) (Jen k c) [e, it] e (fun i h => (∃ old, IsEnum h e it (c + (i : Nat)) old) ∧ k.tn it i h ∧ e ≠ it) where
  mem := by simp
  obj := fun i h st b hb => by
    obtain ⟨⟨old, he⟩, hi, _⟩ := st
    have e' : b = e ∨ b = it := by simpa using hb
    rcases e' with z | z
    · rw [z]; exact ⟨_, he, fun v q => nomatch q⟩
    · rw [z]; exact Kd.tn_obj (k := k) hi
  keep := fun i h h' st hk => let ⟨⟨old, he⟩, hi, hne⟩ := st; ⟨⟨old, hk e (by simp) _ he⟩, Kd.tn_keep (k := k) hi fun o q => hk it (by simp) o q, hne⟩
  item := by
    intro X hP hw hK hc i pins s σ H E I hf st hg
    subst hP hw hK
    obtain ⟨⟨old, he⟩, hit, hne⟩ := st
    obtain ⟨n, l, hlt⟩ := hg
    obtain ⟨fp, R, St, D, hst, hmem, hfp, hat, htn⟩ := k.feed hc I (hf it (by simp)).1 hit l
    have hel : e < s.heap.objs.size := Heap.lt_size he
    have hil : it < s.heap.objs.size := by obtain ⟨o, q, _⟩ := Kd.tn_obj (k := k) hit; exact Heap.lt_size q
    have hef : e ∉ fp := fun z => by
      rcases hfp e z with q | q
      · exact hne q
      · exact q (hf e (by simp)).1
    refine wpAny_pyNext_enum_itemC D he hst hlt hne hef fun u h' tk hR ho hst' hT hsz hk => ?_
    obtain ⟨x, hx, ru⟩ := hat hlt u hR
    refine ⟨_, rfl, wpAny_letOwnedTupleGo_enum (s := { s with heap := h', toks := tk + 1 }) ho fun h'' he' sb => ?_⟩
    have hT2 : h''.get? s.heap.objs.size = some { cls := .type "tuple", data := .seq #[.int (c + (i : Nat)) tk, u] } := (sb.2 _ (Nat.ne_of_gt hel)).trans hT
    have new : ObjOk X.prog X.w (upd H s.heap.objs.size (.tup [.int (c + (i : Nat)), x])) h'' s.heap.objs.size (.tup [.int (c + (i : Nat)), x]) :=
      ⟨by show 2 ≤ sizeLine; decide, [.int (c + (i : Nat)) tk, u], .cons ⟨_, rfl⟩ (.cons ru .nil), ⟨_, hT2, rfl, _, rfl⟩⟩
    have I1 : Inv X pins σ (upd H s.heap.objs.size (.tup [.int (c + (i : Nat)), x])) { s with heap := h'', toks := tk + 1 } :=
      I.turnedNew (ch := [e, it]) (fun b ob hb q => (sb.2 b (fun z => hb (by simp [z]))).trans (hk b ob (fun z => hb (by simp [z])) (fun z => hb (by simp [z])) q)) hf (Nat.le_refl _) new
    refine ⟨.ref s.heap.objs.size, _, I1, rfl, ⟨_, x, rfl, I.hok.fresh (Nat.le_refl _), rfl, hx⟩, ⟨⟨u, ?_⟩, Kd.tn_keep (k := k) (htn _ _ hst') fun o q => (sb.2 it (Ne.symm hne)).trans q, hne⟩, fun b hb => ?_⟩
    · have e1 : c + ((i + 1 : Nat) : Int) = c + (i : Int) + 1 := by omega
      rw [e1]; exact he'
    · have hb' : b < s.heap.objs.size := by
        have e' : b = e ∨ b = it := by simpa using hb
        rcases e' with z | z
        · rw [z]; exact hel
        · rw [z]; exact hil
      rw [upd_ne (Nat.ne_of_lt hb')]
      exact (hf b hb).1
  done := by
    intro X hP hw hK hc i pins s σ H E I hf st hg
    subst hP hw hK
    obtain ⟨⟨old, he⟩, hit, hne⟩ := st
    obtain ⟨fp, R, St, D, hst, hmem, hfp, hat, htn⟩ := k.feed hc I (hf it (by simp)).1 hit hg
    obtain ⟨f0, f1, f2, f3, f4, f5⟩ := hf it (by simp)
    exact wpAny_pyNext_enum_endD D he hst fun h' eb => ⟨rfl, I.turned (t' := s.toks) (fun b o hb q => eb b o hb q) f0 f1 f3 f4 f5⟩
  self := fun A i s Q E st h => let ⟨⟨_, he⟩, _⟩ := st; wpAny_pyIter_enum he h
def iEn (c : Int) (ta : TA) : TI := fun σ H R => ta σ H fun vs H1 => ∃ (k : Kd) (n : Nat), vs = [k.v, .int c] ∧ k.ln H1 n ∧ R (Jen k c) H1
def iEn0 (ta : TA) : TI := fun σ H R => ta σ H fun vs H1 => ∃ (k : Kd) (n : Nat), vs = [k.v] ∧ k.ln H1 n ∧ R (Jen k 0) H1
theorem meets_enum0 {v : Value} {o : Obj} {H : Heap → Prop} (B : Begins v o H) :
    Meets (Builtin.«enumerate.__new__» ⟨[.type "enumerate", v], []⟩) (fun _ R s => H s.heap ∧
      R (.ok (.ret (.ref (s.heap.push o).objs.size))) { s with heap := (s.heap.push o).push { cls := .type "enumerate", data := .fields #[.none, .bool false, .ref s.heap.objs.size, rawInt 0, .none, .none] } }) :=
  .of_wp fun prog w A R s h => by
    obtain ⟨hp, g, d, tk, os⟩ := s; obtain ⟨h1, h⟩ := h
    have hsub := sub_enumerate
    have q1 : ∀ {A' : Around} {E : Value → Shared → Prop} {Q : Value → Shared → Prop}, Q (.ref hp.objs.size) ⟨hp.push o, g, d, tk, os⟩ → wpAny (model prog w) A' (pyIter v) Q E ⟨hp, g, d, tk, os⟩ :=
      fun q => B.iter prog w _ _ ⟨hp, g, d, tk, os⟩ _ h1 q
    wp_walk using q1
    refine wpAny_stack_any fun st => wpAny_pure ?_
    split
    · rename_i c _ _ _ _ _
      cases (c == Value.type "enumerate")
      · wp_walk using q1
        exact ⟨_, rfl, h⟩
      · wp_walk using q1
        exact ⟨_, rfl, h⟩
    · wp_walk using q1
      exact ⟨_, rfl, h⟩
section
variable {prog : Program} {w : World} {A : Around} {E : Value → Shared → Prop} {s : Shared}
theorem enum_begins0 {v : Value} {o : Obj} {H : Heap → Prop} {Q : Value → Shared → Prop} (B : Begins v o H) (h1 : H s.heap)
    (h : ∀ h', IsEnum h' (s.heap.objs.size + 1) s.heap.objs.size 0 .none → h'.get? s.heap.objs.size = some o → h'.objs.size = s.heap.objs.size + 2 →
      (∀ b o, s.heap.get? b = some o → h'.get? b = some o) → Q (.ref (s.heap.objs.size + 1)) { s with heap := h' }) :
    wpAny (model prog w) A (call (.type "enumerate") [v]) Q E s := by
  refine callType_new F.called_enumerate (by decide) (F.typeCall_enumerate_1 _) (F.newCall_enumerate_1 _) (fun obj => F.args_object_init_2 obj _) F.entry_enumerate_new
    (meets_enum0 B) ⟨h1, ?_⟩
  have hz : (s.heap.push o).objs.size = s.heap.objs.size + 1 := Heap.size_push ..
  show _ ∧ _
  rw [hz]
  have he : IsEnum ((s.heap.push o).push { cls := .type "enumerate", data := .fields #[.none, .bool false, .ref s.heap.objs.size, rawInt 0, .none, .none] }) (s.heap.objs.size + 1) s.heap.objs.size 0 .none := by
    have := Heap.get?_push_size (s.heap.push o) (o := { cls := .type "enumerate", data := .fields #[.none, .bool false, .ref s.heap.objs.size, rawInt 0, .none, .none] }) rfl
    rw [hz] at this; exact this
  refine ⟨⟨_, he, rfl⟩, h _ he (Heap.get?_push_of_some _ (Heap.get?_push_size _ B.free)) (by rw [Heap.size_push, hz]) fun b o x => Heap.get?_push_of_some _ (Heap.get?_push_of_some _ x)⟩
end
section
variable {X : Cx} {ta : TA} {p pos tpos : Pos} {elts : List Expr} {kk : Nat}
theorem pie_en {pins : List (Addr × Obj)} {σ : L2.St} {s1 : Shared} {h' : Heap} {H1 : Hp} {R : It → Hp → Prop} {k : Kd} {c : Int} (I1 : Inv X pins σ H1 s1) (he : IsEnum h' (s1.heap.objs.size + 1) s1.heap.objs.size c .none) (hit : k.tn s1.heap.objs.size 0 h')
    (hk : ∀ b o, s1.heap.get? b = some o → h'.get? b = some o) (q : R (Jen k c) H1) : wpAny (model X.prog X.w) X.A (pyIter (.ref (s1.heap.objs.size + 1))) (PIE X pins σ (.Tuple elts kk tpos) R) X.xe { s1 with heap := h' } := by
  refine wpAny_pyIter_enum he ?_
  have I2 : Inv X pins σ H1 { s1 with heap := h' } := I1.kept (t' := s1.toks) hk
  refine ⟨s1.heap.objs.size + 1, [s1.heap.objs.size + 1, s1.heap.objs.size], _, _, H1, rfl, I2, turn_en k c (s1.heap.objs.size + 1) s1.heap.objs.size, ⟨⟨.none, ?_⟩, hit, Nat.succ_ne_self _⟩, fun b hb => ?_, q⟩
  · rw [show c + ((0 : Nat) : Int) = c by omega]; exact he
  · have e' : b = s1.heap.objs.size + 1 ∨ b = s1.heap.objs.size := by simpa using hb
    have hle : s1.heap.objs.size ≤ b := by
      rcases e' with z | z
      · rw [z]; exact Nat.le_add_right _ _
      · rw [z]; exact Nat.le_refl _
    exact I1.fpOk hle (I1.hok.fresh hle)
theorem pi_en0 {e : Expr} (hg : Gl X "enumerate") (hm : X.mg "enumerate" = none) (ha : PA X [e] ta) (hs : starEach [e] X.env = [(false, eval e X.env)]) :
    PI X (.Tuple elts kk tpos) (.Call (.Name "enumerate" p) [e] [] pos) (iEn0 ta) := by
  refine ⟨fun pins s σ H R I h => ?_⟩
  refine Call_ (ld_blt I hg hm boot_enumerate (PyProof.Rows.callWith_type1 (thn (ha.run pos pins s σ H _ I h) fun us s1 ⟨vs, H1, I1, r1, q1⟩ => ?_) hs rfl))
  obtain ⟨k, n, rfl, l, q⟩ := q1
  obtain ⟨u, rfl, r⟩ := vals1 r1
  obtain ⟨o, Hq, B, hq, ht⟩ := k.begin I1 l r
  exact enum_begins0 B hq fun h' he hit hsz hk => pie_en I1 he (ht _ _ hit) hk q
theorem pi_en {e : Expr} {c : Int} {j : Nat} {cp : Pos} (hc0 : -(2 ^ 63) ≤ c) (hc1 : c < 2 ^ 63) (hg : Gl X "enumerate") (hm : X.mg "enumerate" = none) (ha : PA X [e, .Constant (.int c) j cp] ta) (hs : starEach [e, .Constant (.int c) j cp] X.env = (false, eval e X.env) :: starEach [.Constant (.int c) j cp] X.env) :
    PI X (.Tuple elts kk tpos) (.Call (.Name "enumerate" p) [e, .Constant (.int c) j cp] [] pos) (iEn c ta) := by
  refine ⟨fun pins s σ H R I h => ?_⟩
  refine Call_ (ld_blt I hg hm boot_enumerate (PyProof.Rows.callWith_type1 (thn (ha.run pos pins s σ H _ I h) fun us s1 ⟨vs, H1, I1, r1, q1⟩ => ?_) hs rfl))
  obtain ⟨k, n, rfl, l, q⟩ := q1
  cases r1 with
  | cons r rr =>
    obtain ⟨u2, e2, t, e3⟩ := vals1 rr
    subst e2
    subst e3
    obtain ⟨o, Hq, B, hq, ht⟩ := k.begin I1 l r
    exact enum_begins B hq hc0 hc1 fun h' he hit hsz hk => pie_en I1 he (ht _ _ hit) hk q
end

/-! ### zip(v, v2) -/
def Jzi (k k2 : Kd) : It :=
  ⟨fun i H => ∃ n m, k.ln H n ∧ k2.ln H m ∧ i < n ∧ i < m, fun i H v H' => ∃ T x y, v = .ref T ∧ H T = none ∧ H' = upd H T (.tup [x, y]) ∧ k.at_ i H x ∧ k2.at_ i H y, fun i H => ∃ n m, k.ln H n ∧ k2.ln H m ∧ i ≤ n ∧ i ≤ m ∧ (i = n ∨ i = m)⟩
theorem turn_zi {P : Program} {w : World} {K : PySem.W.Frag} {elts : List Expr} {kk : Nat} {tpos : Pos} {z TI TO i1 i2 : Addr} (k k2 : Kd) (nd : [z, TI, TO, i1, i2].Nodup) :
    Turn P w K (.Tuple elts kk tpos) (Jzi k k2) [z, TI, TO, i1, i2] z (fun i h => IsZip h z TI TO .none ∧ IsTupOf2 h TI (.ref i1) (.ref i2) ∧ (∃ x y, IsTupOf2 h TO x y) ∧ k.tn i1 i h ∧ k2.tn i2 i h) where
  mem := by simp
  obj := fun i h st c hc => by
    obtain ⟨hz, hTI, ⟨x, y, hTO⟩, h1, h2⟩ := st
    have e' : c = z ∨ c = TI ∨ c = TO ∨ c = i1 ∨ c = i2 := by simpa using hc
    rcases e' with q | q | q | q | q
    · rw [q]; exact ⟨_, hz, fun v q => nomatch q⟩
    · rw [q]; exact ⟨_, hTI, fun v q => nomatch q⟩
    · rw [q]; exact ⟨_, hTO, fun v q => nomatch q⟩
    · rw [q]; exact Kd.tn_obj (k := k) h1
    · rw [q]; exact Kd.tn_obj (k := k2) h2
  keep := fun i h h' st hk => by
    obtain ⟨hz, hTI, ⟨x, y, hTO⟩, h1, h2⟩ := st
    exact ⟨hk z (by simp) _ hz, hk TI (by simp) _ hTI, ⟨x, y, hk TO (by simp) _ hTO⟩, Kd.tn_keep (k := k) h1 fun o q => hk i1 (by simp) o q, Kd.tn_keep (k := k2) h2 fun o q => hk i2 (by simp) o q⟩
  item := by
    intro X hP hw hK hc i pins s σ H E I hf st hg
    subst hP hw hK
    obtain ⟨hz, hTI, ⟨x0, y0, hTO⟩, h1, h2⟩ := st
    obtain ⟨n, m, l1, l2, lt1, lt2⟩ := hg
    obtain ⟨fp1, R1, St1, D1, st1, m1, f1, at1, tn1⟩ := k.feed hc I (hf i1 (by simp)).1 h1 l1
    obtain ⟨fp2, R2, St2, D2, st2, m2, f2, at2, tn2⟩ := k2.feed hc I (hf i2 (by simp)).1 h2 l2
    simp only [List.nodup_cons, List.mem_cons, List.not_mem_nil, or_false, not_or] at nd
    obtain ⟨⟨zTI, zTO, zi1, zi2⟩, ⟨TITO, TIi1, TIi2⟩, ⟨TOi1, TOi2⟩, i12, _⟩ := nd
    have out : ∀ {fp : List Addr} {it b : Addr}, (∀ b ∈ fp, b = it ∨ H b ≠ none) → b ∈ [z, TI, TO, i1, i2] → b ≠ it → b ∉ fp := fun {fp it b} hfp hb hne hm => by
      rcases hfp b hm with q | q
      · exact hne q
      · exact q (hf b hb).1
    have S : ZipSep2 z TI TO i1 i2 fp1 fp2 :=
      { TIz := Ne.symm zTI, TOz := Ne.symm zTO, TITO := TITO, TIi1 := TIi1, mem1 := m1, zf1 := out f1 (by simp) zi1, Tf1 := out f1 (by simp) TOi1, TIi2 := TIi2, mem2 := m2, zf2 := out f2 (by simp) zi2, Tf2 := out f2 (by simp) TOi2,
        sep1_2 := out f2 (by simp) i12, sep2_1 := out f1 (by simp) (Ne.symm i12) }
    have hzl : z < s.heap.objs.size := Heap.lt_size hz
    refine wpAny_pyNext_zipD2_item S D1 D2 hz hTI hTO st1 st2 lt1 lt2 fun u u2 h' tk r1 r2 z' TO' st1' st2' hT hsz hk => ?_
    obtain ⟨x, hx, ru⟩ := at1 lt1 u r1
    obtain ⟨y, hy, ru2⟩ := at2 lt2 u2 r2
    refine ⟨_, rfl, wpAny_letOwnedTupleGo_zip (s := { s with heap := h', toks := tk }) z' fun h'' z'' sb => ?_⟩
    have hT2 : h''.get? s.heap.objs.size = some { cls := .type "tuple", data := .seq #[u, u2] } := (sb.2 _ (Nat.ne_of_gt hzl)).trans hT
    have new : ObjOk X.prog X.w (upd H s.heap.objs.size (.tup [x, y])) h'' s.heap.objs.size (.tup [x, y]) :=
      ⟨by show 2 ≤ sizeLine; decide, [u, u2], .cons ru (.cons ru2 .nil), ⟨_, hT2, rfl, _, rfl⟩⟩
    have I1 : Inv X pins σ (upd H s.heap.objs.size (.tup [x, y])) { s with heap := h'', toks := tk } :=
      I.turnedNew (ch := [z, TI, TO, i1, i2]) (fun c o hb q => (sb.2 c (fun q' => hb (by simp [q']))).trans (hk c o (fun q' => hb (by simp [q'])) (fun q' => hb (by simp [q'])) (fun q' => hb (by simp [q'])) (fun q' => hb (by simp [q'])) q)) hf (Nat.le_refl _) new
    refine ⟨.ref s.heap.objs.size, _, I1, rfl, ⟨_, x, y, rfl, I.hok.fresh (Nat.le_refl _), rfl, hx, hy⟩, ⟨z'', ?_, ⟨u, u2, ?_⟩, ?_, ?_⟩, fun c hcm => ?_⟩
    · exact (sb.2 _ (Ne.symm zTI)).trans (hk _ _ (Ne.symm zTI) TITO TIi1 TIi2 hTI)
    · exact (sb.2 _ (Ne.symm zTO)).trans TO'
    · exact Kd.tn_keep (k := k) (tn1 _ _ st1') fun o q => (sb.2 _ (Ne.symm zi1)).trans q
    · exact Kd.tn_keep (k := k2) (tn2 _ _ st2') fun o q => (sb.2 _ (Ne.symm zi2)).trans q
    · have hlt : c < s.heap.objs.size := by
        have e' : c = z ∨ c = TI ∨ c = TO ∨ c = i1 ∨ c = i2 := by simpa using hcm
        rcases e' with q | q | q | q | q
        · rw [q]; exact hzl
        · rw [q]; exact Heap.lt_size hTI
        · rw [q]; exact Heap.lt_size hTO
        · rw [q]; obtain ⟨_, e1, _⟩ := Kd.tn_obj (k := k) h1; exact Heap.lt_size e1
        · rw [q]; obtain ⟨_, e2, _⟩ := Kd.tn_obj (k := k2) h2; exact Heap.lt_size e2
      rw [upd_ne (Nat.ne_of_lt hlt)]
      exact (hf c hcm).1
  done := by
    intro X hP hw hK hc i pins s σ H E I hf st hg
    subst hP hw hK
    obtain ⟨hz, hTI, ⟨x0, y0, hTO⟩, h1, h2⟩ := st
    obtain ⟨n, m, l1, l2, le1, le2, hend⟩ := hg
    obtain ⟨fp1, R1, St1, D1, st1, m1, f1, at1, tn1⟩ := k.feed hc I (hf i1 (by simp)).1 h1 l1
    obtain ⟨fp2, R2, St2, D2, st2, m2, f2, at2, tn2⟩ := k2.feed hc I (hf i2 (by simp)).1 h2 l2
    simp only [List.nodup_cons, List.mem_cons, List.not_mem_nil, or_false, not_or] at nd
    obtain ⟨⟨zTI, zTO, zi1, zi2⟩, ⟨TITO, TIi1, TIi2⟩, ⟨TOi1, TOi2⟩, i12, _⟩ := nd
    have out : ∀ {fp : List Addr} {it b : Addr}, (∀ b ∈ fp, b = it ∨ H b ≠ none) → b ∈ [z, TI, TO, i1, i2] → b ≠ it → b ∉ fp := fun {fp it b} hfp hb hne hm => by
      rcases hfp b hm with q | q
      · exact hne q
      · exact q (hf b hb).1
    have S : ZipSep2 z TI TO i1 i2 fp1 fp2 :=
      { TIz := Ne.symm zTI, TOz := Ne.symm zTO, TITO := TITO, TIi1 := TIi1, mem1 := m1, zf1 := out f1 (by simp) zi1, Tf1 := out f1 (by simp) TOi1, TIi2 := TIi2, mem2 := m2, zf2 := out f2 (by simp) zi2, Tf2 := out f2 (by simp) TOi2,
        sep1_2 := out f2 (by simp) i12, sep2_1 := out f1 (by simp) (Ne.symm i12) }
    exact wpAny_pyNext_zipD2_end S D1 D2 hz hTI hTO st1 st2 le1 le2 hend fun h' tk hk => ⟨rfl, I.turnedL (t' := tk) (ch := [z, TI, TO, i1, i2]) (fun c o hb q =>
      hk c o (fun q' => hb (by simp [q'])) (fun q' => hb (by simp [q'])) (fun q' => hb (by simp [q'])) (fun q' => hb (by simp [q'])) q) hf⟩
  self := fun A i s Q E st h => wpAny_pyIter_zip st.1 h
def iZi (ta : TA) : TI := fun σ H R => ta σ H fun vs H1 => ∃ (k k2 : Kd) (n m : Nat), vs = [k.v, k2.v] ∧ k.ln H1 n ∧ k2.ln H1 m ∧ R (Jzi k k2) H1
theorem nodup5 (n : Nat) : [n + 4, n + 2, n + 3, n, n + 1].Nodup := by
  simp only [List.nodup_cons, List.mem_cons, List.not_mem_nil, or_false, not_or]
  refine ⟨⟨?_, ?_, ?_, ?_⟩, ⟨?_, ?_, ?_⟩, ⟨?_, ?_⟩, ?_, fun z => z, List.nodup_nil⟩ <;> omega
theorem pi_zi {X : Cx} {e e2 : Expr} {ta : TA} {p pos tpos : Pos} {elts : List Expr} {kk : Nat} (hg : Gl X "zip") (hm : X.mg "zip" = none) (ha : PA X [e, e2] ta)
    (hs : starEach [e, e2] X.env = (false, eval e X.env) :: starEach [e2] X.env) (hpl : (backTo pos (starEach [e2] X.env)).any (·.1) = false) :
    PI X (.Tuple elts kk tpos) (.Call (.Name "zip" p) [e, e2] [] pos) (iZi ta) := by
  refine ⟨fun pins s σ H R I h => ?_⟩
  refine Call_ (ld_blt I hg hm PyProof.Rows.boot_zip (PyProof.Rows.callWith_type1 (thn (ha.run pos pins s σ H _ I h) fun us s1 ⟨vs, H1, I1, r1, q1⟩ => ?_) hs hpl))
  obtain ⟨k, k2, n, m, rfl, l1, l2, q⟩ := q1
  cases r1 with
  | cons r rr =>
    obtain ⟨u2, e2', r2⟩ := vals1 rr
    subst e2'
    obtain ⟨o1, Hq1, B1, hq1, ht1⟩ := k.begin I1 l1 r
    obtain ⟨o2, Hq2, B2, hq2, ht2⟩ := k2.begin I1 l2 r2
    refine zip_begins2 B1 B2 hq1 hq2 fun h' hz hTI hTO g1 g2 hsz hk => wpAny_pyIter_zip hz ?_
    have I2 : Inv X pins σ H1 { s1 with heap := h' } := I1.kept (t' := s1.toks) hk
    refine ⟨s1.heap.objs.size + 4, [s1.heap.objs.size + 4, s1.heap.objs.size + 2, s1.heap.objs.size + 3, s1.heap.objs.size, s1.heap.objs.size + 1], _, _, H1, rfl, I2, turn_zi k k2 (nodup5 s1.heap.objs.size), ⟨hz, hTI, ⟨_, _, hTO⟩, ht1 _ _ g1, ht2 _ _ g2⟩, fun c hcm => ?_, q⟩
    have e' : c = s1.heap.objs.size + 4 ∨ c = s1.heap.objs.size + 2 ∨ c = s1.heap.objs.size + 3 ∨ c = s1.heap.objs.size ∨ c = s1.heap.objs.size + 1 := by simpa using hcm
    have hle : s1.heap.objs.size ≤ c := by
      rcases e' with z | z | z | z | z
      · rw [z]; exact Nat.le_add_right _ _
      · rw [z]; exact Nat.le_add_right _ _
      · rw [z]; exact Nat.le_add_right _ _
      · rw [z]; exact Nat.le_refl _
      · rw [z]; exact Nat.le_add_right _ _
    exact I1.fpOk hle (I1.hok.fresh hle)

/-! ### the thing itself -/
def Jva : Kd → PySem.W.Frag → It
  | .l a, K => Itl K a
  | .t a, K => Itt K a
  | .s x, _ => Its x
def iVa (K : PySem.W.Frag) (te : TE) : TI := fun σ H R => te σ H fun v H1 => ∃ (k : Kd) (n : Nat), v = k.v ∧ k.ln H1 n ∧ R (Jva k K) H1
theorem pi_va {X : Cx} {tg e : Expr} {te : TE} (he : PE X e te) : PI X tg e (iVa X.K te) := by
  refine ⟨fun pins s σ H R I h => ?_⟩
  refine thn (he.run pins s σ H _ I h) fun v s1 ⟨y, H1, I1, r1, k, n, ex, l, q⟩ => ?_
  subst ex
  cases k with
  | l a =>
    obtain ⟨xs, hq, rfl⟩ := l
    obtain rfl : v = Value.ref a := r1
    obtain ⟨its, rv, p, hz⟩ := I1.list (X := X) (.inl hq)
    exact wpAny_pyIter_list p.isList (pi_one (tk := s1.toks) I1 _ (turn_list a _) ⟨_, Heap.get?_push_size _ rfl, rfl, rfl⟩ q)
  | t a =>
    obtain ⟨xs, hq, rfl⟩ := l
    obtain rfl : v = Value.ref a := r1
    obtain ⟨its, rv, p, hz⟩ := I1.tuple (X := X) (.inl hq)
    exact wpAny_pyIter_tuple (show s1.heap.IsTuple a its.toArray from p) (pi_one (tk := s1.toks) I1 _ (turn_tuple a _) ⟨_, Heap.get?_push_size _ rfl, rfl, rfl⟩ q)
  | s x =>
    obtain ⟨t, rfl⟩ := r1
    cases ha : x.cps.all (· < 128)
    · exact wpAny_pyIter_wide ha (pi_one (tk := s1.toks) I1 _ (turn_str _ x t "str_iterator" (.inr rfl)) ⟨_, Heap.get?_push_size _ rfl, rfl, rfl⟩ q)
    · exact wpAny_pyIter_ascii ha (pi_one (tk := s1.toks) I1 _ (turn_str _ x t "str_ascii_iterator" (.inl rfl)) ⟨_, Heap.get?_push_size _ rfl, rfl, rfl⟩ q)
end Dl
namespace Dl
open PySem PySem.Spec PyProof.Rows L2

/-- what stands, but for M -/
def Keep (M : Addr → Prop) (H1 H : Hp) : Prop := ∀ a o, ¬ M a → H1 a = some o → H a = some o
theorem Keep.refl (M : Addr → Prop) (H : Hp) : Keep M H H := fun _ _ _ h => h
theorem Keep.rd {M : Addr → Prop} {H1 H : Hp} {a : Addr} {u : HO} (k : Keep M H1 H) (n : ¬ M a) (h : Rd H1 a u) : Rd H a u := by
  rcases h with h | ⟨o, h⟩
  · exact .inl (k a _ n h)
  · exact .inr ⟨o, k a _ n h⟩
structure Src (P : Par) (W M : Addr → Prop) (H1 : Hp) (J : It) (ds : List D) : Prop where
  len : ds.length ≤ sizeLine
  stop : ∀ H, Keep M H1 H → J.stop ds.length H
  turn : ∀ i d H, ds[i]? = some d → Keep M H1 H → J.go i H ∧ ∀ x H', J.yld i H x H' → (H' = H ∨ ∃ p o, H p = none ∧ H' = upd H p o) ∧
    ∀ W', Fr W H1 H → (∀ a, W' a → (W a ∨ H1 a = none) ∧ H a ≠ none) → Rep P W' H' d x
structure FS (P : Par) (W M : Addr → Prop) (H1 : Hp) (k : Kd) (ds : List D) : Prop where
  len : ds.length ≤ sizeLine
  ln : ∀ H, Keep M H1 H → k.ln H ds.length
  at_ : ∀ i d H x, ds[i]? = some d → Keep M H1 H → k.at_ i H x → ∀ W', Fr W H1 H → (∀ a, W' a → W a ∨ H1 a = none) → Rep P W' H d x
  ex : ∀ i d H, ds[i]? = some d → Keep M H1 H → ∃ x, k.at_ i H x
def RepM (P : Par) (W M : Addr → Prop) (H : Hp) (d : D) (v : V) : Prop := (Rep P W H d v ∧ ∀ a, M a → W a) ∨ ∃ a, v = .ref a ∧ ¬ M a ∧ OwnRep P W H d a
theorem RepM.of {P : Par} {W M : Addr → Prop} {H : Hp} {d : D} {v : V} (r : Rep P W H d v) (h : ∀ a, M a → W a) : RepM P W M H d v := .inl ⟨r, h⟩
theorem RepM.ofB {P : Par} {W : Addr → Prop} {H : Hp} {d : D} {v : V} (r : RepB P W H d v) (h1 : ∀ a, P.T a → W a) : RepM P W P.T H d v := by
  rcases r with r | ⟨a, e, n1, o⟩
  · exact .inl ⟨r, h1⟩
  · exact .inr ⟨a, e, n1, o⟩
theorem Rd.inj {H : Hp} {a : Addr} {xs ys : List V} (h : Rd H a (.lst xs)) (h' : Rd H a (.lst ys)) : xs = ys := by
  rcases h with h | ⟨o, h⟩ <;> rcases h' with h' | ⟨o', h'⟩ <;> rw [h] at h' <;> cases h' <;> rfl
theorem Rd.injT {H : Hp} {a : Addr} {xs ys : List V} (h : Rd H a (.tup xs)) (h' : Rd H a (.tup ys)) : xs = ys := by
  rcases h with h | ⟨o, h⟩ <;> rcases h' with h' | ⟨o', h'⟩ <;> rw [h] at h' <;> cases h' <;> rfl
section
variable {P : Par} {W M : Addr → Prop} {H1 : Hp} {d : D} {v : V} {ds : List D}
theorem fs_lst {a : Addr} {xs : List V} (n : ¬ M a) (ha : H1 a = some (.lst xs)) (hz : xs.length ≤ sizeLine) (r : RepL P W H1 ds xs) : FS P W M H1 (.l a) ds where
  len := by rw [r.len]; exact hz
  ln := fun H k => ⟨xs, .inl (k a _ n ha), r.len.symm⟩
  at_ := fun i d H x hd k ⟨ys, hy, hx⟩ W' f hw => by
    rw [← Rd.inj (.inl (k a _ n ha)) hy] at hx
    exact Rep.frame f hw _ _ (r.at hd hx)
  ex := fun i d H hd k => by
    obtain ⟨x, hx, _⟩ := r.get hd
    exact ⟨x, xs, .inl (k a _ n ha), hx⟩
theorem fs_tup {a : Addr} {xs : List V} (n : ¬ M a) (ha : H1 a = some (.tup xs)) (hz : xs.length ≤ sizeLine) (r : RepL P W H1 ds xs) : FS P W M H1 (.t a) ds where
  len := by rw [r.len]; exact hz
  ln := fun H k => ⟨xs, .inl (k a _ n ha), r.len.symm⟩
  at_ := fun i d H x hd k ⟨ys, hy, hx⟩ W' f hw => by
    rw [← Rd.injT (.inl (k a _ n ha)) hy] at hx
    exact Rep.frame f hw _ _ (r.at hd hx)
  ex := fun i d H hd k => by
    obtain ⟨x, hx, _⟩ := r.get hd
    exact ⟨x, xs, .inl (k a _ n ha), hx⟩
theorem signs_get {s : Str} {i : Nat} {d : D} (h : (signs s)[i]? = some d) : ∃ c, s.cps[i]? = some c ∧ d = .str ⟨#[c]⟩ := by
  unfold signs at h
  rw [List.getElem?_map] at h
  obtain ⟨c, hc, rfl⟩ := Option.map_eq_some_iff.mp h
  exact ⟨c, by rw [← Array.getElem?_toList]; exact hc, rfl⟩
theorem fs_str {s : Str} (h : SOk s) : FS P W M H1 (.s s) (signs s) where
  len := by
    unfold signs
    rw [List.length_map, Array.length_toList]
    exact h.1
  ln := fun H k => by
    show s.cps.size = _
    unfold signs
    rw [List.length_map, Array.length_toList]
  at_ := fun i d H x hd k ⟨c, hc, hx⟩ W' f hw => by
    obtain ⟨c', hc', rfl⟩ := signs_get hd
    rw [hc] at hc'
    cases hc'
    rw [hx]
    refine Rep.str.mpr ⟨rfl, h.one ?_⟩
    exact List.mem_of_getElem? (by rw [Array.getElem?_toList]; exact hc)
  ex := fun i d H hd k => by
    obtain ⟨c', hc', rfl⟩ := signs_get hd
    exact ⟨_, c', hc', rfl⟩
theorem fs_of (r : RepM P W M H1 d v) (e : itemsD d = some ds) : ∃ k : Kd, v = k.v ∧ FS P W M H1 k ds := by
  rcases r with ⟨r, hm⟩ | ⟨a, rfl, n, o⟩
  · cases d <;> simp only [itemsD, Option.some.injEq, reduceCtorEq] at e <;> subst e
    · obtain ⟨rfl, s1⟩ := Rep.str.mp r
      exact ⟨.s _, rfl, fs_str s1⟩
    · obtain ⟨a, xs, rfl, n, ha, hz, r⟩ := Rep.lst.mp r
      exact ⟨.l a, rfl, fs_lst (fun z => n (hm a z)) ha hz r⟩
    · obtain ⟨a, xs, rfl, n, ha, hz, r⟩ := Rep.tup.mp r
      exact ⟨.t a, rfl, fs_tup (fun z => n (hm a z)) ha hz r⟩
  · cases d <;> simp only [itemsD, Option.some.injEq, reduceCtorEq] at e <;> first
      | exact o.elim
      | skip
    subst e
    obtain ⟨xs, ha, hz, r⟩ := o
    exact ⟨.l a, rfl, fs_lst n ha hz r⟩
theorem Fr.new {H : Hp} {p : Addr} {o : HO} (hp : H p = none) : Fr W H (upd H p o) := fun a u _ ok h => by
  obtain ⟨o', e⟩ := h.some
  have ne : a ≠ p := fun z => by rw [z, hp] at e; cases e
  cases u <;> first
    | (show upd H p o a = _
       rw [upd_ne ne]; exact h)
    | (rcases h with h | ⟨o2, h⟩
       · exact .inl (by rw [upd_ne ne]; exact h)
       · exact .inr ⟨o2, by rw [upd_ne ne]; exact h⟩)
theorem src_va {k : Kd} {K : PySem.W.Frag} (f : FS P W M H1 k ds) : Src P W M H1 (Jva k K) ds where
  len := f.len
  stop := fun H kp => by
    have l := f.ln H kp
    cases k with
    | l a => obtain ⟨xs, h, e⟩ := l; exact ⟨xs, .inl h, Nat.le_of_eq e⟩
    | t a => obtain ⟨xs, h, e⟩ := l; exact ⟨xs, .inl h, Nat.le_of_eq e⟩
    | s x => exact Nat.le_of_eq l
  turn := fun i d H hd kp => by
    have l := f.ln H kp
    obtain ⟨x0, h0⟩ := f.ex i d H hd kp
    have go : ∀ x, k.at_ i H x → (H = H ∨ ∃ p o, H p = none ∧ H = upd H p o) ∧ ∀ W', Fr W H1 H → (∀ a, W' a → (W a ∨ H1 a = none) ∧ H a ≠ none) → Rep P W' H d x :=
      fun x hx => ⟨.inl rfl, fun W' fr hw => f.at_ i d H x hd kp hx W' fr fun a z => (hw a z).1⟩
    cases k with
    | l a =>
      obtain ⟨xs, h, hx⟩ := h0
      refine ⟨⟨xs, x0, .inl h, hx⟩, fun x H' ⟨e, q⟩ => ?_⟩
      rw [e]
      exact go x ⟨xs, h, q xs (.inl h)⟩
    | t a =>
      obtain ⟨xs, h, hx⟩ := h0
      refine ⟨⟨xs, x0, .inl h, hx⟩, fun x H' ⟨e, q⟩ => ?_⟩
      rw [e]
      exact go x ⟨xs, h, q xs (.inl h)⟩
    | s z =>
      obtain ⟨c, hc, hx⟩ := h0
      refine ⟨(Array.getElem?_eq_some_iff.mp hc).1, fun x H' ⟨e, c', hc', q⟩ => ?_⟩
      rw [e]
      exact go x ⟨c', hc', q⟩
theorem Rep.pair {W' : Addr → Prop} {H : Hp} {T : Addr} {a b : D} {x y : V} (hT : H T = none) (hw : ∀ a, W' a → H a ≠ none) (ra : Rep P W' H a x) (rb : Rep P W' H b y) : Rep P W' (upd H T (.tup [x, y])) (.tup [a, b]) (.ref T) := by
  refine Rep.tup.mpr ⟨T, _, rfl, fun z => hw T z hT, upd_same, by show 2 ≤ sizeLine; decide, ?_⟩
  exact RepL.mk (Rep.frame (Fr.new hT) (fun a h => .inl h) _ _ ra) (RepL.one (Rep.frame (Fr.new hT) (fun a h => .inl h) _ _ rb))
theorem zipIdx_get {ds : List D} {c : Int} {i : Nat} {d : D} (h : (ds.zipIdx.map fun p => D.tup [.int (c + (p.2 : Nat)), p.1])[i]? = some d) : ∃ e, ds[i]? = some e ∧ d = .tup [.int (c + (i : Nat)), e] := by
  rw [List.getElem?_map, List.getElem?_zipIdx] at h
  cases q : ds[i]? with
  | none => rw [q] at h; simp at h
  | some e =>
    rw [q] at h
    simp at h
    exact ⟨e, rfl, h.symm⟩
theorem src_en {k : Kd} {c : Int} (f : FS P W M H1 k ds) : Src P W M H1 (Jen k c) (ds.zipIdx.map fun p => .tup [.int (c + (p.2 : Nat)), p.1]) where
  len := by
    rw [List.length_map, List.length_zipIdx]
    exact f.len
  stop := fun H kp => by
    have l := f.ln H kp
    show k.ln H _
    rw [List.length_map, List.length_zipIdx]
    exact l
  turn := fun i d H hd kp => by
    obtain ⟨e, he, rfl⟩ := zipIdx_get hd
    have l := f.ln H kp
    refine ⟨⟨_, l, (List.getElem?_eq_some_iff.mp he).1⟩, fun v H' ⟨T, x, ev, hT, eH, hx⟩ => ⟨.inr ⟨T, _, hT, eH⟩, fun W' fr hw => ?_⟩⟩
    rw [ev, eH]
    exact Rep.pair hT (fun a z => (hw a z).2) (Rep.int.mpr rfl) (f.at_ i e H x he kp hx W' fr fun a z => (hw a z).1)
theorem zip_get {ds es : List D} {i : Nat} {d : D} (h : ((ds.zip es).map fun p => D.tup [p.1, p.2])[i]? = some d) : ∃ a b, ds[i]? = some a ∧ es[i]? = some b ∧ d = .tup [a, b] := by
  rw [List.getElem?_map] at h
  obtain ⟨p, hp, rfl⟩ := Option.map_eq_some_iff.mp h
  obtain ⟨h1, h2⟩ := List.getElem?_zip_eq_some.mp hp
  exact ⟨p.1, p.2, h1, h2, rfl⟩
theorem src_zi {k k2 : Kd} {es : List D} (f : FS P W M H1 k ds) (g : FS P W M H1 k2 es) : Src P W M H1 (Jzi k k2) ((ds.zip es).map fun p => .tup [p.1, p.2]) where
  len := by
    rw [List.length_map, List.length_zip]
    exact Nat.le_trans (Nat.min_le_left _ _) f.len
  stop := fun H kp => by
    refine ⟨_, _, f.ln H kp, g.ln H kp, ?_⟩
    rw [List.length_map, List.length_zip]
    omega
  turn := fun i d H hd kp => by
    obtain ⟨a, b, ha, hb, rfl⟩ := zip_get hd
    refine ⟨⟨_, _, f.ln H kp, g.ln H kp, (List.getElem?_eq_some_iff.mp ha).1, (List.getElem?_eq_some_iff.mp hb).1⟩, fun v H' ⟨T, x, y, ev, hT, eH, hx, hy⟩ => ⟨.inr ⟨T, _, hT, eH⟩, fun W' fr hw => ?_⟩⟩
    rw [ev, eH]
    exact Rep.pair hT (fun a z => (hw a z).2) (f.at_ i a H x ha kp hx W' fr fun a z => (hw a z).1) (g.at_ i b H y hb kp hy W' fr fun a z => (hw a z).1)
theorem range_get {a b c : Int} {i : Nat} {d : D} (h : (rangeD a b c)[i]? = some d) : i < (Builtin.Range.rangeSize a b c).toNat ∧ d = .int (a + (i : Nat) * c) := by
  unfold rangeD at h
  rw [List.getElem?_map] at h
  obtain ⟨j, hj, rfl⟩ := Option.map_eq_some_iff.mp h
  obtain ⟨h1, h2⟩ := List.getElem?_eq_some_iff.mp hj
  rw [List.length_range] at h1
  rw [List.getElem_range] at h2
  subst h2
  exact ⟨h1, rfl⟩
theorem src_rgC {a b c : Int} (hl : (rangeD a b c).length ≤ sizeLine) : Src P W M H1 (Itc a c (Builtin.Range.rangeSize a b c).toNat) (rangeD a b c) where
  len := hl
  stop := fun H kp => by
    show _ ≤ (rangeD a b c).length
    unfold rangeD
    rw [List.length_map, List.length_range]
    exact Nat.le_refl _
  turn := fun i d H hd kp => by
    obtain ⟨h1, rfl⟩ := range_get hd
    refine ⟨h1, fun v H' ⟨e, ev⟩ => ⟨.inl e, fun W' fr hw => ?_⟩⟩
    rw [ev]
    exact Rep.int.mpr rfl
theorem src_rg {a b : Int} (hl : (rangeD a b 1).length ≤ sizeLine) : Src P W M H1 (Itr a (Builtin.Range.rangeSize a b 1).toNat) (rangeD a b 1) where
  len := hl
  stop := fun H kp => by
    show _ ≤ (rangeD a b 1).length
    unfold rangeD
    rw [List.length_map, List.length_range]
    exact Nat.le_refl _
  turn := fun i d H hd kp => by
    obtain ⟨h1, rfl⟩ := range_get hd
    refine ⟨h1, fun v H' ⟨e, ev⟩ => ⟨.inl e, fun W' fr hw => ?_⟩⟩
    rw [ev, Int.mul_one]
    exact Rep.int.mpr rfl
end
end Dl
namespace Dl
open PySem PySem.Spec PyProof.Rows L2

section
variable {G : GC} {c : CC} {F : Fx} {pf : PF} {pc : PC} {n : Nat} {X : Cx} {a b d e : Expr} {pos : Pos} {x y z : IE}
theorem star_of {e : Expr} {es : List Expr} {env : Env} (h : notStar e = true) : starEach (e :: es) env = (false, eval e env) :: starEach es env := by
  cases e <;> first
    | rfl
    | cases h
def tDO (F : Fx) (co : Co) (w : DEnv → (Option Int → Prop) → EK → Prop) : TO := fun σ H Q => ∃ W env k, Rel F.P (co.f k) F.W0 W F.H0 H env σ ∧ w env (fun l => ∀ H', Ext F.P k H H' → Q l H') (xk F k W σ H)
theorem cmpD_bl {op : COp} {x y : D} {K K' : DK} (hK : ∀ b, K (.bl b) → K' (.bl b)) (h : cmpD op x y K) : cmpD op x y K' := by
  cases op
  · exact eqD_mono (K := fun b => K (.bl b)) (fun b => hK _) h
  · exact eqD_mono (K := fun b => K (.bl (!b))) (fun b => hK _) h
  · revert h
    cases x <;> cases y <;> first
      | exact id
      | exact hK _
  · revert h
    cases x <;> cases y <;> first
      | exact id
      | exact hK _
  · revert h
    cases x <;> cases y <;> first
      | exact id
      | exact hK _
  · revert h
    cases x <;> cases y <;> first
      | exact id
      | exact hK _
  · revert h
    cases y <;> first
      | exact id
      | exact hK _
      | (cases x <;> first
          | exact id
          | exact hK _)
  · revert h
    cases y <;> first
      | exact id
      | exact hK _
      | (cases x <;> first
          | exact id
          | exact hK _)
  · exact inD_mono (K := fun b => K (.bl b)) (fun b => hK _) h
  · exact inD_mono (K := fun b => K (.bl (!b))) (fun b => hK _) h
theorem RepB.keep {P : Par} {j k : Nat} {W0 W : Addr → Prop} {H0 : Sn} {H H' : Hp} {env : DEnv} {σ : L2.St} {d : D} {v : V} (rel : Rel P j W0 W H0 H env σ) (e : Ext P k H H') (r : RepB P W H d v) : RepB P W H' d v := by
  rcases r with r | ⟨a, ev, n, o⟩
  · exact .inl (Rep.frame (rel.fr e) (fun a h => .inl h) d v r)
  · exact .inr ⟨a, ev, n, o.frame (rel.fr e) (fun a h => .inl h) fun q => e.keep a q n⟩
theorem Rep.keep {P : Par} {j k : Nat} {W0 W : Addr → Prop} {H0 : Sn} {H H' : Hp} {env : DEnv} {σ : L2.St} {d : D} {v : V} (rel : Rel P j W0 W H0 H env σ) (e : Ext P k H H') (r : Rep P W H d v) : Rep P W H' d v :=
  Rep.frame (rel.fr e) (fun a h => .inl h) d v r
theorem RepL.keep {P : Par} {j k : Nat} {W0 W : Addr → Prop} {H0 : Sn} {H H' : Hp} {env : DEnv} {σ : L2.St} {d : List D} {v : List V} (rel : Rel P j W0 W H0 H env σ) (e : Ext P k H H') (r : RepL P W H d v) : RepL P W H' d v :=
  RepL.frame (rel.fr e) (fun a h => .inl h) d v r
/-! ### constants -/
theorem snd_cn {fr : Bool} {d : D} {v : V} (h : PE X e (tC v)) (hd : isCont d = false) (hr : ∀ W H, Rep F.P W H d v) : PE X e (tD F fr Co.one (wE pf pc (.cn d))) := by
  refine PE.imp h fun σ H Q ⟨W, env, k, rel, hw⟩ => ?_
  unfold wE at hw
  exact vk.val rel hw (hr W H) hd
/-! ### operations -/
theorem snd_Bin {c1 c2 : Co} (o : XOk G c F pf pc n X) {op : Operator} {p : BOp} (hp : cBop op = some p) (ha : PE X a (tDB F c1 (bor x (wE pf pc x)))) (hb : PE X b (tDB F c2 (bor y (wE pf pc y)))) : PE X (.BinOp a op b pos) (tD F true (c1.comp c2) (wE pf pc (.bin p x y))) := by
  refine PE.imp (pe_op (op_bin hp) ha hb) fun σ H Q ⟨W, env, k, rel, hw⟩ => ?_
  unfold wE at hw
  exact goB o.mf o.mc rel hw (fun _ h => h) fun d v H1 hd e1 rel1 r1 => goB o.mf o.mc rel1 hd (fun _ h => h.ext e1) fun d2 v2 H2 hd2 e2 rel2 r2 =>
    snd_bin rel2 (r1.keep rel1 e2) r2 (binD_mono (fun _ h => h.ext (e1.trans e2)) hd2)

theorem cmp_road {c1 c2 : Co} {k : Nat} (o : XOk G c F pf pc n X) {op : CmpOp} {fr : Bool} {σ : L2.St} {H : Hp} {Q : VK} {W : Addr → Prop} {env : DEnv} {K : DK} (rel : Rel F.P ((c1.comp c2).f k) F.W0 W F.H0 H env σ)
    (hw : wE pf pc (.cmp (cCop op) x y) env K (xk F k W σ H)) (hq : ∀ b H', Ext F.P k H H' → K (.bl b) → Q (.bl b) H') : tOp (rCmp F.P.K (cCop op)) (tDB F c1 (bor x (wE pf pc x))) (tDB F c2 (bor y (wE pf pc y))) σ H Q := by
  unfold wE at hw
  refine goB o.mf o.mc rel hw (fun _ h => h) fun d v H1 hd e1 rel1 r1 => goB o.mf o.mc rel1 hd (fun _ h => h.ext e1) fun d2 v2 H2 hd2 e2 rel2 r2 =>
    snd_cmp (fr := false) rel2 (r1.keep rel1 e2) r2 (cmpD_bl (fun b hb => ?_) hd2)
  intro v' H' e3 rv _
  rw [Rep.bl.mp rv]
  exact hq b H' ((e1.trans e2).trans e3) hb
theorem snd_Cmp {c1 c2 : Co} (o : XOk G c F pf pc n X) {op : CmpOp} {fr : Bool} (hm : behindInMarks op b = false) (ha : PE X a (tDB F c1 (bor x (wE pf pc x)))) (hb : PE X b (tDB F c2 (bor y (wE pf pc y)))) : PE X (.Compare a [op] [b] pos) (tD F fr (c1.comp c2) (wE pf pc (.cmp (cCop op) x y))) := by
  refine PE.imp (pe_cmpR (op_cmp o.units op) ha hb hm) fun σ H Q ⟨W, env, k, rel, hw⟩ => ?_
  rw [o.K]
  exact cmp_road o (fr := fr) rel hw fun b H' e k => k _ H' e (Rep.bl.mpr rfl) fun _ => Fresh.of_not rfl
theorem snd_CmpT {c1 c2 : Co} (o : XOk G c F pf pc n X) {op : CmpOp} (hm : behindInMarks op b = false) (ha : PE X a (tDB F c1 (bor x (wE pf pc x)))) (hb : PE X b (tDB F c2 (bor y (wE pf pc y)))) : PT X (.Compare a [op] [b] pos) (tDT F (c1.comp c2) (wT pf pc (.cmp (cCop op) x y))) := by
  refine PT.imp (pt_cmpR (op_cmp o.units op) ha hb hm) fun σ H Q ⟨W, env, k, rel, hw⟩ => ?_
  rw [o.K]
  rw [wT_plain rfl] at hw
  exact cmp_road o (fr := false) rel hw fun b H' e k => ⟨b, rfl, k H' e⟩
theorem chain_road {c1 c2 c3 : Co} {k : Nat} (o : XOk G c F pf pc n X) {op op' : CmpOp} {σ : L2.St} {H : Hp} {Q : VK} {W : Addr → Prop} {env : DEnv} {K : DK} (rel : Rel F.P ((c1.comp (c2.comp c3)).f k) F.W0 W F.H0 H env σ)
    (hw : wE pf pc (.chain (cCop op) (cCop op') x y z) env K (xk F k W σ H)) (hq : ∀ b H', Ext F.P k H H' → K (.bl b) → Q (.bl b) H') :
    tChain (rCmp F.P.K (cCop op)) (rCmp F.P.K (cCop op')) (tDB F c1 (bor x (wE pf pc x))) (tDB F c2 (bor y (wE pf pc y))) (tDB F c3 (bor z (wE pf pc z))) σ H Q := by
  unfold wE at hw
  refine goB o.mf o.mc rel hw (fun _ h => h) fun d v H1 hd e1 rel1 r1 => goB o.mf o.mc rel1 hd (fun _ h => h.ext e1) fun d2 v2 H2 hd2 e2 rel2 r2 =>
    snd_cmp (fr := false) rel2 (r1.keep rel1 e2) r2 (cmpD_bl (fun t ht => ?_) hd2)
  intro v' H3 e3 rv _
  refine ⟨t, Rep.bl.mp rv, ?_⟩
  have ht : if t = true then bor z (wE pf pc z) env (fun w => cmpD (cCop op') d2 w K) (xk F k W σ H) else K (.bl false) := ht
  have e13 := (e1.trans e2).trans e3
  cases t with
  | false =>
    rw [if_neg (by decide)] at ht ⊢
    exact hq false H3 (e13.le (c3.le k)) ht
  | true =>
    rw [if_pos rfl] at ht ⊢
    have rel3 := rel2.ext e3
    refine goB o.mf o.mc rel3 ht (fun _ h => h.ext e13) fun d3 v3 H4 hd3 e4 rel4 r3 => snd_cmp (fr := false) rel4 ((r2.keep rel2 e3).keep rel3 e4) r3 (cmpD_bl (fun b hb => ?_) hd3)
    intro v'' H5 e5 rv' _
    rw [Rep.bl.mp rv']
    exact hq b H5 ((e13.trans e4).trans e5) hb
theorem snd_Chain {c1 c2 c3 : Co} (o : XOk G c F pf pc n X) {op op' : CmpOp} {fr : Bool} (hm : lastMarks [op, op'] [b, d] = false) (ha : PE X a (tDB F c1 (bor x (wE pf pc x)))) (hb : PE X b (tDB F c2 (bor y (wE pf pc y)))) (hd : PE X d (tDB F c3 (bor z (wE pf pc z)))) :
    PE X (.Compare a [op, op'] [b, d] pos) (tD F fr (c1.comp (c2.comp c3)) (wE pf pc (.chain (cCop op) (cCop op') x y z))) := by
  refine PE.imp (pe_chain (op_cmp o.units op) (op_cmp o.units op') ha hb hd hm) fun σ H Q ⟨W, env, k, rel, hw⟩ => ?_
  rw [o.K]
  exact chain_road o rel hw fun b H' e k => k _ H' e (Rep.bl.mpr rfl) fun _ => Fresh.of_not rfl
theorem snd_ChainT {c1 c2 c3 : Co} (o : XOk G c F pf pc n X) {op op' : CmpOp} (hm : lastMarks [op, op'] [b, d] = false) (ha : PE X a (tDB F c1 (bor x (wE pf pc x)))) (hb : PE X b (tDB F c2 (bor y (wE pf pc y)))) (hd : PE X d (tDB F c3 (bor z (wE pf pc z)))) :
    PT X (.Compare a [op, op'] [b, d] pos) (tDT F (c1.comp (c2.comp c3)) (wT pf pc (.chain (cCop op) (cCop op') x y z))) := by
  refine PT.imp (pt_chain (op_cmp o.units op) (op_cmp o.units op') ha hb hd hm) fun σ H Q ⟨W, env, k, rel, hw⟩ => ?_
  rw [o.K]
  rw [wT_plain rfl] at hw
  exact chain_road o rel hw fun b H' e k => ⟨b, rfl, k H' e⟩
theorem snd_Neg {c1 : Co} (o : XOk G c F pf pc n X) {fr : Bool} (ha : PE X a (tDB F c1 (bor x (wE pf pc x)))) : PE X (.UnaryOp .USub a pos) (tD F fr c1 (wE pf pc (.neg x))) := by
  refine PE.imp (pe_un un_neg ha) fun σ H Q ⟨W, env, k, rel, hw⟩ => ?_
  unfold wE at hw
  refine goB o.mf o.mc rel hw (fun _ h => h) fun d v H1 hd e1 rel1 r1 => ?_
  unfold onInt at hd
  split at hd
  · rw [r1.int]
    exact ⟨_, rfl, vk.int rel1 (hd.ext e1)⟩
  · exact hd.elim
theorem goT {k0 : Nat} {k : Nat} {co : Co} (o : XOk G c F pf pc n X) {σ : L2.St} {H : Hp} {W : Addr → Prop} {env : DEnv} {K : Bool → Prop} {E : EK} {R : Bool → Hp → Prop} (rel : Rel F.P (co.f k) F.W0 W F.H0 H env σ) (h : wT pf pc x env K E) (hE : ∀ x, E x → xk F k0 W σ H x)
    (hk : ∀ b H1, K b → Ext F.P k H H1 → Rel F.P k F.W0 W F.H0 H1 env σ → R b H1) (hk0 : k0 ≤ k := by first | exact Nat.le_refl _ | exact Co.le _ _ | exact Nat.le_trans (Co.le _ _) (Co.le _ _) | exact Nat.le_trans (Nat.le_trans (Co.le _ _) (Co.le _ _)) (Co.le _ _)) : tDT F co (wT pf pc x) σ H R :=
  ⟨W, env, k, rel, wT_mono o.mf o.mc x env _ _ _ _ (fun b hb H1 e => hk b H1 hb e (rel.ext e)) (fun x hx => (hE x hx).le hk0) h⟩
theorem snd_Not {c1 : Co} (o : XOk G c F pf pc n X) {fr : Bool} (ha : PE X a (tDB F c1 (bor x (wE pf pc x)))) : PE X (.UnaryOp .Not a pos) (tD F fr c1 (wE pf pc (.not x))) := by
  refine PE.imp (pe_notT ha) fun σ H Q ⟨W, env, k, rel, hw⟩ => ?_
  unfold wE at hw
  refine goB o.mf o.mc rel hw (fun _ h => h) fun d v H1 hd e1 rel1 r1 => ?_
  unfold onTru at hd
  split at hd
  · rename_i t et
    exact ⟨t, by rw [o.K]; exact snd_tru r1 et, vk.bl rel1 (hd.ext e1)⟩
  · exact hd.elim
theorem snd_NotT {c1 : Co} (o : XOk G c F pf pc n X) (ha : PT X a (tDT F c1 (wT pf pc x))) : PT X (.UnaryOp .Not a pos) (tDT F c1 (wT pf pc (.not x))) := by
  refine PT.imp (pt_not ha) fun σ H Q ⟨W, env, k, rel, hw⟩ => ?_
  unfold wT at hw
  exact goT o rel hw (fun _ h => h) fun b H1 hb e _ => hb H1 e
theorem snd_And {c1 c2 : Co} (o : XOk G c F pf pc n X) {r : List Expr} {fr : Bool} (ha : PE X a (tD F false c1 (wE pf pc x))) (hb : PE X (.BoolOp .And (b :: r) pos) (tD F false c2 (wE pf pc y))) (hf : fr = false) : PE X (.BoolOp .And (a :: b :: r) pos) (tD F fr (c1.comp c2) (wE pf pc (.and x y))) := by
  subst hf
  refine PE.imp (pe_andT ha hb) fun σ H Q ⟨W, env, k, rel, hw⟩ => ?_
  unfold wE at hw
  refine goV o.mf o.mc rel hw (fun _ h => h) fun d v H1 hd e1 rel1 r1 _ => ?_
  unfold onTru at hd
  split at hd
  · rename_i t et
    refine ⟨t, by rw [o.K]; exact snd_tru (.inl r1) et, ?_⟩
    cases t with
    | true =>
      rw [if_pos rfl] at hd ⊢
      exact ⟨W, env, k, rel1, wE_mono o.mf o.mc y env _ _ _ _ (fun _ h => h.ext e1) (fun _ h => h.ext e1) hd⟩
    | false =>
      rw [if_neg (by decide)] at hd ⊢
      exact hd v H1 (e1.le (c2.le k)) r1 fun z => nomatch z
  · exact hd.elim
theorem snd_Or {c1 c2 : Co} (o : XOk G c F pf pc n X) {r : List Expr} {fr : Bool} (ha : PE X a (tD F false c1 (wE pf pc x))) (hb : PE X (.BoolOp .Or (b :: r) pos) (tD F false c2 (wE pf pc y))) (hf : fr = false) : PE X (.BoolOp .Or (a :: b :: r) pos) (tD F fr (c1.comp c2) (wE pf pc (.or x y))) := by
  subst hf
  refine PE.imp (pe_orT ha hb) fun σ H Q ⟨W, env, k, rel, hw⟩ => ?_
  unfold wE at hw
  refine goV o.mf o.mc rel hw (fun _ h => h) fun d v H1 hd e1 rel1 r1 _ => ?_
  unfold onTru at hd
  split at hd
  · rename_i t et
    refine ⟨t, by rw [o.K]; exact snd_tru (.inl r1) et, ?_⟩
    cases t with
    | false =>
      rw [if_neg (by decide)] at hd ⊢
      exact ⟨W, env, k, rel1, wE_mono o.mf o.mc y env _ _ _ _ (fun _ h => h.ext e1) (fun _ h => h.ext e1) hd⟩
    | true =>
      rw [if_pos rfl] at hd ⊢
      exact hd v H1 (e1.le (c2.le k)) r1 fun z => nomatch z
  · exact hd.elim
theorem snd_AndW {c1 c2 : Co} (o : XOk G c F pf pc n X) {r : List Expr} (ha : PT X a (tDT F c1 (wT pf pc x))) (hb : PW X (.BoolOp .And (b :: r) pos) (tDT F c2 (wT pf pc y))) : PW X (.BoolOp .And (a :: b :: r) pos) (tDT F (c1.comp c2) (wT pf pc (.and x y))) := by
  refine ⟨fun wh pins s σ H Q I ⟨W, env, k, rel, hw⟩ => (pw_and ha hb).run wh pins s σ H Q I ?_⟩
  unfold wT at hw
  refine goT o rel hw (fun _ h => h) fun t H1 hd e1 rel1 => ?_
  cases t with
  | true =>
    rw [if_pos rfl] at hd ⊢
    exact goT o rel1 hd (fun _ h => h.ext e1) fun b H2 hb e2 _ => hb H2 (e1.trans e2)
  | false =>
    rw [if_neg (by decide)] at hd ⊢
    exact hd H1 (e1.le (c2.le k))
theorem snd_OrW {c1 c2 : Co} (o : XOk G c F pf pc n X) {r : List Expr} (ha : PT X a (tDT F c1 (wT pf pc x))) (hb : PW X (.BoolOp .Or (b :: r) pos) (tDT F c2 (wT pf pc y))) : PW X (.BoolOp .Or (a :: b :: r) pos) (tDT F (c1.comp c2) (wT pf pc (.or x y))) := by
  refine ⟨fun wh pins s σ H Q I ⟨W, env, k, rel, hw⟩ => (pw_or ha hb).run wh pins s σ H Q I ?_⟩
  unfold wT at hw
  refine goT o rel hw (fun _ h => h) fun t H1 hd e1 rel1 => ?_
  cases t with
  | false =>
    rw [if_neg (by decide)] at hd ⊢
    exact goT o rel1 hd (fun _ h => h.ext e1) fun b H2 hb e2 _ => hb H2 (e1.trans e2)
  | true =>
    rw [if_pos rfl] at hd ⊢
    exact hd H1 (e1.le (c2.le k))
theorem snd_Ite {c1 c2 c3 : Co} (o : XOk G c F pf pc n X) (ht : PT X d (tDT F c1 (wT pf pc x))) (ha : PE X a (tD F false c2 (wE pf pc y))) (hb : PE X b (tD F false c3 (wE pf pc z))) : PE X (.IfExp d a b pos) (tD F false (c1.comp (c2.comp c3)) (wE pf pc (.ite x y z))) := by
  refine PE.imp (pe_ifExp ht ha hb) fun σ H Q ⟨W, env, k, rel, hw⟩ => ?_
  unfold wE at hw
  refine goT o rel hw (fun _ h => h) fun t H1 hd e1 rel1 => ?_
  cases t with
  | false =>
    rw [if_neg (by decide)] at hd ⊢
    exact ⟨W, env, k, rel1.le (c2.le _), wE_mono o.mf o.mc z env _ _ _ _ (fun _ h => h.ext e1) (fun _ h => h.ext e1) hd⟩
  | true =>
    rw [if_pos rfl] at hd ⊢
    exact ⟨W, env, c3.f k, rel1, wE_mono o.mf o.mc y env _ _ _ _ (fun _ h => (h.ext e1).le (c3.le k)) (fun _ h => (h.ext e1).le (c3.le k)) hd⟩
theorem pt_ifExp {tA t1 t2 : TT} (ht : PT X d tA) (ha : PT X a t1) (hb : PT X b t2) : PT X (.IfExp d a b pos) (fun σ H Q => tA σ H fun c H1 => if c = true then t1 σ H1 Q else t2 σ H1 Q) := by
  refine ⟨fun pins s σ H Q I h => ?_⟩
  have e : isTrue (.IfExp d a b pos) X.env (eval (.IfExp d a b pos) X.env) = (do if ← isTrue d X.env (eval d X.env) then isTrue a X.env (eval a X.env) else isTrue b X.env (eval b X.env)) := by
    rw [PySem.isTrue]
  rw [e]
  refine wpAny_bind (thn (ht.run pins s σ H _ I h) fun t s1 ⟨H1, I1, q1⟩ => ?_)
  cases t with
  | true => exact ha.run pins s1 σ H1 Q I1 q1
  | false => exact hb.run pins s1 σ H1 Q I1 q1
theorem snd_IteT {c1 c2 c3 : Co} (o : XOk G c F pf pc n X) (ht : PT X d (tDT F c1 (wT pf pc x))) (ha : PT X a (tDT F c2 (wT pf pc y))) (hb : PT X b (tDT F c3 (wT pf pc z))) : PT X (.IfExp d a b pos) (tDT F (c1.comp (c2.comp c3)) (wT pf pc (.ite x y z))) := by
  refine PT.imp (pt_ifExp ht ha hb) fun σ H Q ⟨W, env, k, rel, hw⟩ => ?_
  unfold wT at hw
  refine goT o rel hw (fun _ h => h) fun t H1 hd e1 rel1 => ?_
  cases t with
  | false =>
    rw [if_neg (by decide)] at hd ⊢
    exact goT o (rel1.le (c2.le _)) hd (fun _ h => h.ext e1) fun b H2 hb e2 _ => hb H2 (e1.trans e2)
  | true =>
    rw [if_pos rfl] at hd ⊢
    exact goT o rel1 hd (fun _ h => h.ext e1) fun b H2 hb e2 _ => hb H2 ((e1.trans e2).le (c3.le k))
end
end Dl
namespace Dl
open PySem PySem.Spec PyProof.Rows L2
section
variable {G : GC} {c : CC} {F : Fx} {pf : PF} {pc : PC} {n : Nat} {X : Cx} {a b d e : Expr} {pos : Pos} {x y z : IE}
theorem wEs_len (mf : PFM pf pf) (mc : PCM pc pc) : ∀ (es : IEs) (env : DEnv) (Q : List D → Prop) (E : EK), wEs pf pc es env Q E → wEs pf pc es env (fun ds => ds.length = ieLen es ∧ Q ds) E
  | .nil, env, Q, E, h => by
    unfold wEs at h ⊢
    exact ⟨rfl, h⟩
  | .lam k b caps r, env, Q, E, h => by
    unfold wEs at h ⊢
    obtain ⟨h1, cs, h2, h3, h4⟩ := h
    refine ⟨h1, cs, h2, h3, wEs_mono mf mc r env _ _ _ _ (fun xs ⟨g1, g2⟩ => ?_) (fun _ z => z) (wEs_len mf mc r env _ E h4)⟩
    exact ⟨by rw [List.length_cons, g1]; rfl, g2⟩
  | .cons e r, env, Q, E, h => by
    unfold wEs at h ⊢
    refine wE_mono mf mc e env _ _ _ _ (fun x hx => ?_) (fun _ z => z) h
    refine wEs_mono mf mc r env _ _ _ _ (fun xs ⟨h1, h2⟩ => ?_) (fun _ z => z) (wEs_len mf mc r env _ E hx)
    exact ⟨by rw [List.length_cons, h1]; rfl, h2⟩
theorem size1000 {n : Nat} (h : n ≤ 1000) : n ≤ sizeLine := by rw [sizeLine_eq]; omega
/-! ### argument lists -/
theorem snd_nil (o : XOk G c F pf pc n X) : PA X [] (tDA F Co.one (wEs pf pc .nil)) := by
  refine PA.imp pa_nil fun σ H Q ⟨W, env, k, rel, hw⟩ => ?_
  unfold wEs at hw
  exact hw [] H (Ext.refl rel.strm) (RepL.nil_iff.mpr rfl)
theorem snd_cons {c1 c2 : Co} (o : XOk G c F pf pc n X) {r : List Expr} {xs : IEs} {fr : Bool} (hs : notStar e = true) (he : PE X e (tD F fr c1 (wE pf pc x))) (hr : PA X r (tDA F c2 (wEs pf pc xs))) : PA X (e :: r) (tDA F (c1.comp c2) (wEs pf pc (.cons x xs))) := by
  refine PA.imp (pa_cons he hr (star_of hs)) fun σ H Q ⟨W, env, k, rel, hw⟩ => ?_
  unfold wEs at hw
  refine goV o.mf o.mc rel hw (fun _ h => h) fun d v H1 hd e1 rel1 r1 _ => goA o.mf o.mc rel1 hd (fun _ h => h.ext e1) fun ds vs H2 hds e2 rel2 r2 => ?_
  exact hds (v :: vs) H2 (e1.trans e2) (RepL.mk (r1.keep rel1 e2) r2)
theorem snd_nilB (o : XOk G c F pf pc n X) : PA X [] (tDBA F Co.one (wBs pf pc .nil)) := by
  refine PA.imp pa_nil fun σ H Q ⟨W, env, k, rel, hw⟩ => ?_
  unfold wBs at hw
  exact hw [] H (Ext.refl rel.strm) rfl fun i d v h => by simp at h
theorem snd_consB {c1 c2 : Co} (o : XOk G c F pf pc n X) {r : List Expr} {xs : IEs} (hs : notStar e = true) (he : PE X e (tDB F c1 (bor x (wE pf pc x)))) (hr : PA X r (tDBA F c2 (wBs pf pc xs))) : PA X (e :: r) (tDBA F (c1.comp c2) (wBs pf pc (.cons x xs))) := by
  refine PA.imp (pa_cons he hr (star_of hs)) fun σ H Q ⟨W, env, k, rel, hw⟩ => ?_
  unfold wBs at hw
  refine goB o.mf o.mc rel hw (fun _ h => h) fun d v H1 hd e1 rel1 r1 => goBA o.mf o.mc rel1 hd (fun _ h => h.ext e1) fun ds vs H2 hds e2 rel2 hl r2 => ?_
  refine hds (v :: vs) H2 (e1.trans e2) (by rw [List.length_cons, List.length_cons, hl]) fun i d' v' h1 h2 => ?_
  cases i with
  | zero =>
    simp at h1 h2
    subst h1 h2
    exact r1.keep rel1 e2
  | succ i => exact r2 i d' v' (by simpa using h1) (by simpa using h2)
/-! ### displays -/
theorem snd_Tup {c1 : Co} (o : XOk G c F pf pc n X) {es : List Expr} {xs : IEs} {fr : Bool} {x1} (hl : ieLen xs ≤ 1000) (ha : PA X es (tDA F c1 (wEs pf pc xs))) : PE X (.Tuple es x1 pos) (tD F fr c1 (wE pf pc (.tup xs))) := by
  refine PE.imp (pe_tup ha) fun σ H Q ⟨W, env, k, rel, hw⟩ => ?_
  unfold wE at hw
  refine goA o.mf o.mc rel (wEs_len o.mf o.mc _ _ _ _ hw) (fun _ h => h) fun ds vs H1 ⟨h1, hd⟩ e1 rel1 r1 => ?_
  have hz : vs.length ≤ sizeLine := by rw [← r1.len, h1]; exact size1000 hl
  exact ⟨hz, vk.tup rel1 (hd.ext e1) hz r1⟩
theorem snd_Lst {c1 : Co} (o : XOk G c F pf pc n X) {es : List Expr} {xs : IEs} {fr : Bool} (hl : ieLen xs ≤ 1000) (ha : PA X es (tDA F c1 (wEs pf pc xs))) : PE X (.List es pos) (tD F fr c1 (wE pf pc (.lst xs))) := by
  refine PE.imp (pe_lst ha) fun σ H Q ⟨W, env, k, rel, hw⟩ => ?_
  unfold wE at hw
  refine goA o.mf o.mc rel (wEs_len o.mf o.mc _ _ _ _ hw) (fun _ h => h) fun ds vs H1 ⟨h1, hd⟩ e1 rel1 r1 => ?_
  have hz : vs.length ≤ sizeLine := by rw [← r1.len, h1]; exact size1000 hl
  exact ⟨hz, vk.lst rel1 (hd.ext e1) hz r1⟩
/-! ### subscripts -/
theorem plain_ix (h : isSlice b = false) : PlainIx b := by
  cases b <;> first
    | (intro o i; rfl)
    | cases h
theorem snd_Idx {c1 c2 : Co} (o : XOk G c F pf pc n X) (hs : isSlice b = false) (ha : PE X a (tDB F c1 (bor x (wE pf pc x)))) (hb : PE X b (tDB F c2 (bor y (wE pf pc y)))) : PE X (.Subscript a b pos) (tD F false (c1.comp c2) (wE pf pc (.idx x y))) := by
  refine PE.imp (pe_ix (ix_all (by have := o.units; omega)) ha hb (plain_ix hs)) fun σ H Q ⟨W, env, k, rel, hw⟩ => ?_
  unfold wE at hw
  rw [o.K]
  exact goB o.mf o.mc rel hw (fun _ h => h) fun d v H1 hd e1 rel1 r1 => goB o.mf o.mc rel1 hd (fun _ h => h.ext e1) fun d2 v2 H2 hd2 e2 rel2 r2 =>
    snd_idx rel2 (r1.keep rel1 e2) r2 (idxD_mono (fun _ h => h.ext (e1.trans e2)) hd2)
theorem snd_none (o : XOk G c F pf pc n X) : PO X none (tDO F Co.one (wO pf pc .none)) := by
  refine ⟨fun pins s σ H Q I ⟨W, env, k, rel, hw⟩ => po_none.run pins s σ H Q I ?_⟩
  unfold wO at hw
  exact hw H (Ext.refl rel.strm)
theorem snd_some {c1 : Co} (o : XOk G c F pf pc n X) (ha : PE X a (tDB F c1 (bor x (wE pf pc x)))) : PO X (some a) (tDO F c1 (wO pf pc (.some x))) := by
  refine ⟨fun pins s σ H Q I ⟨W, env, k, rel, hw⟩ => (po_some ha).run pins s σ H Q I ?_⟩
  unfold wO at hw
  refine goB o.mf o.mc rel hw (fun _ h => h) fun d v H1 hd e1 rel1 r1 => ?_
  unfold onInt at hd
  split at hd
  · exact ⟨_, r1.int, hd H1 e1⟩
  · exact hd.elim
theorem goO {k0 : Nat} (o : XOk G c F pf pc n X) {l : IO} {σ : L2.St} {H : Hp} {W : Addr → Prop} {env : DEnv} {K : Option Int → Prop} {E : EK} {R : Option Int → Hp → Prop} {k : Nat} {co : Co} (rel : Rel F.P (co.f k) F.W0 W F.H0 H env σ) (h : wO pf pc l env K E) (hE : ∀ x, E x → xk F k0 W σ H x)
    (hk : ∀ b H1, K b → Ext F.P k H H1 → Rel F.P k F.W0 W F.H0 H1 env σ → R b H1) (hk0 : k0 ≤ k := by first | exact Nat.le_refl _ | exact Co.le _ _ | exact Nat.le_trans (Co.le _ _) (Co.le _ _) | exact Nat.le_trans (Nat.le_trans (Co.le _ _) (Co.le _ _)) (Co.le _ _)) : tDO F co (wO pf pc l) σ H R :=
  ⟨W, env, k, rel, wO_mono o.mf o.mc l env _ _ _ _ (fun b hb H1 e => hk b H1 hb e (rel.ext e)) (fun x hx => (hE x hx).le hk0) h⟩
theorem snd_Slc {c1 c2 c3 : Co} (o : XOk G c F pf pc n X) {fr : Bool} {lo hi : Option Expr} {l h : IO} {p2 : Pos} (ha : PE X a (tDB F c1 (bor x (wE pf pc x)))) (hl : PO X lo (tDO F c2 (wO pf pc l))) (hh : PO X hi (tDO F c3 (wO pf pc h))) :
    PE X (.Subscript a (.Slice lo hi none p2) pos) (tD F fr (c1.comp (c2.comp c3)) (wE pf pc (.slc x l h))) := by
  refine PE.imp (pe_slice sl_all ha hl hh) fun σ H Q ⟨W, env, k, rel, hw⟩ => ?_
  unfold wE at hw
  rw [o.K]
  exact goB o.mf o.mc rel hw (fun _ h => h) fun d v H1 hd e1 rel1 r1 => goO o rel1 hd (fun _ h => h.ext e1) fun lv H2 hd2 e2 rel2 => goO o rel2 hd2 (fun _ h => h.ext (e1.trans e2)) fun hv H3 hd3 e3 rel3 =>
    snd_slc rel3 ((r1.keep rel1 e2).keep rel2 e3) (slcD_mono (fun _ h => h.ext ((e1.trans e2).trans e3)) hd3)
theorem snd_Rev {c1 : Co} (o : XOk G c F pf pc n X) {fr : Bool} {k : Nat} {p1 p2 p3 : Pos} (ha : PE X a (tDB F c1 (bor x (wE pf pc x)))) : PE X (.Subscript a (.Slice none none (some (.UnaryOp .USub (.Constant (.int 1) k p1) p2)) p3) pos) (tD F fr c1 (wE pf pc (.rev x))) := by
  refine PE.imp (pe_revL ha) fun σ H Q ⟨W, env, k, rel, hw⟩ => ?_
  unfold wE at hw
  refine goB o.mf o.mc rel hw (fun _ h => h) fun d v H1 hd e1 rel1 r1 => ?_
  unfold revD at hd
  split at hd
  · obtain ⟨p, xs, rfl, hp, hz, r⟩ := r1.lst
    exact ⟨p, xs, rfl, SqL.of hp, vk.lst rel1 (hd.ext e1) (by rw [List.length_reverse]; exact hz) r.rev⟩
  · exact hd.elim
/-! ### calls -/
theorem call_road {k j : Nat} {co : Co} (o : XOk G c F pf pc n X) {m : List D → DK → EK → Prop} (mm : ∀ ds (Q Q' : DK) (E E' : EK), (∀ d, Q d → Q' d) → (∀ x, E x → E' x) → m ds Q E → m ds Q' E') {σ : L2.St} {H H1 : Hp} {Q : VK} {W : Addr → Prop} {env : DEnv} {ds : List D} {vs : List V} (e1 : Ext F.P j H H1) (rel1 : Rel F.P (co.f k) F.W0 W F.H0 H1 env σ)
    (r1 : RepL F.P W H1 ds vs) (h : m ds (vk F k W false H Q) (xk F k W σ H)) : spD F.P co m vs H1 Q (WE F.Wx σ) := by
  refine ⟨W, ds, k, r1, rel1.wk, fun a h => rel1.w0 _ (rel1.tw a h), rel1.strm, mm ds _ _ _ _ (fun d hd v H' e r => hd v H' (e1.trans e) r fun z => nomatch z) (fun w hw cls dd H' e r => hw cls dd H' (e1.trans e) r) h⟩
theorem star_all {es : List Expr} {env : Env} {pos : Pos} (h : es.all notStar = true) : (backTo pos (starEach es env)).any (·.1) = false := by
  induction es with
  | nil => rfl
  | cons e es ih =>
    simp only [List.all_cons, Bool.and_eq_true] at h
    rw [star_of h.1]
    show (false || (backTo pos (starEach es env)).any (·.1)) = false
    rw [ih h.2]
    rfl
theorem snd_Call {c1 : Co} (o : XOk G c F pf pc n X) {g : Str} {k : Nat} {p : Pos} {es : List Expr} {xs : IEs} (hG : G.fns.lookup g = some k) (hg : isGl c g = true) (hs : es.all notStar = true) (ha : PA X es (tDA F c1 (wEs pf pc xs))) (hn : es = [] → xs = .nil) :
    PE X (.Call (.Name g p) es [] pos) (tD F false (c1.comp (F.cf k)) (wE pf pc (.call k xs))) := by
  obtain ⟨f, fd, ps, h1, h2, h3, h4, h5⟩ := (o.fns g k hG).ex
  obtain ⟨g1, g2, g3⟩ := isGl_ok o hg
  have mm : ∀ ds (Q Q' : DK) (E E' : EK), (∀ d, Q d → Q' d) → (∀ x, E x → E' x) → pf k ds Q E → pf k ds Q' E' := fun ds => o.mf k ds
  have key : ∀ σ H Q, tD F false (c1.comp (F.cf k)) (wE pf pc (.call k xs)) σ H Q → tDA F c1 (wEs pf pc xs) σ H fun vs H1 => spD F.P (F.cf k) (pf k) vs H1 Q (WE F.Wx σ) := fun σ H Q ⟨W, env, b, rel, hw⟩ => by
    unfold wE at hw
    exact goA o.mf o.mc rel hw (fun _ h => h) fun ds vs H1 hd e1 rel1 r1 => call_road o mm e1 rel1 r1 hd
  cases es with
  | nil =>
    refine PE.imp (pe_callS0 h3 o.room g1 h1 h2 h4 (passAt o.tk) g2) fun σ H Q h => ?_
    obtain ⟨W, env, b, rel, hw⟩ := key σ H Q h
    rw [hn rfl] at hw
    unfold wEs at hw
    exact hw [] H (Ext.refl (rel.le (c1.le b)).strm) (RepL.nil_iff.mpr rfl)
  | cons e es =>
    simp only [List.all_cons, Bool.and_eq_true] at hs
    exact PE.imp (pe_callS h3 o.room g1 h1 h2 h4 (passAt o.tk) ha g2 (star_of hs.1) (star_all hs.2)) key
/-! ### calls with keywords alone -/
theorem snd_pkNil (o : XOk G c F pf pc n X) : PK X [] (tDA F Co.one (wEs pf pc .nil)) := by
  refine ⟨fun pos pins s σ H Q I ⟨W, env, k, rel, hw⟩ => pk_nil.run pos pins s σ H Q I ?_⟩
  unfold wEs at hw
  exact hw [] H (Ext.refl rel.strm) (RepL.nil_iff.mpr rfl)
theorem snd_pkCons {c1 c2 : Co} (o : XOk G c F pf pc n X) {r : List Keyword} {xs : IEs} {fr : Bool} {nm : Option Str} {kp : Pos} (he : PE X e (tD F fr c1 (wE pf pc x))) (hr : PK X r (tDA F c2 (wEs pf pc xs))) : PK X (⟨nm, e, kp⟩ :: r) (tDA F (c1.comp c2) (wEs pf pc (.cons x xs))) := by
  refine ⟨fun pos pins s σ H Q I ⟨W, env, k, rel, hw⟩ => (pk_cons he hr).run pos pins s σ H Q I ?_⟩
  unfold wEs at hw
  refine goV o.mf o.mc rel hw (fun _ h => h) fun d v H1 hd e1 rel1 r1 _ => goA o.mf o.mc rel1 hd (fun _ h => h.ext e1) fun ds vs H2 hds e2 rel2 r2 => ?_
  exact hds (v :: vs) H2 (e1.trans e2) (RepL.mk (r1.keep rel1 e2) r2)
theorem kw_facts {env : Env} {pos : Pos} : ∀ {kws : List Keyword} {ks : List Str}, kwNames kws = some ks → (backToKw pos (keywordEach kws env)).all (·.1.isSome) = true ∧ (backToKw pos (keywordEach kws env)).filterMap (·.1) = ks ∧ (backToKw pos (keywordEach kws env)).any (·.1.isNone) = false
  | [], ks, h => by
    unfold kwNames at h
    cases h
    exact ⟨rfl, rfl, rfl⟩
  | ⟨some m, v, p⟩ :: r, ks, h => by
    unfold kwNames at h
    obtain ⟨ns, h1, rfl⟩ := Option.map_eq_some_iff.mp h
    obtain ⟨a1, a2, a3⟩ := kw_facts (env := env) (pos := pos) h1
    refine ⟨?_, ?_, ?_⟩
    · show (true && (backToKw pos (keywordEach r env)).all (·.1.isSome)) = true
      rw [a1]; rfl
    · show m :: (backToKw pos (keywordEach r env)).filterMap (·.1) = m :: ns
      rw [a2]
    · show (false || (backToKw pos (keywordEach r env)).any (·.1.isNone)) = false
      rw [a3]; rfl
  | ⟨none, v, p⟩ :: r, ks, h => by
    unfold kwNames at h
    cases h
theorem snd_CallK {c1 : Co} (o : XOk G c F pf pc n X) {g : Str} {k : Nat} {p : Pos} {kws : List Keyword} {ks : List Str} {perm : List Nat} {xs : IEs} (hG : G.fns.lookup g = some k) (hg : isGl c g = true) (hk : kwNames kws = some ks) (hp : kwPerm G g ks = some perm) (hl : ieLen xs = ks.length) (ha : PK X kws (tDA F c1 (wEs pf pc xs))) :
    PE X (.Call (.Name g p) [] kws pos) (tD F false (c1.comp (F.cf k)) (wE pf pc (.callk k xs perm))) := by
  obtain ⟨f, fd, ps, h1, h2, h3, h4, h5⟩ := (o.fns g k hG).ex
  obtain ⟨g1, g2, g3⟩ := isGl_ok o hg
  have mm : ∀ ds (Q Q' : DK) (E E' : EK), (∀ d, Q d → Q' d) → (∀ x, E x → E' x) → pf k ds Q E → pf k ds Q' E' := fun ds => o.mf k ds
  have hkb : KBindsP X.K fd ps ks perm := by
    unfold kwPerm at hp
    obtain ⟨e, he, hpe⟩ := Option.map_eq_some_iff.mp hp
    have hm := List.mem_of_find?_eq_some he
    have hc := List.find?_some he
    simp only [Bool.and_eq_true, decide_eq_true_eq] at hc
    have := h5 e.2 (List.mem_map.mpr ⟨e, List.mem_filter.mpr ⟨hm, by simp [hc.1]⟩, rfl⟩)
    rw [hc.2, hpe] at this
    exact this
  obtain ⟨a1, a2, a3⟩ := kw_facts (env := X.env) (pos := pos) hk
  refine PE.imp (pe_callKS h3 o.room g1 h1 h2 hkb (passAt o.tk) ha a1 a2 g2 (by rw [a3]; rfl)) fun σ H Q ⟨W, env, k, rel, hw⟩ => ?_
  unfold wE at hw
  refine goA o.mf o.mc rel (wEs_len o.mf o.mc _ _ _ _ hw) (fun _ h => h) fun ds vs H1 ⟨hn, hd⟩ e1 rel1 r1 => ⟨by rw [← r1.len, hn]; exact hl, ?_⟩
  exact call_road o mm e1 rel1 (r1.perm perm) hd
/-! ### built-ins -/
theorem snd_Bi {c1 : Co} (o : XOk G c F pf pc n X) {g : Str} {k : BI} {p : Pos} {es : List Expr} {xs : IEs} {fr : Bool} (hb : builtins.lookup g = some k) (hG : G.fns.lookup g = none) (hg : isGl c g = true) (hs : es.all notStar = true) (h0 : es ≠ []) (ha : PA X es (tDBA F c1 (wBs pf pc xs))) :
    PE X (.Call (.Name g p) es [] pos) (tD F fr c1 (wE pf pc (.bi k xs))) := by
  obtain ⟨g1, g2, g3⟩ := isGl_ok o hg
  cases es with
  | nil => exact absurd rfl h0
  | cons e es =>
    simp only [List.all_cons, Bool.and_eq_true] at hs
    have hm : X.mg g = none := o.blt g (by
      have := PySem.mem_of_lookup hb
      unfold bltNames
      exact List.mem_append_left _ (List.mem_append_right _ (List.mem_map.mpr ⟨_, this, rfl⟩))) hG
    refine PE.imp (pe_bi hb o.calm g1 hm ha (star_of hs.1) (star_all hs.2)) fun σ H Q ⟨W, env, k, rel, hw⟩ => ?_
    unfold wE at hw
    rw [o.K]
    exact goBA o.mf o.mc rel hw (fun _ h => h) fun ds vs H1 hd e1 rel1 hl r1 => snd_bi rel1 ⟨hl, r1⟩ (biD_mono (fun _ h => h.ext e1) hd)
/-! ### isinstance -/
def tyV (t : Ty) : V := .ty (tyName t)
def tyU (t : Ty) : Value := .type (tyName t)
theorem ty_all : ∀ {ts : List Ty}, Paired ClsV (ts.map tyV) (ts.map tyU)
  | [] => .nil
  | t :: ts => .cons (.ty _) ty_all
theorem cTy_ok (o : XOk G c F pf pc n X) {t : Ty} (hG : ∀ x ∈ bltNames, G.fns.lookup x = none) (h : cTy c e = some t) : PE X e (tC (tyV t)) ∧ notStar e = true := by
  unfold cTy at h
  split at h
  · split at h
    · rename_i g p hg
      obtain ⟨g1, g2, g3⟩ := isGl_ok o hg
      have hmem := PySem.mem_of_lookup h
      have hin : g ∈ bltNames := List.mem_append_right _ (List.mem_map.mpr ⟨_, hmem, rfl⟩)
      have hm := o.blt g hin (hG g hin)
      refine ⟨?_, rfl⟩
      simp only [types, List.mem_cons, Prod.mk.injEq, List.not_mem_nil, or_false] at hmem
      rcases hmem with ⟨rfl, rfl⟩ | ⟨rfl, rfl⟩ | ⟨rfl, rfl⟩ | ⟨rfl, rfl⟩ | ⟨rfl, rfl⟩ | ⟨rfl, rfl⟩
      · exact pe_bltn g1 hm boot_int rfl
      · exact pe_bltn g1 hm boot_str rfl
      · exact pe_bltn g1 hm boot_list rfl
      · exact pe_bltn g1 hm boot_tuple rfl
      · exact pe_bltn g1 hm boot_dict rfl
      · exact pe_bltn g1 hm boot_bool rfl
    · cases h
  · cases h
theorem cTys_ok (o : XOk G c F pf pc n X) (hG : ∀ x ∈ bltNames, G.fns.lookup x = none) : ∀ {es : List Expr} {ts : List Ty}, cTys c es = some ts → PA X es (fun σ H Q => Q (ts.map tyV) H)
  | [], ts, h => by
    unfold cTys at h
    cases h
    exact pa_nil
  | e :: es, ts, h => by
    unfold cTys at h
    obtain ⟨t, h1, h2⟩ := Option.bind_eq_some_iff.mp h
    obtain ⟨r, h3, rfl⟩ := Option.map_eq_some_iff.mp h2
    obtain ⟨p, s⟩ := cTy_ok o hG h1
    exact PA.imp (pa_cons p (cTys_ok o hG h3) (star_of s)) fun σ H Q q => q
theorem kit_any {P : Par} {d : D} : ∀ {ts : List Ty} {bs : List Bool}, ts.map (fun t => tyD t d) = bs.map some → PySem.W.kitAny P.K (.type (dName d)) (ts.map tyU) = some (bs.any id)
  | [], [], _ => rfl
  | t :: ts, b :: bs, h => by
    simp only [List.map_cons, List.cons.injEq] at h
    obtain ⟨h1, h2⟩ := h
    refine kitAny_cons (kit_ty (kit_all t d b h1)) (fun hb => ?_) fun hb => ?_
    · rw [hb, List.any_cons]
      exact kit_any h2
    · rw [hb, List.any_cons]
      rfl
theorem tyX_any {P : Par} {W : Addr → Prop} {H : Hp} {x : D} {v : V} {ts : List Ty} {bs : List Bool} (hn : ts ≠ []) (rx : RepB P W H x v) (h : ts.map (fun t => tyD t x) = bs.map some) : TyX P.K H v (.type (dName x)) := by
  cases ts with
  | nil => exact absurd rfl hn
  | cons t ts =>
    cases bs with
    | nil => simp at h
    | cons b bs =>
      simp only [List.map_cons, List.cons.injEq] at h
      exact tyX_of rx h.1
theorem snd_Isi {c1 : Co} (o : XOk G c F pf pc n X) {p q : Pos} {ts : List Ty} {es : List Expr} {x1} {fr : Bool} (hG : ∀ x ∈ bltNames, G.fns.lookup x = none) (hg : isGl c "isinstance" = true) (hs : notStar a = true) (hl : ts.length ≤ 100) (hn : ts ≠ []) (ht : cTys c es = some ts) (ha : PE X a (tDB F c1 (bor x (wE pf pc x)))) :
    PE X (.Call (.Name "isinstance" p) [a, .Tuple es x1 q] [] pos) (tD F fr c1 (wE pf pc (.isi x ts))) := by
  obtain ⟨g1, g2, g3⟩ := isGl_ok o hg
  have hm : X.mg "isinstance" = none := o.blt _ (by decide +kernel) (hG _ (by decide +kernel))
  refine PE.imp (pe_callB call_isiT g1 hm PyProof.Rows.boot_isinstance (pa_cons ha (pa_cons (pe_tup (cTys_ok o hG ht)) pa_nil) (star_of hs)) (he := star_of hs)) fun σ H Q ⟨W, env, k, rel, hw⟩ => ?_
  unfold wE at hw
  refine goB o.mf o.mc rel hw (fun _ h => h) fun d v H1 ⟨bs, hb, hq⟩ e1 rel1 r1 => ?_
  have hz : (ts.map tyV).length ≤ sizeLine := by
    rw [List.length_map, sizeLine_eq]; omega
  refine ⟨hz, fun p hp => ?_⟩
  have e2 := rel1.extNew (o := .tup (ts.map tyV)) hp
  rw [o.K]
  exact ⟨v, p, ts.map tyV, .type (dName d), ts.map tyU, bs.any id, rfl, upd_same, ty_all, tyX_any hn (r1.keep rel1 e2) hb, kit_any hb, vk.bl (rel1.ext e2) ((hq.ext e1).ext e2)⟩
theorem snd_Isi1 {c1 : Co} (o : XOk G c F pf pc n X) {p : Pos} {t : Ty} {fr : Bool} (hG : ∀ x ∈ bltNames, G.fns.lookup x = none) (hg : isGl c "isinstance" = true) (hs : notStar a = true) (ht : cTy c b = some t) (ha : PE X a (tDB F c1 (bor x (wE pf pc x)))) :
    PE X (.Call (.Name "isinstance" p) [a, b] [] pos) (tD F fr c1 (wE pf pc (.isi x [t]))) := by
  obtain ⟨g1, g2, g3⟩ := isGl_ok o hg
  have hm : X.mg "isinstance" = none := o.blt _ (by decide +kernel) (hG _ (by decide +kernel))
  obtain ⟨pb, sb⟩ := cTy_ok o hG ht
  refine PE.imp (pe_callB call_isi g1 hm PyProof.Rows.boot_isinstance (pa_cons ha (pa_cons pb pa_nil (star_of sb)) (star_of hs)) (he := star_of hs) (hpl := star_all (by simp [sb]))) fun σ H Q ⟨W, env, k, rel, hw⟩ => ?_
  unfold wE at hw
  refine goB o.mf o.mc rel hw (fun _ h => h) fun d v H1 ⟨bs, hb, hq⟩ e1 rel1 r1 => ?_
  cases bs with
  | nil => simp at hb
  | cons k bs =>
    simp only [List.map_cons, List.map_nil, List.cons.injEq] at hb
    obtain ⟨h1, h2⟩ := hb
    have h3 : bs = [] := by
      cases bs with
      | nil => rfl
      | cons _ _ => simp at h2
    subst h3
    rw [o.K]
    refine ⟨v, tyV t, .type (dName d), tyU t, k, rfl, .ty _, tyX_of r1 h1, kit_ty (kit_all t d k h1), ?_⟩
    have hq2 := hq.ext e1
    have e3 : ([k].any id) = k := by simp
    rw [e3] at hq2
    exact vk.bl rel1 hq2
end
end Dl
namespace Dl
open PySem PySem.Spec PyProof.Rows L2
section
variable {G : GC} {c : CC} {F : Fx} {pf : PF} {pc : PC} {n : Nat} {X : Cx} {a b d e o' : Expr} {pos : Pos} {x y z : IE}
theorem no_super {e : Expr} {m : Str} {env : Env} (h : notSuper e = true) : attributeBase e m env (eval e env) = eval e env := by
  unfold attributeBase
  cases e <;> try rfl
  rename_i f args kws p
  cases f <;> try rfl
  rename_i id q
  cases args <;> try rfl
  cases kws <;> try rfl
  have h1 : (id != "super") = true := h
  simp only [h1, Bool.true_or, if_true]
theorem few_of {es : List Expr} {env : Env} {pos : Pos} (h : es.all notStar = true) (hl : es.length < 20) : ((backTo pos (starEach es env)).all (fun x => !x.1) && (backToKw pos (keywordEach [] env)).all (fun x => x.1.isSome)
      && decide (es.length + ([] : List Keyword).length + (if ([] : List Keyword).isEmpty then 0 else 1) < 30)) = true := by
  have h1 : (backTo pos (starEach es env)).all (fun x => !x.1) = true := by
    induction es with
    | nil => rfl
    | cons e es ih =>
      simp only [List.all_cons, Bool.and_eq_true] at h
      rw [star_of h.1]
      show (true && (backTo pos (starEach es env)).all (fun x => !x.1)) = true
      rw [ih h.2 (by simp only [List.length_cons] at hl; omega)]
      rfl
  rw [h1]
  have h2 : es.length + ([] : List Keyword).length + (if ([] : List Keyword).isEmpty then 0 else 1) < 30 := by
    show es.length + 0 + 0 < 30
    omega
  rw [decide_eq_true h2]
  rfl
/-! ### text methods -/
def rMt (K : PySem.W.Frag) : Mt → V → List V → Hp → VK → Prop
  | .join => fun x xs H Q => ∃ a p, ∃ ys : List Str, x = .str a ∧ xs = [.ref p] ∧ (SqL K H p (ys.map V.str) ∨ SqT K H p (ys.map V.str)) ∧ (ys.map (·.length)).sum + ys.length * a.length ≤ 16777216 ∧ Q (.str (Txt.join a ys)) H
  | .split => fun x xs H Q => ∃ a b, x = .str a ∧ xs = [.str b] ∧ (b.length == 0) = false ∧ a.length + 2 ≤ sizeLine ∧ rNewStrs (Txt.split a b) H Q
  | _ => fun _ _ _ _ => False
theorem pe_txt {m : Str} {k : Mt} {es : List Expr} {to : TE} {t : TA} {apos cpos : Pos} (hk : methods.lookup m = some k) (ht : isTxt k = true) (hs : (e :: es).all notStar = true) (hl : (e :: es).length < 20) (hn : notSuper o' = true) (hp : (apos.endLine == cpos.line) = true)
    (ho : PE X o' to) (ha : PA X (e :: es) t) : PE X (.Call (.Attribute o' m apos) (e :: es) [] cpos) (tBM X.K "str" (rMt X.K k) to t) := by
  have hmem := PySem.mem_of_lookup hk
  have hs' := hs
  simp only [List.all_cons, Bool.and_eq_true] at hs'
  simp only [methods, List.mem_cons, Prod.mk.injEq, List.not_mem_nil, or_false] at hmem
  rcases hmem with ⟨rfl, rfl⟩ | ⟨rfl, rfl⟩ | ⟨rfl, rfl⟩ | ⟨rfl, rfl⟩ | ⟨rfl, rfl⟩ | ⟨rfl, rfl⟩ | ⟨rfl, rfl⟩ <;> first
    | exact Bool.noConfusion (show false = true from ht)
    | exact pe_bm PySem.F.plainAttrs_str PySem.F.slot_str_join PySem.F.type_str_join mt_join ho ha (no_super hn) (few_of hs hl) hp (star_of hs'.1) (star_all hs'.2)
    | exact pe_bm PySem.F.plainAttrs_str PySem.F.slot_str_split PySem.F.type_str_split mt_split ho ha (no_super hn) (few_of hs hl) hp (star_of hs'.1) (star_all hs'.2)
theorem SOk.join {a : Str} {ss : List Str} (ha : SOk a) (hs : ∀ s ∈ ss, SOk s) (h : (ss.map (·.length)).sum + ss.length * a.length ≤ 16777216) : SOk (Txt.join a ss) := by
  have e : Txt.join a ss = Str.join a ss := StrLaws.glued_eq_join a ss
  rw [e]
  refine ⟨Nat.le_trans (StrLaws.join_length_le a ss) (by rw [sizeLine_eq]; exact h), fun c hc => ?_⟩
  rcases (mem_join a c ss).mp hc with ⟨t, ht, hc⟩ | ⟨_, hc⟩
  · exact (hs t ht).2 c hc
  · exact ha.2 c hc
theorem SOk.split {a b t : Str} (ha : SOk a) (ht : t ∈ Txt.split a b) : SOk t := by
  unfold Txt.split at ht
  by_cases h1 : (decide (a.length < b.length) || decide (Builtin.Str.strKind a < Builtin.Str.strKind b)) = true
  · rw [if_pos h1] at ht
    rw [List.mem_singleton.mp ht]
    exact ha
  · rw [if_neg h1] at ht
    by_cases h2 : (Builtin.Str.occurrences a b 0 a.length (a.length + 1)).isEmpty = true
    · rw [if_pos h2] at ht
      rw [List.mem_singleton.mp ht]
      exact ha
    · rw [if_neg h2] at ht
      have e := PySem.StrLaws.glued_between_self a b (a.length + 1)
      rw [StrLaws.glued_eq_join] at e
      have h3 := join_mem_le b _ t ht
      rw [e] at h3
      refine ⟨Nat.le_trans h3 ha.1, fun c hc => ha.2 c ?_⟩
      have h4 := (mem_join b c _).mpr (.inl ⟨t, ht, hc⟩)
      rw [e] at h4
      exact h4
theorem snd_mt {F : Fx} {W : Addr → Prop} {env : DEnv} {σ : L2.St} {H : Hp} {Q : VK} {k : Mt} {s : Str} {fr : Bool} {ds : List D} {vs : List V} (ht : isTxt k = true) {kk : Nat} (rel : Rel F.P kk F.W0 W F.H0 H env σ) (r : BArgs F W H ds vs) (hs : SOk s) (h : mtD k (.str s) ds (vk F kk W fr H Q)) : rMt F.P.K k (.str s) vs H Q := by
  cases k <;> try exact Bool.noConfusion (show false = true from ht)
  · unfold mtD at h
    split at h <;> rename_i e1 e2 <;> try exact h.elim
    all_goals try exact Mt.noConfusion e1
    cases e2
    obtain ⟨ss, rfl, hl, h⟩ := h
    obtain ⟨v, rfl, rx⟩ := r.one
    obtain ⟨p, xs, rfl, ha, hz, rl⟩ := rx.lst
    obtain ⟨rfl, s1⟩ := rl.strs
    exact ⟨_, p, ss, rfl, rfl, .inl (SqL.of ha), hl, vk.str rel h (hs.join s1 hl)⟩
  · unfold mtD at h
    split at h <;> rename_i e1 e2 <;> try exact h.elim
    all_goals try exact Mt.noConfusion e1
    cases e2
    obtain ⟨h1, h2, h⟩ := h
    obtain ⟨v, rfl, rx⟩ := r.one
    obtain ⟨rfl, s1⟩ := rx.str
    refine ⟨_, _, rfl, rfl, ?_, h2, fun p hp' => vk.lst rel h ?_ (RepL.of_strs fun t ht => hs.split ht) p hp'⟩
    · rw [beq_eq_false_iff_ne]; omega
    · rw [List.length_map]
      exact Nat.le_trans (PyProof.Rows.split_le _ _) h2
theorem snd_Txt {c1 c2 : Co} (o : XOk G c F pf pc n X) {m : Str} {k : Mt} {es : List Expr} {xs : IEs} {fr : Bool} {apos cpos : Pos} (hk : methods.lookup m = some k) (ht : isTxt k = true) (hs : (e :: es).all notStar = true) (hl : (e :: es).length < 20) (hn : notSuper o' = true) (hp : (apos.endLine == cpos.line) = true)
    (ho : PE X o' (tDB F c1 (bor x (wE pf pc x)))) (ha : PA X (e :: es) (tDBA F c2 (wBs pf pc xs))) : PE X (.Call (.Attribute o' m apos) (e :: es) [] cpos) (tD F fr (c1.comp c2) (wE pf pc (.mt k x xs))) := by
  refine PE.imp (pe_txt hk ht hs hl hn hp ho ha) fun σ H Q ⟨W, env, kk, rel, hw⟩ => ?_
  unfold wE at hw
  rw [o.K]
  refine goB o.mf o.mc rel hw (fun _ h => h) fun d v H1 ⟨hd1, hd2⟩ e1 rel1 r1 => ?_
  have hd : ∃ s, d = .str s := by
    cases k <;> cases d <;> first
      | exact ⟨_, rfl⟩
      | (simp [mtT] at hd1; done)
      | (simp [isTxt] at ht; done)
  obtain ⟨s, rfl⟩ := hd
  obtain ⟨rfl, s1⟩ := r1.str
  refine ⟨rfl, goBA o.mf o.mc rel1 hd2 (fun _ h => h.ext e1) fun ds vs H2 hds e2 rel2 hl r2 => ?_⟩
  exact snd_mt ht rel2 ⟨hl, r2⟩ s1 (mtD_mono (fun _ h => h.ext (e1.trans e2)) hds)

/-! ### d.get -/
theorem m1_of {m : Str} {apos cpos : Pos} (hn : notSuper o' = true) (hs : notStar e = true) (hp : (apos.endLine == cpos.line) = true) : M1 X o' m apos e cpos :=
  ⟨no_super hn, few_of (by simp [hs]) (by simp), hp, by rw [star_of hs]; rfl⟩
theorem m2_of {f : Expr} {m : Str} {apos cpos : Pos} (hn : notSuper o' = true) (hs : notStar e = true) (hf : notStar f = true) (hp : (apos.endLine == cpos.line) = true) : M2 X o' m apos e f cpos :=
  ⟨no_super hn, few_of (by simp [hs, hf]) (by simp), hp, by rw [star_of hs, star_of hf]; rfl⟩
theorem getD_rep {κ : Type} [DecidableEq κ] {P : Par} {W : Addr → Prop} {H : Hp} {kds : List (κ × D)} {kvs : List (κ × V)} {k : κ} {d : D} {v : V} (r : RepX P W H kds kvs) (q : Rep P W H d v) : Rep P W H ((lookD kds k).getD d) ((valV kvs k).getD v) := by
  have h := r.look k
  cases e : lookD kds k with
  | none => rw [e] at h; rw [h]; exact q
  | some x =>
    rw [e] at h
    obtain ⟨w, hw, rw'⟩ := h
    rw [hw]
    exact rw'
theorem getN_rep {κ : Type} [DecidableEq κ] {P : Par} {W : Addr → Prop} {H : Hp} {kds : List (κ × D)} {kvs : List (κ × V)} {k : κ} (r : RepX P W H kds kvs) : Rep P W H ((lookD kds k).getD .non) ((valV kvs k).getD .non) := getD_rep r (Rep.non.mpr rfl)
theorem get_road {W : Addr → Prop} {H : Hp} {K : DK} {d d2 d3 : D} {v v2 v3 : V} {Q : VK} (r1 : RepB F.P W H d v) (r2 : RepB F.P W H d2 v2) (r3 : Rep F.P W H d3 v3) (h : getDD d d2 d3 K) (hq : ∀ x u, K x → Rep F.P W H x u → Q u H) : ∃ a o, v = .ref a ∧ DGet H a v2 o ∧ Q (o.getD v3) H := by
  unfold getDD at h
  split at h
  · split at h
    · rename_i k ek
      obtain ⟨a, kvs, rfl, ha, _, rl⟩ := r1.dK
      exact ⟨a, _, rfl, .inl ⟨kvs, k, ha, keyD_val ek (r2.of_not (keyD_cont ek)), rfl⟩, hq _ _ h (getD_rep rl r3)⟩
    · exact h.elim
  · split at h
    · split at h
      · rename_i xs k ek
        obtain ⟨a, kvs, rfl, ha, _, rl⟩ := r1.dT
        obtain ⟨b, rfl, hb⟩ := key_tup ek r2
        exact ⟨a, _, rfl, .inr ⟨kvs, k, b, ha, rfl, hb, rfl⟩, hq _ _ h (getD_rep rl r3)⟩
      · exact h.elim
    · exact h.elim
  · exact h.elim
theorem isD_of {W : Addr → Prop} {H : Hp} {d : D} {v : V} (h : isDic d = true) (r : RepB F.P W H d v) : ∃ a, v = .ref a ∧ IsD H a := by
  cases d <;> first
    | cases h
    | skip
  · obtain ⟨a, kvs, rfl, ha, _, rl⟩ := r.dK
    exact ⟨a, rfl, .inl ⟨kvs, ha⟩⟩
  · obtain ⟨a, kvs, rfl, ha, _, rl⟩ := r.dT
    exact ⟨a, rfl, .inr ⟨kvs, ha⟩⟩
theorem snd_Get1 {c1 c2 : Co} (o : XOk G c F pf pc n X) {apos cpos : Pos} (hn : notSuper o' = true) (hs : notStar e = true) (hp : (apos.endLine == cpos.line) = true)
    (ho : PE X o' (tDB F c1 (bor x (wE pf pc x)))) (he : PE X e (tDB F c2 (bor y (wE pf pc y)))) : PE X (.Call (.Attribute o' "get" apos) [e] [] cpos) (tD F false (c1.comp c2) (wE pf pc (.get x y .none))) := by
  refine PE.imp (pe_dget1 (by have := o.units; omega) ho he (m1_of hn hs hp)) fun σ H Q ⟨W, env, kk, rel, hw⟩ => ?_
  unfold wE at hw
  refine goB o.mf o.mc rel hw (fun _ h => h) fun d v H1 ⟨hd1, hd2⟩ e1 rel1 r1 => ?_
  obtain ⟨a, rfl, ha⟩ := isD_of hd1 r1
  refine ⟨a, rfl, ha, ?_⟩
  refine goB o.mf o.mc rel1 hd2 (fun _ h => h.ext e1) fun d2 v2 H2 hd3 e2 rel2 r2 => ?_
  unfold wD at hd3
  obtain ⟨a', ov, ea, g, q⟩ := get_road (Q := Q) (r1.keep rel1 e2) r2 (Rep.non.mpr rfl) hd3 fun x u hx ru => vk.old rel2 (hx.ext (e1.trans e2)) ru rfl
  cases ea
  exact ⟨ov, g, q⟩
theorem snd_Get2 {c1 c2 c3 : Co} (o : XOk G c F pf pc n X) {f : Expr} {fr : Bool} {apos cpos : Pos} (hn : notSuper o' = true) (hs : notStar e = true) (hf : notStar f = true) (hp : (apos.endLine == cpos.line) = true)
    (ho : PE X o' (tDB F c1 (bor x (wE pf pc x)))) (he : PE X e (tDB F c2 (bor y (wE pf pc y)))) (hz' : PE X f (tD F fr c3 (wE pf pc z))) : PE X (.Call (.Attribute o' "get" apos) [e, f] [] cpos) (tD F false (c1.comp (c2.comp c3)) (wE pf pc (.get x y (.some z)))) := by
  refine PE.imp (pe_dget2 (by have := o.units; omega) ho he hz' (m2_of hn hs hf hp)) fun σ H Q ⟨W, env, kk, rel, hw⟩ => ?_
  unfold wE at hw
  refine goB o.mf o.mc rel hw (fun _ h => h) fun d v H1 ⟨hd1, hd2⟩ e1 rel1 r1 => ?_
  obtain ⟨a, rfl, ha⟩ := isD_of hd1 r1
  refine ⟨a, rfl, ha, ?_⟩
  refine goB o.mf o.mc rel1 hd2 (fun _ h => h.ext e1) fun d2 v2 H2 hd3 e2 rel2 r2 => ?_
  unfold wD at hd3
  refine goV o.mf o.mc rel2 hd3 (fun _ h => h.ext (e1.trans e2)) fun d3 v3 H3 hd4 e3 rel3 r3 _ => ?_
  obtain ⟨a', ov, ea, g, q⟩ := get_road (Q := Q) ((r1.keep rel1 e2).keep rel2 e3) (r2.keep rel2 e3) r3 hd4 fun x u hx ru => vk.old rel3 (hx.ext ((e1.trans e2).trans e3)) ru rfl
  cases ea
  exact ⟨ov, g, q⟩
/-! ### list(range(..)) -/
def rgV (a b c : Int) : List V := (List.range (Builtin.Range.rangeSize a b c).toNat).map fun i => V.int (a + (i : Nat) * c)
theorem rg_rep {P : Par} {W : Addr → Prop} {H : Hp} {a b c : Int} : RepL P W H (rangeD a b c) (Dl.rgV a b c) := by
  unfold rangeD Dl.rgV
  refine RepL.of (by simp) fun i d v h1 h2 => ?_
  rw [List.getElem?_map] at h1 h2
  cases e : (List.range (Builtin.Range.rangeSize a b c).toNat)[i]? with
  | none => rw [e] at h1; simp at h1
  | some j =>
    rw [e] at h1 h2
    simp at h1 h2
    subst h1 h2
    exact Rep.int.mpr rfl
theorem vals_rgC {a c : Int} {n : Nat} {acc : Array Value} (h : ItemsOf (fun i v => ∃ t, v = .int (a + i * c) t) acc n) : Vals ((List.range n).map fun i => V.int (a + (i : Nat) * c)) acc.toList := by
  have e : acc.toList.length = n := by rw [Array.length_toList]; exact h.1
  rw [← e]
  refine vals_of_get acc.toList _ fun j u hj => ?_
  obtain ⟨t, rfl⟩ := h.2 j u (by rw [← hj, Array.getElem?_toList])
  exact ⟨t, rfl⟩
def RgOkC (a b c : Int) : Prop := (c = 1 ∨ c = -1) ∧ small a ∧ small b ∧ (a - b).natAbs ≤ 100000
theorem RgOkC.facts {a b c : Int} (h : RgOkC a b c) : c ≠ 0 ∧ c.natAbs < 1073741824 ∧ Builtin.Range.small a b c = true ∧ Builtin.Range.rangeSize a b c = ((Builtin.Range.rangeSize a b c).toNat : Int) ∧ (Builtin.Range.rangeSize a b c).toNat ≤ 100000 := by
  obtain ⟨hc, ⟨a1, a2⟩, ⟨b1, b2⟩, hd⟩ := h
  rcases hc with rfl | rfl
  · refine ⟨by decide, by decide, small_one (by omega) (by omega) (by omega) (by omega), ?_, ?_⟩
    · rw [rangeSize_nat, Int.toNat_natCast]
    · rw [rangeSize_nat, Int.toNat_natCast]; omega
  · refine ⟨by decide, by decide, PySem.W.small_down (by omega) (by omega) (by omega) (by omega), ?_, ?_⟩
    · rw [PySem.W.rangeSize_downNat, Int.toNat_natCast]
    · rw [PySem.W.rangeSize_downNat, Int.toNat_natCast]; omega
def tLrg (ta tb tc : TE) : TE := fun σ H Q => ta σ H fun x H1 => tb σ H1 fun y H2 => tc σ H2 fun z H3 => ∃ i j k, x = .int i ∧ y = .int j ∧ z = .int k ∧ RgOkC i j k ∧ ∀ p, H3 p = none → Q (.ref p) (upd H3 p (.lst (Dl.rgV i j k)))
theorem list_of_range (hc : X.calm = true) {pins : List (Addr × Obj)} {σ : L2.St} {H : Hp} {s : Shared} {Q : VK} {r : Addr} {i j k : Int} {t u v : Tok} (I : Inv X pins σ H s) (hr : IsRange s.heap r i j k t u v) (ok : RgOkC i j k) (q : ∀ p, H p = none → Q (.ref p) (upd H p (.lst (Dl.rgV i j k)))) :
    wpAny (model X.prog X.w) X.A (call (.type "list") [.ref r]) (EP X pins σ Q) X.xe s := by
  obtain ⟨_, _, h1, h2, h3⟩ := ok.facts
  refine call_list_range (n := (Builtin.Range.rangeSize i j k).toNat) (I.ok.hd hc) hr h1 h2 (by omega) fun h' tk acc c' hk e' hi => ?_
  refine ⟨.ref s.heap.objs.size, upd H s.heap.objs.size (.lst (Dl.rgV i j k)), I.laid hk (Nat.le_refl _) (show ObjOk X.prog X.w _ _ _ (.lst (Dl.rgV i j k)) from ⟨?_, acc.toList, c', vals_rgC hi, ?_⟩), rfl, q _ (I.hok.fresh (Nat.le_refl _))⟩
  · unfold Dl.rgV
    rw [List.length_map, List.length_range, sizeLine_eq]; omega
  · rw [Array.toArray_toList]; exact e'
theorem pe_lrg1 {ta : TE} {p p2 pos pos2 : Pos} (hc : X.calm = true) (hg : Gl X "list") (hm : X.mg "list" = none) (hg2 : Gl X "range") (hm2 : X.mg "range" = none) (hs : notStar a = true) (ha : PE X a ta) :
    PE X (.Call (.Name "list" p) [.Call (.Name "range" p2) [a] [] pos2] [] pos) (tLrg (tC (.int 0)) ta (tC (.int 1))) := by
  refine ⟨fun pins s σ H Q I h => ?_⟩
  refine Call_ (ld_blt I hg hm boot_list (PyProof.Rows.callWith_type1 (args_cons ?_ rfl) rfl))
  refine Call_ (ld_blt I hg2 hm2 boot_range (PyProof.Rows.callWith_type1 (one_arg ha I h (fun v s2 x H2 I2 r q => ?_) (star_of hs)) (star_of hs)))
  obtain ⟨i, j, k, e1, rfl, e3, ok, q⟩ := q
  cases e1
  cases e3
  obtain ⟨t, rfl⟩ := r
  refine call_range_1 (args_nil ?_)
  exact list_of_range hc (I2.kept fun b u e => Heap.get?_push_of_some _ e) (IsRange.new _ _ _ _ _ _ _) ok q
theorem pe_lrg2 {ta tb : TE} {p p2 pos pos2 : Pos} (hc : X.calm = true) (hg : Gl X "list") (hm : X.mg "list" = none) (hg2 : Gl X "range") (hm2 : X.mg "range" = none) (hs : notStar a = true) (hs2 : notStar b = true) (ha : PE X a ta) (hb : PE X b tb) :
    PE X (.Call (.Name "list" p) [.Call (.Name "range" p2) [a, b] [] pos2] [] pos) (tLrg ta tb (tC (.int 1))) := by
  refine ⟨fun pins s σ H Q I h => ?_⟩
  refine Call_ (ld_blt I hg hm boot_list (PyProof.Rows.callWith_type1 (args_cons ?_ rfl) rfl))
  refine Call_ (ld_blt I hg2 hm2 boot_range (PyProof.Rows.callWith_type1 (args_cons (thn (ha.run pins s σ H _ I h) fun v s1 ⟨x, H1, I1, r1, q1⟩ => one_arg hb I1 q1 (fun u s2 y H2 I2 r2 q => ?_) (star_of hs2)) (star_of hs)) (star_of hs) (star_all (by simp [hs2]))))
  obtain ⟨i, j, k, rfl, rfl, e3, ok, q⟩ := q
  cases e3
  obtain ⟨t, rfl⟩ := r1
  obtain ⟨t', rfl⟩ := r2
  refine call_range_2 (args_nil ?_)
  exact list_of_range hc (I2.kept fun b u e => Heap.get?_push_of_some _ e) (IsRange.new _ _ _ _ _ _ _) ok q
theorem pe_lrg3 {ta tb td : TE} {p p2 pos pos2 : Pos} (hc : X.calm = true) (hg : Gl X "list") (hm : X.mg "list" = none) (hg2 : Gl X "range") (hm2 : X.mg "range" = none) (hs : notStar a = true) (hs2 : notStar b = true) (hs3 : notStar d = true) (ha : PE X a ta) (hb : PE X b tb) (hd : PE X d td) :
    PE X (.Call (.Name "list" p) [.Call (.Name "range" p2) [a, b, d] [] pos2] [] pos) (tLrg ta tb td) := by
  refine ⟨fun pins s σ H Q I h => ?_⟩
  refine Call_ (ld_blt I hg hm boot_list (PyProof.Rows.callWith_type1 (args_cons ?_ rfl) rfl))
  refine Call_ (ld_blt I hg2 hm2 boot_range (PyProof.Rows.callWith_type1 (args_cons (thn (ha.run pins s σ H _ I h) fun v s1 ⟨x, H1, I1, r1, q1⟩ => args_cons (thn (hb.run pins s1 σ H1 _ I1 q1) fun u s2 ⟨y, H2, I2, r2, q2⟩ => one_arg hd I2 q2 (fun u s3 z H3 I3 r3 q => ?_) (star_of hs3)) (star_of hs2)) (star_of hs)) (star_of hs) (star_all (by simp [hs2, hs3]))))
  obtain ⟨i, j, k, rfl, rfl, rfl, ok, q⟩ := q
  obtain ⟨t, rfl⟩ := r1
  obtain ⟨t', rfl⟩ := r2
  obtain ⟨t'', rfl⟩ := r3
  obtain ⟨h1, h2, _⟩ := ok.facts
  refine call_range_3 h1 (args_nil ?_) (.inl (PyProof.noPylong_small h2))
  exact list_of_range hc (I3.kept fun b u e => Heap.get?_push_of_some _ e) (IsRange.new _ _ _ _ _ _ _) ok q
end
end Dl
namespace Dl
open PySem PySem.Spec PyProof.Rows L2

/-! ### slots set and wiped -/
section
variable {P : Par} {k : Nat} {W0 W W' : Addr → Prop} {H0 : Sn} {H H' : Hp} {env : DEnv} {σ : L2.St}
theorem Rel.set (r : Rel P k W0 W H0 H env σ) (i : Nat) {d : D} {v : V} (q : Rep P W H d v) : Rel P k W0 W H0 H (env.set i (.val d)) (σ.set i (some v)) where
  len := by rw [List.length_set, List.length_set]; exact r.len
  val := fun j e h => by
    by_cases hj : i = j
    · subst hj
      rw [List.getElem?_set_self'] at h ⊢
      cases he : env[i]? with
      | none => rw [he] at h; simp at h
      | some x =>
        have hl : i < σ.length := by rw [← r.len]; exact (List.getElem?_eq_some_iff.mp he).1
        rw [he] at h
        simp at h
        subst h
        exact ⟨v, by rw [List.getElem?_eq_getElem hl]; rfl, q⟩
    · rw [List.getElem?_set_ne hj] at h ⊢
      exact r.val j e h
  own := fun j e h => by
    by_cases hj : i = j
    · subst hj
      rw [List.getElem?_set_self'] at h
      cases he : env[i]? with
      | none => rw [he] at h; simp at h
      | some x => rw [he] at h; simp at h
    · rw [List.getElem?_set_ne hj] at h ⊢
      exact r.own j e h
  apart := fun j k' e e' a h1 h2 h3 h4 => by
    by_cases hj : i = j
    · subst hj
      rw [List.getElem?_set_self'] at h1
      cases he : env[i]? with
      | none => rw [he] at h1; simp at h1
      | some x => rw [he] at h1; simp at h1
    · by_cases hk : i = k'
      · subst hk
        rw [List.getElem?_set_self'] at h2
        cases he : env[i]? with
        | none => rw [he] at h2; simp at h2
        | some x => rw [he] at h2; simp at h2
      · rw [List.getElem?_set_ne hj] at h1 h3
        rw [List.getElem?_set_ne hk] at h2 h4
        exact r.apart j k' e e' a h1 h2 h3 h4
  w0 := r.w0
  w00 := r.w00
  wk := r.wk
  dom0 := r.dom0
  old := r.old
  sub := r.sub
  strm := r.strm
  tw := r.tw
theorem wipeD_length (env : DEnv) : ∀ vs : List Nat, (wipeD env vs).length = env.length
  | [] => rfl
  | v :: vs => by unfold wipeD; rw [List.length_set, wipeD_length env vs]
theorem wipeD_some {env : DEnv} {i : Nat} {x : Sl} (hx : x ≠ .un) : ∀ {vs : List Nat}, (wipeD env vs)[i]? = some x → env[i]? = some x ∧ i ∉ vs
  | [], h => ⟨h, by simp⟩
  | v :: vs, h => by
    unfold wipeD at h
    by_cases hi : v = i
    · subst hi
      rw [List.getElem?_set_self'] at h
      cases he : (wipeD env vs)[v]? with
      | none => rw [he] at h; simp at h
      | some y =>
        rw [he] at h
        simp at h
        exact absurd h.symm hx
    · rw [List.getElem?_set_ne hi] at h
      obtain ⟨h1, h2⟩ := wipeD_some hx h
      exact ⟨h1, fun z => (List.mem_cons.mp z).elim (fun e => hi e.symm) h2⟩
theorem Rel.wipe (r : Rel P k W0 W H0 H env σ) (vs : List Nat) : Rel P k W0 W H0 H (wipeD env vs) (L2.wipe σ vs) where
  len := by rw [wipeD_length, wipe_length]; exact r.len
  val := fun j e h => by
    obtain ⟨h1, h2⟩ := wipeD_some (by simp) h
    obtain ⟨v, hv, q⟩ := r.val j e h1
    exact ⟨v, by rw [wipe_out h2]; exact hv, q⟩
  own := fun j e h => by
    obtain ⟨h1, h2⟩ := wipeD_some (by simp) h
    obtain ⟨a, hv, q⟩ := r.own j e h1
    exact ⟨a, by rw [wipe_out h2]; exact hv, q⟩
  apart := fun j k' e e' a h1 h2 h3 h4 => by
    obtain ⟨h1, m1⟩ := wipeD_some (by simp) h1
    obtain ⟨h2, m2⟩ := wipeD_some (by simp) h2
    rw [wipe_out m1] at h3
    rw [wipe_out m2] at h4
    exact r.apart j k' e e' a h1 h2 h3 h4
  w0 := r.w0
  w00 := r.w00
  wk := r.wk
  dom0 := r.dom0
  old := r.old
  sub := r.sub
  strm := r.strm
  tw := r.tw
/-- a list of ours, not a slot's, is written -/
theorem Rel.poke (r : Rel P k W0 W H0 H env σ) {L : Addr} {o u : HO} (hu : H L = some u) (hx : ∀ φ, u ≠ .ext φ) (ho : ∀ φ, o ≠ .ext φ) (hw : W L) (h0 : New P H0 L) (hs : ∀ (i : Nat) (d : D), env[i]? = some (.own d) → σ[i]? ≠ some (some (.ref L))) : Rel P k W0 W H0 (upd H L o) env σ := by
  have nT : ¬ P.T L := h0.1
  have fr : Fr W H (upd H L o) := fun a u n _ h => by
    have ne : a ≠ L := fun z => n (z ▸ hw)
    cases u <;> first
      | (show upd H L o a = _
         rw [upd_ne ne]; exact h)
      | (rcases h with h | ⟨o2, h⟩
         · exact .inl (by rw [upd_ne ne]; exact h)
         · exact .inr ⟨o2, by rw [upd_ne ne]; exact h⟩)
  have dm : ∀ a, H a ≠ none → upd H L o a ≠ none := fun a h => by
    by_cases ha : a = L
    · rw [ha, upd_same]; exact fun z => nomatch z
    · rw [upd_ne ha]; exact h
  exact
  { len := r.len
    val := fun i d h => let ⟨v, hv, q⟩ := r.val i d h; ⟨v, hv, Rep.frame fr (fun a h => .inl h) d v q⟩
    own := fun i d h => by
      obtain ⟨a, ha, w, n, q⟩ := r.own i d h
      have ne : a ≠ L := fun z => hs i d h (z ▸ ha)
      exact ⟨a, ha, w, n, q.frame fr (fun a h => .inl h) fun x hx => by rw [upd_ne ne]; exact hx⟩
    apart := r.apart
    w0 := r.w0
    w00 := r.w00
    wk := fun a h => by
      by_cases ha : a = L
      · exact ⟨o, by rw [ha, upd_same], ho⟩
      · obtain ⟨v, e1, e2⟩ := r.wk a h
        exact ⟨v, by rw [upd_ne ha]; exact e1, e2⟩
    dom0 := fun s hs a h => dm a (r.dom0 s hs a h)
    old := fun s hm a x n m h => by
      have ne : a ≠ L := fun z => by
        rw [z] at m h
        rcases h0.2 s hm with q | q
        · exact m q
        · rw [q] at h; cases h
      rw [upd_ne ne]
      exact r.old s hm a x n m h
    sub := r.sub
    strm := P.sokFr _ _ _ (fun a h => by rw [upd_ne (fun z : a = L => nT (z ▸ h))]) (codeS hu hx) r.strm
    tw := r.tw }
end
/-! ### what is set outside -/
def Same (vs : List Nat) (σ σ2 : L2.St) : Prop := σ2.length = σ.length ∧ ∀ i, i ∉ vs → σ2[i]? = σ[i]?
theorem Same.refl (vs : List Nat) (σ : L2.St) : Same vs σ σ := ⟨rfl, fun _ _ => rfl⟩
theorem wipe_in {σ : L2.St} {i : Nat} : ∀ {vs : List Nat}, i ∈ vs → (L2.wipe σ vs)[i]? = if i < σ.length then some none else none
  | v :: vs, h => by
    unfold L2.wipe
    by_cases hv : v = i
    · subst hv
      rw [List.getElem?_set_self']
      by_cases hl : v < σ.length
      · rw [if_pos hl]
        have : v < (L2.wipe σ vs).length := by rw [wipe_length]; exact hl
        rw [List.getElem?_eq_getElem this]
        rfl
      · rw [if_neg hl]
        have : (L2.wipe σ vs)[v]? = none := by rw [List.getElem?_eq_none_iff, wipe_length]; omega
        rw [this]
        rfl
    · rw [List.getElem?_set_ne hv]
      exact wipe_in ((List.mem_cons.mp h).resolve_left fun e => hv e.symm)
theorem Same.wipe {vs : List Nat} {σ σ2 : L2.St} (h : Same vs σ σ2) : L2.wipe σ2 vs = L2.wipe σ vs := by
  apply List.ext_getElem?
  intro i
  by_cases hi : i ∈ vs
  · rw [wipe_in hi, wipe_in hi, h.1]
  · rw [wipe_out hi, wipe_out hi, h.2 i hi]
/-! ### targets -/
section
variable {G : GC} {c : CC} {F : Fx} {pf : PF} {pc : PC} {n : Nat} {X : Cx}
def gD (F : Fx) (it : IT) : TG := fun x σ H Q => ∃ W env k d env1, Rel F.P k F.W0 W F.H0 H env σ ∧ Rep F.P W H d x ∧ asg it d env = some env1 ∧ ∀ σ2, Rel F.P k F.W0 W F.H0 H env1 σ2 → Same (ownOfT it) σ σ2 → Q σ2 H
def gDs (F : Fx) (its : List IT) : TGs := fun xs σ H Q => ∃ W env k ds env1, Rel F.P k F.W0 W F.H0 H env σ ∧ RepL F.P W H ds xs ∧ asgL its ds env = some env1 ∧ ∀ σ2, Rel F.P k F.W0 W F.H0 H env1 σ2 → Same (ownOfT.ownOfTs its) σ σ2 → Q σ2 H
theorem PG.imp {e : Expr} {t t' : TG} (h : PG X e t) (i : ∀ v σ H Q, t' v σ H Q → t v σ H Q) : PG X e t' := ⟨fun pins s σ H v u Q I r hw => h.run pins s σ H v u Q I r (i _ _ _ _ hw)⟩
theorem PGs.imp {e : List Expr} {t t' : TGs} (h : PGs X e t) (i : ∀ v σ H Q, t' v σ H Q → t v σ H Q) : PGs X e t' := ⟨fun pins s σ H v u Q I r hw => h.run pins s σ H v u Q I r (i _ _ _ _ hw)⟩
theorem assign_star {e : Expr} {es : List Expr} {env : Env} (h : notStar e = true) : assignEach (e :: es) env = (false, assign e env) :: assignEach es env := by
  cases e <;> first
    | rfl
    | cases h
theorem slot_fact {c : CC} {x : Str} {i : Nat} (o : XOk G c F pf pc n X) (h : slotFrom x c.N 0 = some i) : X.N[i]? = some x := by
  obtain ⟨h1, h2⟩ := slotFrom_get h
  rw [o.N]
  exact h2
theorem asgL_len : ∀ {its : List IT} {ds : List D} {env env1 : DEnv}, asgL its ds env = some env1 → its.length = ds.length
  | [], [], _, _, _ => rfl
  | [], d :: ds, _, _, h => by unfold asgL at h; cases h
  | t :: ts, [], _, _, h => by unfold asgL at h; cases h
  | t :: ts, d :: ds, env, env1, h => by
    unfold asgL at h
    obtain ⟨e, h1, h2⟩ := Option.bind_eq_some_iff.mp h
    rw [List.length_cons, List.length_cons, asgL_len h2]
mutual
theorem snd_T (o : XOk G c F pf pc n X) : ∀ (f : Nat) (e : Expr) (it : IT), cT c f e = some it → PG X e (gD F it)
  | 0, e, it, h => by unfold cT at h; cases h
  | f + 1, e, it, h => by
    cases e with
    | Name x p =>
      unfold cT at h
      have key : ∀ i, X.N[i]? = some x → L2.Loc X.env.scope x → (X.fn x = true ∨ X.env.scope.names.lookup x = some .local) → PG X (.Name x p) (gD F (.nm i)) := fun i hi hl hf =>
        PG.imp (pg_name o.nd hi hl hf) fun v σ H Q ⟨W, env, kk, d, env1, rel, r, ha, hq⟩ => by
          unfold asg at ha
          cases ha
          refine hq _ (rel.set i r) ⟨List.length_set .., fun j hj => ?_⟩
          have : i ≠ j := fun e => hj (by unfold ownOfT; rw [e]; exact List.mem_singleton_self _)
          rw [List.getElem?_set_ne this]
      split at h
      · rename_i e1
        split at h
        · obtain ⟨i, hi, rfl⟩ := Option.map_eq_some_iff.mp h
          exact key i (slot_fact o hi) (.inl (by rw [o.sc]; exact e1)) (.inr (by rw [o.sc]; exact e1))
        · cases h
      · rename_i e1
        split at h
        · rename_i q
          rw [Bool.and_eq_true] at q
          obtain ⟨i, hi, rfl⟩ := Option.map_eq_some_iff.mp h
          exact key i (slot_fact o hi) (.inr (by rw [o.sc]; exact e1)) (.inl (by rw [o.fn]; exact q.2))
        · cases h
      · cases h
    | Tuple es k p =>
      unfold cT at h
      obtain ⟨its, h1, rfl⟩ := Option.map_eq_some_iff.mp h
      obtain ⟨hp, hn, hst, hl⟩ := snd_Ts o f es its h1
      refine PG.imp (pg_tup (n := es.length) o.calm hp hn hst) fun v σ H Q ⟨W, env, kk, d, env1, rel, r, ha, hq⟩ => ?_
      cases d <;> (unfold asg at ha; try cases ha)
      obtain ⟨a, xs, rfl, nw, hx, hz, rl⟩ := Rep.tup.mp r
      have hlen := asgL_len ha
      refine ⟨a, xs, rfl, SqT.of hx, by rw [← rl.len, ← hlen, hl], W, env, kk, _, env1, rel, rl, ha, fun σ2 r2 s2 => hq σ2 r2 ?_⟩
      unfold ownOfT
      exact s2
    | _ => unfold cT at h; cases h
termination_by f => (f, 0)
theorem snd_Ts (o : XOk G c F pf pc n X) : ∀ (f : Nat) (es : List Expr) (its : List IT), cT.cTs c f es = some its → PGs X es (gDs F its) ∧ (assignEach es X.env).length = es.length ∧ (assignEach es X.env).findIdx? (·.1) = none ∧ its.length = es.length
  | f, [], its, h => by
    unfold cT.cTs at h
    cases h
    refine ⟨PGs.imp pgs_nil fun vs σ H Q ⟨W, env, kk, ds, env1, rel, r, ha, hq⟩ => ?_, rfl, rfl, rfl⟩
    cases ds with
    | nil =>
      unfold asgL at ha
      cases ha
      exact ⟨RepL.nil_iff.mp r, hq σ rel (Same.refl _ _)⟩
    | cons d ds => unfold asgL at ha; cases ha
  | f, e :: es, its, h => by
    unfold cT.cTs at h
    split at h
    · rename_i hs
      obtain ⟨t, h1, h2⟩ := Option.bind_eq_some_iff.mp h
      obtain ⟨ts, h3, rfl⟩ := Option.map_eq_some_iff.mp h2
      have p1 := snd_T o f e t h1
      obtain ⟨p2, a1, a2, a3⟩ := snd_Ts o f es ts h3
      refine ⟨PGs.imp (pgs_cons p1 p2 (by rw [assign_star hs]; rfl)) fun vs σ H Q ⟨W, env, kk, ds, env1, rel, r, ha, hq⟩ => ?_, ?_, ?_, ?_⟩
      · cases ds with
        | nil => unfold asgL at ha; cases ha
        | cons d ds =>
          unfold asgL at ha
          obtain ⟨e1, ha1, ha2⟩ := Option.bind_eq_some_iff.mp ha
          obtain ⟨x, xr, rfl, r1, r2⟩ := RepL.cons_iff.mp r
          refine ⟨x, xr, rfl, W, env, kk, d, e1, rel, r1, ha1, fun σ2 rel2 s2 => ⟨W, e1, kk, ds, env1, rel2, r2, ha2, fun σ3 rel3 s3 => hq σ3 rel3 ⟨by rw [s3.1, s2.1], fun i hi => ?_⟩⟩⟩
          have hi' : i ∉ ownOfT t ∧ i ∉ ownOfT.ownOfTs ts := by
            unfold ownOfT.ownOfTs at hi
            exact ⟨fun z => hi (List.mem_append_left _ z), fun z => hi (List.mem_append_right _ z)⟩
          rw [s3.2 i hi'.2, s2.2 i hi'.1]
      · rw [assign_star hs, List.length_cons, a1, List.length_cons]
      · rw [assign_star hs, List.findIdx?_cons]
        simp [a2]
      · rw [List.length_cons, a3, List.length_cons]
    · cases h
termination_by f es => (f, 1 + sizeOf es)
end
end
end Dl
namespace Dl
open PySem PySem.Spec PyProof.Rows L2
section
variable {G : GC} {c : CC} {F : Fx} {pf : PF} {pc : PC} {n : Nat} {X : Cx} {a b d e : Expr} {pos : Pos} {x y z : IE}
def Mm (F : Fx) (m : Bool) (W : Addr → Prop) : Addr → Prop := if m = true then F.P.T else W
/-- a source -/
def tDI (F : Fx) (m : Bool) (co : Co) (w : DEnv → (List D → Prop) → EK → Prop) : TI := fun σ H R => ∃ W env k, Rel F.P (co.f k) F.W0 W F.H0 H env σ ∧ w env (fun ds => ∀ J H', Ext F.P k H H' → Src F.P W (Mm F m W) H' J ds → R J H') (xk F k W σ H)
def tDC (F : Fx) (co : Co) (w : DEnv → (Bool → Prop) → Prop) : TT := fun σ H Q => ∃ W env k, Rel F.P (co.f k) F.W0 W F.H0 H env σ ∧ w env (fun b => ∀ H', Ext F.P k H H' → Q b H')
/-- in a block: nothing is raised; whatever the entry's heap -/
def noX (F : Fx) (H0 : Sn) : Fx := { F with H0 := H0, Wx := fun _ _ _ _ => False }
def gE (F : Fx) (it : IT) : TG := fun v σ H Q => ∃ H0, gD (noX F H0) it v σ H Q
def tCE (F : Fx) (co : Co) (w : DEnv → (Bool → Prop) → Prop) : TT := fun σ H Q => ∃ H0, tDC (noX F H0) co w σ H Q
def tEE (F : Fx) (fr : Bool) (co : Co) (w : WT) : TE := fun σ H Q => ∃ H0, tD (noX F H0) fr co w σ H Q
/-! ### the turns of a comprehension -/
theorem lc_run (o : XOk G c F pf pc n X) {J : It} {ds : List D} {W : Addr → Prop} {H1 : Hp} {env : DEnv} {σ : L2.St} {tg : IT} {ci : IO} {Q : VK} {K : DK} {own : List Nat} {fr : Bool} {k : Nat} {cc cx : Co} {j : Nat → Nat} (hj : ∀ i, i < ds.length → j i = cc.f (cx.f (j (i + 1)))) (hk : k ≤ j ds.length) (hown : own = ownOfT tg)
    (rel : Rel F.P (j 0) F.W0 W F.H0 H1 env σ) (src : Src F.P W F.P.T H1 J ds) (h : lcLoop (fun d e => asg tg d e) (fun e k => wC pf pc ci e k) (fun e k => wE pf pc x e k fun _ => False) (wipeD env own) K ds [])
    (hq : ∀ acc accV L H', Ext F.P k H1 H' → K (.lst acc) → H1 L = none → H' L = some (.lst accV) → accV.length ≤ sizeLine → RepL F.P (fun a => W a ∨ a = L) H' acc accV → Q (.ref L) H') :
    ∀ L, H1 L = none → ∃ Wt : Nat → Nat → Hp → Prop, (∃ m, Wt 0 m (upd H1 L (.lst []))) ∧ ∀ i m H, Wt i m H →
      (J.stop i H ∧ Q (.ref L) H) ∨ (J.go i H ∧ ∃ Nx : Hp → Prop, (∀ H', Nx H' → ∃ m', m' < m ∧ Wt (i + 1) m' H') ∧ ∀ v H', J.yld i H v H' → gE F tg v (wipe σ own) H' fun σ2 H2 => wipe σ2 own = wipe σ own ∧ tCE F cc (wC pf pc ci) σ2 H2 fun b H3 =>
        if b = true then tEE F fr cx (wE pf pc x) σ2 H3 fun y H4 => ∃ acc, H4 L = some (.lst acc) ∧ acc.length < sizeLine ∧ Nx (upd H4 L (.lst (acc ++ [y]))) else Nx H3) := by
  intro L hL
  have nW : ¬ W L := rel.newW hL
  have h0L : New F.P F.H0 L := rel.newN hL
  have nT : ¬ F.P.T L := h0L.1
  have hsl : ∀ (i : Nat) (d : D), (wipeD env own)[i]? = some (.own d) → (wipe σ own)[i]? ≠ some (some (.ref L)) := fun i d hd z => by
    obtain ⟨a, ha, w, n0, q⟩ := (rel.wipe own).own i d hd
    rw [ha] at z
    cases z
    exact nW w
  let S : Nat → Nat → Hp → Prop := fun i m H => m = ds.length - i ∧ i ≤ ds.length ∧ ∃ acc accV, Rel F.P (j i) F.W0 (fun a => W a ∨ a = L) F.H0 H (wipeD env own) (wipe σ own) ∧ Ext F.P (j i) H1 H ∧ H L = some (.lst accV) ∧ accV.length ≤ i ∧
    RepL F.P (fun a => W a ∨ a = L) H acc accV ∧ lcLoop (fun d e => asg tg d e) (fun e k => wC pf pc ci e k) (fun e k => wE pf pc x e k fun _ => False) (wipeD env own) K (ds.drop i) acc
  refine ⟨S, ⟨ds.length, (by simp), Nat.zero_le _, [], [], ?_, rel.extNew hL, upd_same, Nat.zero_le _, RepL.nil_iff.mpr rfl, by rw [List.drop_zero]; exact h⟩, ?_⟩
  · exact (rel.wipe own).more hL (rel.extNew hL) ⟨_, upd_same, fun _ z => nomatch z⟩
  rintro i m H ⟨rfl, hi, acc, accV, relH, eH, hLv, hlen, racc, hloop⟩
  by_cases hlt : i < ds.length
  · obtain ⟨d, hd⟩ : ∃ d, ds[i]? = some d := ⟨ds[i], List.getElem?_eq_getElem hlt⟩
    obtain ⟨go, yld⟩ := src.turn i d H hd eH.keep
    refine .inr ⟨go, fun H' => S (i + 1) (ds.length - (i + 1)) H', fun H' s => ⟨_, by omega, s⟩, fun v H' hy => ?_⟩
    obtain ⟨hH', hrep⟩ := yld v H' hy
    have ej := hj i hlt
    rw [ej] at relH eH
    have eH' : Ext F.P (cc.f (cx.f (j (i + 1)))) H H' := by
      rcases hH' with e | ⟨p, ob, hp, e⟩
      · rw [e]; exact Ext.refl relH.strm
      · rw [e]; exact relH.extNew hp
    have rv : Rep F.P (fun a => W a ∨ a = L) H' d v := hrep _ (rel.fr eH) fun a ha => ha.elim (fun w => ⟨.inl w, eH.dom a (rel.dom a w)⟩) fun e => ⟨.inr (e ▸ hL), by rw [e, hLv]; exact fun z => nomatch z⟩
    rw [show ds.drop i = d :: ds.drop (i + 1) by rw [List.drop_eq_getElem_cons hlt]; congr 1; rw [List.getElem?_eq_getElem hlt] at hd; exact Option.some.inj hd] at hloop
    obtain ⟨env1, ha, hc⟩ := hloop
    have relH' := relH.ext eH'
    refine ⟨F.H0, _, wipeD env own, _, d, env1, relH', rv, ha, fun σ2 rel2 s2 => ⟨?_, F.H0, _, env1, _, rel2, ?_⟩⟩
    · subst hown
      have e2 := s2.wipe
      rw [e2]
      -- wiping twice
      apply List.ext_getElem?
      intro jj
      by_cases hjj : jj ∈ ownOfT tg
      · rw [wipe_in hjj, wipe_in hjj, wipe_length]
      · rw [wipe_out hjj]
    · -- the step's end
      have fin : ∀ {H3 : Hp} {acc' accV'}, Ext F.P (j (i + 1)) H' H3 → acc'.length ≤ 1 → RepL F.P (fun a => W a ∨ a = L) H3 acc' accV' →
          lcLoop (fun d e => asg tg d e) (fun e k => wC pf pc ci e k) (fun e k => wE pf pc x e k fun _ => False) (wipeD env own) K (ds.drop (i + 1)) (acc ++ acc') → S (i + 1) (ds.length - (i + 1)) (upd H3 L (.lst (accV ++ accV'))) := fun {H3 acc' accV'} e3 hl r3 hlp => by
        have e13 := eH'.trans e3
        have hL3 : H3 L = some (.lst accV) := e13.keep L _ nT hLv
        have relp := (relH.ext e13).poke (L := L) (o := .lst (accV ++ accV')) hL3 (fun _ z => nomatch z) (fun _ z => nomatch z) (.inr rfl) h0L hsl
        have fr3 : Fr (fun a => W a ∨ a = L) H3 (upd H3 L (.lst (accV ++ accV'))) := fun a u nn _ hh => by
          have ne : a ≠ L := fun z => nn (.inr z)
          cases u <;> first
            | (show upd H3 L _ a = _
               rw [upd_ne ne]; exact hh)
            | (rcases hh with hh | ⟨o2, hh⟩
               · exact .inl (by rw [upd_ne ne]; exact hh)
               · exact .inr ⟨o2, by rw [upd_ne ne]; exact hh⟩)
        refine ⟨rfl, hlt, acc ++ acc', accV ++ accV', relp, ⟨fun a ob na hob => ?_, relp.strm, fun a ha => ?_⟩, upd_same, ?_, ?_, hlp⟩
        · have ne : a ≠ L := fun z => by rw [z, hL] at hob; cases hob
          rw [upd_ne ne]
          exact (eH.trans e13).keep a ob na hob
        · by_cases hz : a = L
          · rw [hz, upd_same]; exact fun z => nomatch z
          · rw [upd_ne hz]; exact (eH.trans e13).dom a ha
        · rw [List.length_append, ← r3.len]; omega
        · exact RepL.frame fr3 (fun a h => .inl h) _ _ (RepL.app (racc.keep relH e13) r3)
      refine wC_mono o.mf o.mc ci env1 _ _ (fun b hb H3 e3 => ?_) hc
      cases b with
      | false =>
        rw [if_neg (by decide)] at hb ⊢
        have s := fin (H3 := H3) (acc' := []) (accV' := []) (e3.le (cx.le _)) (Nat.zero_le _) (RepL.nil_iff.mpr rfl) (by rw [List.append_nil]; exact hb)
        rw [List.append_nil] at s
        have hL3 : H3 L = some (.lst accV) := (eH'.trans e3).keep L _ nT hLv
        have eu : upd H3 L (.lst accV) = H3 := by
          funext a
          by_cases hz : a = L
          · rw [hz, upd_same, hL3]
          · rw [upd_ne hz]
        rw [eu] at s
        exact s
      | true =>
        rw [if_pos rfl] at hb ⊢
        have rel3 := rel2.ext e3
        refine ⟨F.H0, _, env1, _, rel3, wE_mono o.mf o.mc x env1 _ _ _ _ (fun y hy yv H4 e4 ry _ => ?_) (fun _ z => z.elim) hb⟩
        have e34 := e3.trans e4
        refine ⟨accV, (eH'.trans e34).keep L _ nT hLv, Nat.lt_of_le_of_lt hlen (Nat.lt_of_lt_of_le hlt src.len), ?_⟩
        exact fin (H3 := H4) (acc' := [y]) (accV' := [yv]) e34 (Nat.le_refl _) (RepL.one ry) hy
  · have ei : i = ds.length := by omega
    subst ei
    refine .inl ⟨src.stop H eH.keep, ?_⟩
    rw [List.drop_length] at hloop
    exact hq acc accV L H (eH.le hk) hloop hL hLv (Nat.le_trans hlen src.len) racc
end
end Dl
namespace Dl
open PySem PySem.Spec PyProof.Rows L2
section
variable {G : GC} {c : CC} {F : Fx} {pf : PF} {pc : PC} {n : Nat} {X : Cx} {a b d e tg : Expr} {pos : Pos} {x y z : IE}
theorem wE_cn {d : D} {env : DEnv} {Q : DK} {E : EK} : wE pf pc (.cn d) env Q E = Q d := by unfold wE; rfl
theorem PI.imp {X : Cx} {tg e : Expr} {t t' : TI} (h : PI X tg e t) (i : ∀ σ H R, t' σ H R → t σ H R) : PI X tg e t' := ⟨fun pins s σ H R I hw => h.run pins s σ H R I (i _ _ _ hw)⟩
theorem PE.orr {X : Cx} {e : Expr} {t t' : TE} (h : PE X e t) (h' : PE X e t') : PE X e (fun σ H Q => t σ H Q ∨ t' σ H Q) := ⟨fun pins s σ H Q I hw => hw.elim (h.run pins s σ H Q I) (h'.run pins s σ H Q I)⟩
/-- what a source part may be: borrowed or not -/
def tDM (F : Fx) (m : Bool) (co : Co) (w : WT) : TE := match m with
  | true => tDB F co w
  | false => tD F false co w
theorem goM {k0 : Nat} {k : Nat} {co : Co} (mf : PFM pf pf) (mc : PCM pc pc) {m : Bool} {a : IE} {W : Addr → Prop} {env : DEnv} {σ : L2.St} {H : Hp} {K : DK} {E : EK} {R : VK} (rel : Rel F.P (co.f k) F.W0 W F.H0 H env σ) (h : borM m a (wE pf pc a) env K E) (hE : ∀ x, E x → xk F k0 W σ H x)
    (hk : ∀ x v H1, K x → Ext F.P k H H1 → Rel F.P k F.W0 W F.H0 H1 env σ → RepM F.P W (Mm F m W) H1 x v → R v H1) (hk0 : k0 ≤ k := by first | exact Nat.le_refl _ | exact Co.le _ _ | exact Nat.le_trans (Co.le _ _) (Co.le _ _) | exact Nat.le_trans (Nat.le_trans (Co.le _ _) (Co.le _ _)) (Co.le _ _)) : tDM F m co (borM m a (wE pf pc a)) σ H R := by
  cases m with
  | true => exact goB mf mc rel h hE (fun x v H1 hx e rel1 r => hk x v H1 hx e rel1 (RepM.ofB r fun a ha => rel1.w0 _ (rel1.tw a ha))) hk0
  | false => exact goV mf mc rel h hE (fun x v H1 hx e rel1 r _ => hk x v H1 hx e rel1 (RepM.of r fun a ha => ha)) hk0
theorem RepM.keep {j k : Nat} {W : Addr → Prop} {env : DEnv} {σ : L2.St} {H H' : Hp} {m : Bool} {d : D} {v : V} (rel : Rel F.P j F.W0 W F.H0 H env σ) (e : Ext F.P k H H') (r : RepM F.P W (Mm F m W) H d v) : RepM F.P W (Mm F m W) H' d v := by
  rcases r with ⟨r, h⟩ | ⟨a, ev, n, o⟩
  · exact .inl ⟨r.keep rel e, h⟩
  · refine .inr ⟨a, ev, n, o.frame (rel.fr e) (fun a h => .inl h) fun q => e.keep a q (fun z => n ?_)⟩
    unfold Mm
    split
    · exact z
    · exact rel.w0 _ (rel.tw a z)
theorem onItems_some {x : D} {K : List D → Prop} (h : onItems x K) : ∃ ds, itemsD x = some ds ∧ K ds := by
  unfold onItems at h
  split at h
  · exact ⟨_, by assumption, h⟩
  · exact h.elim
theorem FS.ln1 {P : Par} {W M : Addr → Prop} {H1 : Hp} {k : Kd} {ds : List D} (f : FS P W M H1 k ds) : k.ln H1 ds.length := f.ln H1 (Keep.refl _ _)
theorem src_Val {c1 : Co} (o : XOk G c F pf pc n X) {m : Bool} (ha : PE X a (tDM F m c1 (borM m x (wE pf pc x)))) : PI X tg a (tDI F m c1 (wSrc pf pc m (.val x))) := by
  refine PI.imp (pi_va ha) fun σ H R ⟨W, env, kx, rel, hw⟩ => ?_
  unfold wSrc at hw
  refine goM o.mf o.mc rel hw (fun _ h => h) fun d v H1 hd e1 rel1 r1 => ?_
  obtain ⟨ds, hi, hK⟩ := onItems_some hd
  obtain ⟨k, rfl, f⟩ := fs_of r1 hi
  exact ⟨k, ds.length, rfl, f.ln1, hK _ H1 e1 (by rw [o.K]; exact src_va f)⟩
theorem args1 {c1 : Co} (h : PE X a (tDM F m c1 (borM m x (wE pf pc x)))) (hs : notStar a = true) : PA X [a] (tCons (tDM F m c1 (borM m x (wE pf pc x))) tNil) := pa_cons h pa_nil (star_of hs)
theorem src_En0 {c1 : Co} (o : XOk G c F pf pc n X) {m : Bool} {p q : Pos} {elts : List Expr} {kk : Nat} (hG : ∀ x ∈ bltNames, G.fns.lookup x = none) (hg : isGl c "enumerate" = true) (hs : notStar a = true) (ha : PE X a (tDM F m c1 (borM m x (wE pf pc x)))) :
    PI X (.Tuple elts kk q) (.Call (.Name "enumerate" p) [a] [] pos) (tDI F m c1 (wSrc pf pc m (.enum x 0))) := by
  obtain ⟨g1, g2, g3⟩ := isGl_ok o hg
  have hm : X.mg "enumerate" = none := o.blt _ (by decide +kernel) (hG _ (by decide +kernel))
  refine PI.imp (pi_en0 g1 hm (args1 ha hs) (star_of hs)) fun σ H R ⟨W, env, kx, rel, hw⟩ => ?_
  unfold wSrc at hw
  refine goM o.mf o.mc rel hw (fun _ h => h) fun d v H1 hd e1 rel1 r1 => ?_
  obtain ⟨ds, hi, h1, hK⟩ := onItems_some hd
  obtain ⟨k, rfl, f⟩ := fs_of r1 hi
  exact ⟨k, ds.length, rfl, f.ln1, hK _ H1 e1 (src_en f)⟩
theorem src_En {c1 : Co} (o : XOk G c F pf pc n X) {m : Bool} {p q cp : Pos} {elts : List Expr} {kk j : Nat} {k0 : Int} (h0 : -(2 ^ 63) ≤ k0) (h1' : k0 < 2 ^ 63) (hG : ∀ x ∈ bltNames, G.fns.lookup x = none) (hg : isGl c "enumerate" = true) (hs : notStar a = true) (ha : PE X a (tDM F m c1 (borM m x (wE pf pc x)))) :
    PI X (.Tuple elts kk q) (.Call (.Name "enumerate" p) [a, .Constant (.int k0) j cp] [] pos) (tDI F m c1 (wSrc pf pc m (.enum x k0))) := by
  obtain ⟨g1, g2, g3⟩ := isGl_ok o hg
  have hm : X.mg "enumerate" = none := o.blt _ (by decide +kernel) (hG _ (by decide +kernel))
  refine PI.imp (pi_en h0 h1' g1 hm (pa_cons ha (pa_cons pe_int pa_nil rfl) (star_of hs)) (star_of hs)) fun σ H R ⟨W, env, kx, rel, hw⟩ => ?_
  unfold wSrc at hw
  refine goM o.mf o.mc rel hw (fun _ h => h) fun d v H1 hd e1 rel1 r1 => ?_
  obtain ⟨ds, hi, h1, hK⟩ := onItems_some hd
  obtain ⟨k, rfl, f⟩ := fs_of r1 hi
  exact ⟨k, ds.length, rfl, f.ln1, hK _ H1 e1 (src_en f)⟩
theorem src_Zip {c1 c2 : Co} (o : XOk G c F pf pc n X) {m : Bool} {p q : Pos} {elts : List Expr} {kk : Nat} (hG : ∀ x ∈ bltNames, G.fns.lookup x = none) (hg : isGl c "zip" = true) (hs : notStar a = true) (hs2 : notStar b = true) (ha : PE X a (tDM F m c1 (borM m x (wE pf pc x)))) (hb : PE X b (tDM F m c2 (borM m y (wE pf pc y)))) :
    PI X (.Tuple elts kk q) (.Call (.Name "zip" p) [a, b] [] pos) (tDI F m (c1.comp c2) (wSrc pf pc m (.zip x y))) := by
  obtain ⟨g1, g2, g3⟩ := isGl_ok o hg
  have hm : X.mg "zip" = none := o.blt _ (by decide +kernel) (hG _ (by decide +kernel))
  refine PI.imp (pi_zi g1 hm (pa_cons ha (pa_cons hb pa_nil (star_of hs2)) (star_of hs)) (star_of hs) (star_all (by simp [hs2]))) fun σ H R ⟨W, env, kx, rel, hw⟩ => ?_
  unfold wSrc at hw
  refine goM o.mf o.mc rel hw (fun _ h => h) fun d v H1 hd e1 rel1 r1 => goM o.mf o.mc rel1 hd (fun _ h => h.ext e1) fun d2 v2 H2 hd2 e2 rel2 r2 => ?_
  obtain ⟨ds, hi, hK⟩ := onItems_some hd2
  obtain ⟨es, hi2, hK⟩ := onItems_some hK
  obtain ⟨k, rfl, f⟩ := fs_of (r1.keep rel1 e2) hi
  obtain ⟨k2, rfl, f2⟩ := fs_of r2 hi2
  exact ⟨k, k2, ds.length, es.length, rfl, f.ln1, f2.ln1, hK _ H2 (e1.trans e2) (src_zi f f2)⟩
theorem rangeD_len {a b c : Int} (h : RgOkC a b c) : (rangeD a b c).length ≤ sizeLine := by
  obtain ⟨_, _, _, _, h5⟩ := h.facts
  unfold rangeD
  rw [List.length_map, List.length_range, sizeLine_eq]
  omega
theorem src_Rg1 {c1 : Co} (o : XOk G c F pf pc n X) {m : Bool} {p : Pos} (hG : ∀ x ∈ bltNames, G.fns.lookup x = none) (hg : isGl c "range" = true) (hs : notStar b = true) (hb : PE X b (tDB F c1 (bor y (wE pf pc y)))) :
    PI X tg (.Call (.Name "range" p) [b] [] pos) (tDI F m (Co.one.comp c1) (wSrc pf pc m (.rng (.cn (.int 0)) y 1))) := by
  obtain ⟨g1, g2, g3⟩ := isGl_ok o hg
  have hm : X.mg "range" = none := o.blt _ (by decide +kernel) (hG _ (by decide +kernel))
  refine PI.imp (pi_range1 g1 hm (pa_cons hb pa_nil (star_of hs)) (star_of hs)) fun σ H R ⟨W, env, kx, rel, hw⟩ => ?_
  unfold wSrc at hw
  rw [bor_not (ie := .cn (.int 0)) rfl, wE_cn] at hw
  refine goB o.mf o.mc rel hw (fun _ h => h) fun d v H1 hd e1 rel1 r1 => ?_
  unfold onInt at hd
  simp only at hd
  split at hd
  · rename_i j
    have ok : RgOkC 0 j 1 := ⟨.inl rfl, hd.2.1, hd.2.2.1, hd.2.2.2.1⟩
    obtain ⟨_, h1, h2, h3, h4⟩ := hd
    refine ⟨j, by rw [r1.int], by have := h2.1; omega, by have := h2.2; omega, h4 _ H1 e1 ?_⟩
    have e : (Builtin.Range.rangeSize 0 j 1).toNat = j.toNat := by rw [rangeSize_nat, Int.toNat_natCast]; omega
    rw [← e]
    exact src_rg (rangeD_len ok)
  · exact hd.elim
theorem src_Rg2 {c1 c2 : Co} (o : XOk G c F pf pc n X) {m : Bool} {p : Pos} (hG : ∀ x ∈ bltNames, G.fns.lookup x = none) (hg : isGl c "range" = true) (hs : notStar a = true) (hs2 : notStar b = true) (ha : PE X a (tDB F c1 (bor x (wE pf pc x)))) (hb : PE X b (tDB F c2 (bor y (wE pf pc y)))) :
    PI X tg (.Call (.Name "range" p) [a, b] [] pos) (tDI F m (c1.comp c2) (wSrc pf pc m (.rng x y 1))) := by
  obtain ⟨g1, g2, g3⟩ := isGl_ok o hg
  have hm : X.mg "range" = none := o.blt _ (by decide +kernel) (hG _ (by decide +kernel))
  refine PI.imp (pi_range2 g1 hm (pa_cons ha (pa_cons hb pa_nil (star_of hs2)) (star_of hs)) (by rw [star_of hs, star_of hs2]; rfl) (by rw [star_of hs2]; rfl)) fun σ H R ⟨W, env, kx, rel, hw⟩ => ?_
  unfold wSrc at hw
  refine goB o.mf o.mc rel hw (fun _ h => h) fun d v H1 hd e1 rel1 r1 => goB o.mf o.mc rel1 hd (fun _ h => h.ext e1) fun d2 v2 H2 hd2 e2 rel2 r2 => ?_
  unfold onInt at hd2
  simp only at hd2
  split at hd2
  · rename_i i
    split at hd2
    · rename_i j
      have ok : RgOkC i j 1 := ⟨.inl rfl, hd2.2.1, hd2.2.2.1, hd2.2.2.2.1⟩
      obtain ⟨_, h1, h2, h3, h4⟩ := hd2
      refine ⟨i, j, by rw [r1.int, r2.int], ⟨by have := h1.1; omega, by have := h1.2; omega, by have := h2.1; omega, by have := h2.2; omega⟩, h4 _ H2 (e1.trans e2) ?_⟩
      have e : (Builtin.Range.rangeSize i j 1).toNat = (j - i).toNat := by rw [rangeSize_nat, Int.toNat_natCast]
      rw [← e]
      exact src_rg (rangeD_len ok)
    · exact hd2.elim
  · exact hd2.elim
theorem src_Rg3 {c1 c2 : Co} (o : XOk G c F pf pc n X) {m : Bool} {p p1 p2 : Pos} {j0 : Nat} (hG : ∀ x ∈ bltNames, G.fns.lookup x = none) (hg : isGl c "range" = true) (hs : notStar a = true) (hs2 : notStar b = true) (ha : PE X a (tDB F c1 (bor x (wE pf pc x)))) (hb : PE X b (tDB F c2 (bor y (wE pf pc y)))) :
    PI X tg (.Call (.Name "range" p) [a, b, .UnaryOp .USub (.Constant (.int 1) j0 p1) p2] [] pos) (tDI F m (c1.comp c2) (wSrc pf pc m (.rng x y (-1)))) := by
  obtain ⟨g1, g2, g3⟩ := isGl_ok o hg
  have hm : X.mg "range" = none := o.blt _ (by decide +kernel) (hG _ (by decide +kernel))
  refine PI.imp (pi_range3 g1 hm (pa_cons ha (pa_cons hb (pa_cons (pe_un un_neg pe_int) pa_nil rfl) (star_of hs2)) (star_of hs)) (star_of hs) (star_all (by simp only [List.all_cons, List.all_nil, hs2, Bool.true_and, Bool.and_true]; rfl))) fun σ H R ⟨W, env, kx, rel, hw⟩ => ?_
  unfold wSrc at hw
  refine goB o.mf o.mc rel hw (fun _ h => h) fun d v H1 hd e1 rel1 r1 => goB o.mf o.mc rel1 hd (fun _ h => h.ext e1) fun d2 v2 H2 hd2 e2 rel2 r2 => ?_
  unfold onInt at hd2
  simp only at hd2
  split at hd2
  · rename_i i
    split at hd2
    · rename_i j
      have ok : RgOkC i j (-1) := ⟨.inr rfl, hd2.2.1, hd2.2.2.1, hd2.2.2.2.1⟩
      obtain ⟨_, h1, h2, h3, h4⟩ := hd2
      obtain ⟨f1, f2, f3, f4, f5⟩ := ok.facts
      exact ⟨1, rfl, i, j, -1, _, by rw [r1.int, r2.int], ⟨f1, f2, f3, f4⟩, h4 _ H2 (e1.trans e2) (src_rgC (rangeD_len ok))⟩
    · exact hd2.elim
  · exact hd2.elim
end
end Dl
namespace Dl
open PySem PySem.Spec PyProof.Rows L2
section
variable {G : GC} {c : CC} {F : Fx} {pf : PF} {pc : PC} {n : Nat} {X : Cx} {a b d e tg : Expr} {pos : Pos} {x y z : IE}
/-! ### displays of dicts -/
def RepP (P : Par) (W : Addr → Prop) (H : Hp) : List (D × D) → List (V × V) → Prop
  | [], xs => xs = []
  | (a, b) :: r, xs => ∃ x y s, xs = (x, y) :: s ∧ Rep P W H a x ∧ Rep P W H b y ∧ RepP P W H r s
theorem RepP.keep {j k : Nat} {W : Addr → Prop} {env : DEnv} {σ : L2.St} {H H' : Hp} (rel : Rel F.P j F.W0 W F.H0 H env σ) (e : Ext F.P k H H') : ∀ {ps : List (D × D)} {vs : List (V × V)}, RepP F.P W H ps vs → RepP F.P W H' ps vs
  | [], vs, h => by unfold RepP at h ⊢; exact h
  | (a, b) :: r, vs, h => by
    unfold RepP at h ⊢
    obtain ⟨x, y, s, ev, h1, h2, h3⟩ := h
    exact ⟨x, y, s, ev, h1.keep rel e, h2.keep rel e, RepP.keep rel e h3⟩
def pk (F : Fx) (k : Nat) (W : Addr → Prop) (H : Hp) (Q : List (V × V) → Hp → Prop) : List (D × D) → Prop := fun ps => ∀ vs H', Ext F.P k H H' → RepP F.P W H' ps vs → Q vs H'
def tDP (F : Fx) (co : Co) (w : DEnv → (List (D × D) → Prop) → EK → Prop) : L2.St → Hp → (List (V × V) → Hp → Prop) → Prop := fun σ H Q => ∃ W env k, Rel F.P (co.f k) F.W0 W F.H0 H env σ ∧ w env (pk F k W H Q) (xk F k W σ H)
theorem goP {k0 : Nat} {k : Nat} {co : Co} (mf : PFM pf pf) (mc : PCM pc pc) {ps : IPs} {W : Addr → Prop} {env : DEnv} {σ : L2.St} {H : Hp} {K : List (D × D) → Prop} {E : EK} {R : List (V × V) → Hp → Prop} (rel : Rel F.P (co.f k) F.W0 W F.H0 H env σ) (h : wPs pf pc ps env K E) (hE : ∀ x, E x → xk F k0 W σ H x)
    (hk : ∀ x v H1, K x → Ext F.P k H H1 → Rel F.P k F.W0 W F.H0 H1 env σ → RepP F.P W H1 x v → R v H1) (hk0 : k0 ≤ k := by first | exact Nat.le_refl _ | exact Co.le _ _ | exact Nat.le_trans (Co.le _ _) (Co.le _ _) | exact Nat.le_trans (Nat.le_trans (Co.le _ _) (Co.le _ _)) (Co.le _ _)) : tDP F co (wPs pf pc ps) σ H R :=
  ⟨W, env, k, rel, wPs_mono mf mc ps env _ _ _ _ (fun x hx v H1 e r => hk x v H1 hx e (rel.ext e) r) (fun x hx => (hE x hx).le hk0) h⟩
def PPD (F : Fx) (co : Co) (pf : PF) (pc : PC) (X : Cx) (pos : Pos) (ks : List (Option Expr)) (vs : List Expr) (ips : IPs) : Prop := ∃ trs, PPs X pos ks vs trs ∧ ∀ σ H Q, tDP F co (wPs pf pc ips) σ H Q → tPairs trs σ H Q
theorem ppd_nil (o : XOk G c F pf pc n X) : PPD F Co.one pf pc X pos [] [] .nil := by
  refine ⟨[], pps_nil, fun σ H Q ⟨W, env, kx, rel, hw⟩ => ?_⟩
  unfold wPs at hw
  exact hw [] H (Ext.refl rel.strm) (by unfold RepP; rfl)
theorem ppd_cons {c1 c2 c3 : Co} (o : XOk G c F pf pc n X) {ks : List (Option Expr)} {vs : List Expr} {ips : IPs} {fr fr' : Bool} (ha : PE X a (tD F fr c1 (wE pf pc x))) (hb : PE X b (tD F fr' c2 (wE pf pc y))) (hr : PPD F c3 pf pc X pos ks vs ips) : PPD F (c1.comp (c2.comp c3)) pf pc X pos (some a :: ks) (b :: vs) (.cons x y ips) := by
  obtain ⟨trs, h1, h2⟩ := hr
  refine ⟨_, pps_cons ha hb h1, fun σ H Q ⟨W, env, kx, rel, hw⟩ => ?_⟩
  unfold wPs at hw
  refine goV o.mf o.mc rel hw (fun _ h => h) fun d v H1 hd e1 rel1 r1 _ => goV o.mf o.mc rel1 hd (fun _ h => h.ext e1) fun d2 v2 H2 hd2 e2 rel2 r2 _ => h2 σ H2 _ (goP o.mf o.mc rel2 hd2 (fun _ h => h.ext (e1.trans e2)) fun ps pv H3 hps e3 rel3 r3 => ?_)
  refine hps ((v, v2) :: pv) H3 ((e1.trans e2).trans e3) ?_
  unfold RepP
  exact ⟨v, v2, pv, rfl, (r1.keep rel1 e2).keep rel2 e3, r2.keep rel2 e3, r3⟩
theorem wPs_len (mf : PFM pf pf) (mc : PCM pc pc) : ∀ (es : IPs) (env : DEnv) (Q : List (D × D) → Prop) (E : EK), wPs pf pc es env Q E → wPs pf pc es env (fun ds => ds.length = ipLen es ∧ Q ds) E
  | .nil, env, Q, E, h => by
    unfold wPs at h ⊢
    exact ⟨rfl, h⟩
  | .cons k v r, env, Q, E, h => by
    unfold wPs at h ⊢
    refine wE_mono mf mc k env _ _ _ _ (fun x hx => wE_mono mf mc v env _ _ _ _ (fun y hy => ?_) (fun _ z => z) hx) (fun _ z => z) h
    refine wPs_mono mf mc r env _ _ _ _ (fun xs ⟨h1, h2⟩ => ?_) (fun _ z => z) (wPs_len mf mc r env _ E hy)
    exact ⟨by rw [List.length_cons, h1]; rfl, h2⟩
theorem keyPs_rep {P : Par} {W : Addr → Prop} {H : Hp} : ∀ {ps : List (D × D)} {vs : List (V × V)} {kvs : List (Key × D)}, keyPs ps = some kvs → RepP P W H ps vs → ∃ kvs' : List (Key × V), vs = kvs'.map (fun kv => (kV kv.1, kv.2)) ∧ RepX P W H kvs kvs' ∧ kvs'.length = ps.length ∧ ∀ kv ∈ kvs', KeyOk kv.1
  | [], vs, kvs, e, r => by
    unfold keyPs at e
    unfold RepP at r
    cases e
    subst r
    exact ⟨[], rfl, by unfold RepX; rfl, rfl, fun _ z => nomatch z⟩
  | (a, b) :: ps, vs, kvs, e, r => by
    unfold keyPs at e
    unfold RepP at r
    obtain ⟨k, e1, e2⟩ := Option.bind_eq_some_iff.mp e
    obtain ⟨kr, e3, rfl⟩ := Option.map_eq_some_iff.mp e2
    obtain ⟨u, w, s, rfl, r1, r2, r3⟩ := r
    obtain ⟨kvs', rfl, h2, h3, h4⟩ := keyPs_rep e3 r3
    have ek := keyD_val e1 r1
    refine ⟨(k, w) :: kvs', by rw [ek]; rfl, by unfold RepX; exact ⟨w, kvs', rfl, r2, h2⟩, by rw [List.length_cons, h3, List.length_cons], fun kv hkv => ?_⟩
    rcases List.mem_cons.mp hkv with rfl | hkv
    · cases a <;> simp only [keyD, Option.some.injEq, reduceCtorEq] at e1
      · subst e1; exact True.intro
      · subst e1; exact (Rep.str.mp r1).2
    · exact h4 kv hkv
theorem putK_keys {kvs : List (Key × V)} {k : Key} {v : V} (h : ∀ kv ∈ kvs, KeyOk kv.1) (hk : KeyOk k) : ∀ kv ∈ putK kvs k v, KeyOk kv.1 := fun kv hkv => by
  unfold putK at hkv
  split at hkv
  · obtain ⟨w, hw, e⟩ := List.mem_map.mp hkv
    split at e
    · rw [← e]; exact h w hw
    · rw [← e]; exact h w hw
  · rcases List.mem_append.mp hkv with q | q
    · exact h kv q
    · rw [List.mem_singleton.mp q]; exact hk
theorem merge_rep {P : Par} {W : Addr → Prop} {H : Hp} : ∀ {kvs : List (Key × D)} {kvs' : List (Key × V)} {acc : List (Key × D)} {acc' : List (Key × V)}, RepX P W H kvs kvs' → RepX P W H acc acc' → (∀ kv ∈ kvs', KeyOk kv.1) → (∀ kv ∈ acc', KeyOk kv.1) →
    RepX P W H (kvs.foldl (fun acc kv => putD acc kv.1 kv.2) acc) (mergeK acc' kvs') ∧ ∀ kv ∈ mergeK acc' kvs', KeyOk kv.1
  | [], kvs', acc, acc', h, ha, k1, k2 => by
    unfold RepX at h
    subst h
    exact ⟨ha, k2⟩
  | (k, d) :: r, kvs', acc, acc', h, ha, k1, k2 => by
    unfold RepX at h
    obtain ⟨v, s, rfl, h1, h2⟩ := h
    exact merge_rep (acc := putD acc k d) (acc' := putK acc' k v) h2 (ha.put k h1) (fun kv hkv => k1 kv (List.mem_cons_of_mem _ hkv)) (putK_keys k2 (k1 (k, v) List.mem_cons_self))
theorem xk.more {j k : Nat} {W W' : Addr → Prop} {σ : L2.St} {H H1 : Hp} {w : XV} (h : xk F k W σ H w) (hW : ∀ a, W a → W' a) (e : Ext F.P j H H1) : xk F k W' σ H1 w := fun cls dd H' e2 xr => by
  refine h cls dd H' (e.trans e2) ?_
  obtain ⟨C, f, dx, v, a, h1, h2, h3, h4, h5, h6⟩ := xr
  exact ⟨C, f, dx, v, a, h1, h2, h3, h4, h5, Rep.frame (Fr.refl _ _) (fun b hb => .inl (hW b hb)) _ _ h6⟩
theorem vk.dK {j k : Nat} {W : Addr → Prop} {fr : Bool} {env : DEnv} {σ : L2.St} {H : Hp} {Q : VK} {p : Addr} {kds : List (Key × D)} {kvs : List (Key × V)} (rel : Rel F.P j F.W0 W F.H0 H env σ) (h : vk F k W fr H Q (.dK kds)) (hp : H p = none) {H2 : Hp} (e : Ext F.P k H H2) {kv0 : List (Key × V)} (h2 : H2 p = some (.dK kv0)) (hz : KzK kvs)
    (r : RepX F.P (fun a => W a ∨ a = p) H2 kds kvs) : Q (.ref p) (upd H2 p (.dK kvs)) := by
  have nW := rel.newW hp
  have nT : ¬ F.P.T p := fun z => nW (rel.w0 _ (rel.tw p z))
  have fr2 : Fr (fun a => W a ∨ a = p) H2 (upd H2 p (.dK kvs)) := fun a u nn _ hh => by
    have ne : a ≠ p := fun z => nn (.inr z)
    cases u <;> first
      | (show upd H2 p _ a = _
         rw [upd_ne ne]; exact hh)
      | (rcases hh with hh | ⟨o2, hh⟩
         · exact .inl (by rw [upd_ne ne]; exact hh)
         · exact .inr ⟨o2, by rw [upd_ne ne]; exact hh⟩)
  have ex : Ext F.P k H (upd H2 p (.dK kvs)) := by
    refine ⟨fun a ob na hob => ?_, F.P.sokFr _ _ _ (fun a ha => by rw [upd_ne (fun z : a = p => nT (z ▸ ha))]) (codeS h2 fun _ z => nomatch z) e.strm, fun a ha => ?_⟩
    · have ne : a ≠ p := fun z => by rw [z, hp] at hob; cases hob
      rw [upd_ne ne]
      exact e.keep a ob na hob
    · by_cases hz : a = p
      · rw [hz, upd_same]; exact fun z => nomatch z
      · rw [upd_ne hz]; exact e.dom a ha
  have rK := RepK.frame fr2 (W' := fun a => W a ∨ a = p) (fun a h => .inl h) _ _ (RepK.x.mpr r)
  refine h _ _ ex ?_ fun _ _ => ⟨p, rfl, hp, kvs, upd_same, hz, rK⟩
  unfold Rep
  exact ⟨p, kvs, rfl, nW, .inl upd_same, hz, RepK.frame (Fr.refl _ _) (fun a h => .inl (.inl h)) _ _ rK⟩
theorem vk.dT0 {k : Nat} {W : Addr → Prop} {fr : Bool} {env : DEnv} {σ : L2.St} {H : Hp} {Q : VK} {p : Addr} (rel : Rel F.P k F.W0 W F.H0 H env σ) (h : vk F k W fr H Q (.dT [])) (hp : H p = none) : Q (.ref p) (upd H p (.dT [])) := by
  have hz : KzT ([] : List (List Key × V)) := ⟨Nat.zero_le _, fun _ z => nomatch z⟩
  refine h _ _ (rel.extNew hp) ?_ fun _ _ => ⟨p, rfl, hp, [], upd_same, hz, by unfold RepT; rfl⟩
  unfold Rep
  exact ⟨p, [], rfl, rel.newW hp, .inl upd_same, hz, by unfold RepT; rfl⟩
theorem snd_Dic0 (o : XOk G c F pf pc n X) {fr : Bool} : PE X (.Dict [] [] pos) (tD F fr Co.one (wE pf pc (.dic .nil))) := by
  refine PE.imp (PE.orr pe_dnewK pe_dnewT) fun σ H Q ⟨W, env, kx, rel, hw⟩ => ?_
  unfold wE wPs dicD at hw
  rcases hw with hw | hw
  · refine .inl fun p hp => ?_
    have q := vk.dK (kvs := []) rel hw hp (rel.extNew (o := .dK []) hp) upd_same ⟨Nat.zero_le _, fun _ z => nomatch z⟩ (by unfold RepX; rfl)
    have eu : upd (upd H p (.dK [])) p (.dK []) = upd H p (.dK []) := by
      funext a
      by_cases hz : a = p
      · rw [hz, upd_same, upd_same]
      · rw [upd_ne hz]
    rw [eu] at q
    exact q
  · exact .inr fun p hp => vk.dT0 rel hw hp
theorem snd_Dic {c1 : Co} (o : XOk G c F pf pc n X) {fr : Bool} {ks : List (Option Expr)} {vs : List Expr} {ips : IPs} (hall : ks.all (·.isSome) = true) (hl : ks.length = vs.length) (h0 : ks ≠ []) (h15 : ks.length ≤ 15) (h1 : ipLen ips ≤ 15) (hn : ips ≠ .nil) (h : PPD F c1 pf pc X pos ks vs ips) :
    PE X (.Dict ks vs pos) (tD F fr c1 (wE pf pc (.dic ips))) := by
  obtain ⟨trs, h2, h3⟩ := h
  refine PE.imp (pe_disp h2 hall hl h0 h15) fun σ H Q ⟨W, env, kx, rel, hw⟩ p hp => ?_
  unfold wE at hw
  have e1 := rel.extNew (o := .dK []) hp
  have rel1 := rel.more hp e1 ⟨_, upd_same, fun _ z => nomatch z⟩
  have nT : ¬ F.P.T p := fun z => rel.newW hp (rel.w0 _ (rel.tw p z))
  refine h3 σ _ _ (goP o.mf o.mc rel1 (wPs_len o.mf o.mc _ _ _ _ hw) (fun _ h => h.more (fun a h => .inl h) e1) fun ps pv H2 ⟨hlen, hd⟩ e2 rel2 r2 => ?_)
  refine ⟨e2.keep p _ nT upd_same, ?_⟩
  cases ps with
  | nil =>
    cases ips with
    | nil => exact absurd rfl hn
    | cons _ _ _ => simp [ipLen] at hlen
  | cons q ps =>
    unfold dicD at hd
    simp only at hd
    split at hd
    · rename_i kvs ek
      obtain ⟨kvs', rfl, h5, h6, h7⟩ := keyPs_rep ek r2
      obtain ⟨m1, m2⟩ := merge_rep (acc := []) (acc' := []) h5 (by unfold RepX; rfl) h7 (fun _ z => nomatch z)
      refine ⟨kvs', rfl, by rw [h6, hlen]; exact h1, ?_⟩
      refine vk.dK rel hd hp (e1.trans e2) (e2.keep p _ nT upd_same) ⟨?_, m2⟩ m1
      have := length_mergeK kvs' []
      rw [List.length_nil] at this
      rw [sizeLine_eq]
      omega
    · exact hd.elim
end
end Dl
namespace Dl
open PySem PySem.Spec PyProof.Rows L2
section
variable {P : Par} {k : Nat} {W0 W : Addr → Prop} {H0 : Sn} {H : Hp} {env : DEnv} {σ : L2.St}
/-- the entry's heap with the dict locked -/
def lockH (H0 : Hp) (p : Addr) (u : HO) : Hp := fun a => if a = p ∧ H0 p ≠ none then some u else H0 a
def lockS (S : Sn) (p : Addr) (u : HO) : Sn := S.map fun s => (s.1, lockH s.2 p u)
theorem lockH_ne {H0 : Hp} {p a : Addr} {u : HO} (h : a ≠ p) : lockH H0 p u a = H0 a := by
  unfold lockH
  rw [if_neg (fun z => h z.1)]
theorem lockS_mem {S : Sn} {p : Addr} {u : HO} {t : (Addr → Prop) × Hp} (h : t ∈ lockS S p u) : ∃ s ∈ S, t = (s.1, lockH s.2 p u) := by
  obtain ⟨s, hs, e⟩ := List.mem_map.mp h
  exact ⟨s, hs, e.symm⟩
theorem fr_lock {p : Addr} {od : Obj} {kvs : List (Key × V)} (h : H p = some (.dK kvs)) : Fr W H (upd H p (.frz od (.dK kvs))) := fun a u _ _ hh => by
  by_cases hz : a = p
  · subst hz
    cases u <;> first
      | (have q : H a = _ := hh
         rw [h] at q
         cases q
         done)
      | skip
    · rcases hh with q | ⟨o2, q⟩ <;> (rw [h] at q; cases q)
      exact .inr ⟨od, upd_same⟩
    · rcases hh with q | ⟨o2, q⟩ <;> (rw [h] at q; cases q)
  · cases u <;> first
      | (show upd H p _ a = _
         rw [upd_ne hz]; exact hh)
      | (rcases hh with hh | ⟨o2, hh⟩
         · exact .inl (by rw [upd_ne hz]; exact hh)
         · exact .inr ⟨o2, by rw [upd_ne hz]; exact hh⟩)
theorem fr_unlock {p : Addr} {od : Obj} {kvs : List (Key × V)} (h : H p = some (.frz od (.dK kvs))) : Fr W H (upd H p (.dK kvs)) := fun a u _ ok hh => by
  by_cases hz : a = p
  · subst hz
    cases u <;> first
      | (have q : H a = _ := hh
         rw [h] at q
         cases q
         done)
      | skip
    · rcases hh with q | ⟨o2, q⟩ <;> (rw [h] at q; cases q)
      exact .inl upd_same
    · rcases hh with q | ⟨o2, q⟩ <;> (rw [h] at q; cases q)
    all_goals exact ok.elim
  · cases u <;> first
      | (show upd H p _ a = _
         rw [upd_ne hz]; exact hh)
      | (rcases hh with hh | ⟨o2, hh⟩
         · exact .inl (by rw [upd_ne hz]; exact hh)
         · exact .inr ⟨o2, by rw [upd_ne hz]; exact hh⟩)
theorem dom_upd {p : Addr} {u : HO} : ∀ a, H a ≠ none → upd H p u a ≠ none := fun a h => by
  by_cases ha : a = p
  · rw [ha, upd_same]; exact fun z => nomatch z
  · rw [upd_ne ha]; exact h
theorem Rel.lock (r : Rel P k W0 W H0 H env σ) {p : Addr} {od : Obj} {kvs : List (Key × V)} (hp : H p = some (.dK kvs)) (nw : ¬ W p) : Rel P k W0 W (lockS H0 p (.frz od (.dK kvs))) (upd H p (.frz od (.dK kvs))) env σ where
  len := r.len
  val := fun i d h => let ⟨v, hv, q⟩ := r.val i d h; ⟨v, hv, Rep.frame (fr_lock hp) (fun a h => .inl h) d v q⟩
  own := fun i d h => by
    obtain ⟨a, ha, w, n, q⟩ := r.own i d h
    have ne : a ≠ p := fun z => nw (z ▸ w)
    refine ⟨a, ha, w, ⟨n.1, fun t ht => ?_⟩, q.frame (fr_lock hp) (fun a h => .inl h) fun x hx => by rw [upd_ne ne]; exact hx⟩
    obtain ⟨s, hs, rfl⟩ := lockS_mem ht
    exact (n.2 s hs).imp id fun e => (lockH_ne ne).trans e
  apart := r.apart
  w0 := r.w0
  w00 := fun a h => by
    obtain ⟨s, hs, n1, n2⟩ := r.w00 a h
    have ne : a ≠ p := fun z => nw (z ▸ r.w0 a h)
    exact ⟨_, List.mem_map.mpr ⟨s, hs, rfl⟩, n1, by rw [show (s.1, lockH s.2 p (.frz od (.dK kvs))).2 a = s.2 a from lockH_ne ne]; exact n2⟩
  wk := fun a h => by
    obtain ⟨u, e1, e2⟩ := r.wk a h
    exact ⟨u, by rw [upd_ne (fun z : a = p => nw (z ▸ h))]; exact e1, e2⟩
  dom0 := fun t ht a h => dom_upd a (by
    obtain ⟨s, hs, rfl⟩ := lockS_mem ht
    have h : lockH s.2 p (.frz od (.dK kvs)) a ≠ none := h
    unfold lockH at h
    split at h
    · rename_i q
      rw [q.1]
      exact r.dom0 s hs p q.2
    · exact r.dom0 s hs a h)
  old := fun t ht a x n m h => by
    obtain ⟨s, hs, rfl⟩ := lockS_mem ht
    have h : lockH s.2 p (.frz od (.dK kvs)) a = some x := h
    unfold lockH at h
    split at h
    · rename_i q
      rw [q.1, upd_same]
      exact h
    · rename_i q
      by_cases hz : a = p
      · exact absurd ⟨hz, by rw [← hz, h]; exact fun z => nomatch z⟩ q
      · rw [upd_ne hz]
        exact r.old s hs a x n m h
  sub := fun t ht a h => by
    obtain ⟨s, hs, rfl⟩ := lockS_mem ht
    have ne : a ≠ p := fun z => nw (z ▸ h)
    rw [show (s.1, lockH s.2 p (.frz od (.dK kvs))).2 a = s.2 a from lockH_ne ne]
    exact r.sub s hs a h
  strm := P.sokFr _ _ _ (fun a h => by rw [upd_ne (fun z : a = p => nw (z ▸ r.w0 _ (r.tw a h)))]) (codeS hp fun _ z => nomatch z) r.strm
  tw := r.tw
theorem Ext.lock {j : Nat} (hs : P.sok j H) {p : Addr} (nT : ¬ P.T p) {od : Obj} {kvs : List (Key × V)} {H' : Hp} (hp : H p = some (.dK kvs)) (e : Ext P k (upd H p (.frz od (.dK kvs))) H') : Ext P k H (upd H' p (.dK kvs)) := by
  refine ⟨fun a ob na hob => ?_, P.sokFr _ _ _ (fun a ha => by rw [upd_ne (fun z : a = p => nT (z ▸ ha))]) (codeS (e.keep p _ nT upd_same) fun _ z => nomatch z) e.strm, fun a ha => ?_⟩
  · by_cases hz : a = p
    · rw [hz, upd_same, ← hp, ← hz]; exact hob
    · rw [upd_ne hz]
      exact e.keep a ob na (by rw [upd_ne hz]; exact hob)
  · exact dom_upd a (e.dom a (dom_upd a ha))
theorem RepX.keep' {kds : List (Key × D)} (r : Rel P k W0 W H0 H env σ) {p : Addr} {od : Obj} {kvs kvs2 : List (Key × V)} (hp : H p = some (.dK kvs)) (nw : ¬ W p) (q : RepX P W H kds kvs2) : RepX P W (upd H p (.frz od (.dK kvs))) kds kvs2 :=
  RepK.x.mp (RepK.frame (fr_lock hp) (fun a h => .inl h) _ _ (RepK.x.mpr q))
theorem src_keys {kds : List (Key × D)} {kvs : List (Key × V)} {p : Addr} {od : Obj} (hz : KzK kvs) {M : Addr → Prop} (r : RepX P W H kds kvs) (nT : ¬ M p) (hp : H p = some (.frz od (.dK kvs))) : Src P W M H (Itk p od kvs) (kds.map fun kv => keyVal kv.1) where
  len := by rw [List.length_map, r.len]; exact hz.1
  stop := fun H' kp => ⟨kp p _ nT hp, by rw [List.length_map, r.len]; exact Nat.le_refl _⟩
  turn := fun i d H' hd kp => by
    have hl : i < kvs.length := by
      have := (List.getElem?_eq_some_iff.mp hd).1
      rw [List.length_map, r.len] at this
      exact this
    refine ⟨⟨kp p _ nT hp, hl⟩, fun x H2 ⟨e, k, v, hk, ev⟩ => ⟨.inl e, fun W' fr hw => ?_⟩⟩
    have hkd : ∃ d', kds[i]? = some (k, d') := by
      have h1 : (kvs.map (·.1))[i]? = some k := by rw [List.getElem?_map, hk]; rfl
      rw [r.keys, List.getElem?_map] at h1
      obtain ⟨q, hq, e⟩ := Option.map_eq_some_iff.mp h1
      exact ⟨q.2, by rw [hq, ← e]⟩
    obtain ⟨d', hd'⟩ := hkd
    rw [List.getElem?_map, hd'] at hd
    cases hd
    rw [ev]
    have ok := hz.2 (k, v) (List.mem_of_getElem? hk)
    show Rep _ _ _ (keyVal k) _
    cases k with
    | inl i => exact Rep.int.mpr rfl
    | inr s => exact Rep.str.mpr ⟨rfl, ok⟩
end
section
variable {G : GC} {c : CC} {F : Fx} {pf : PF} {pc : PC} {n : Nat} {X : Cx} {a b d e tg iter elt : Expr} {pos : Pos} {x y z : IE}
theorem dkeys_some {src : ISrc} {env : DEnv} {ds : List D} (h : dkeys src env = some ds) : ∃ i kvs, src = .val (.slot i) ∧ env[i]? = some (.val (.dK kvs)) ∧ ds = kvs.map fun kv => keyVal kv.1 := by
  unfold dkeys at h
  split at h
  · split at h
    · exact ⟨_, _, rfl, by assumption, (Option.some.inj h).symm⟩
    · cases h
  · cases h
theorem XOk.at_ {H0 : Sn} (o : XOk G c F pf pc n X) : XOk G c { F with H0 := H0 } pf pc n X := ⟨o.N, o.nd, o.sc, o.fn, o.K, o.calm, o.room, o.tk, o.fns, o.cns, o.blt, o.mf, o.mc, o.clo, o.lam⟩
/-- the dict that a name holds -/
def iK (src : ISrc) : TI := fun σ H R => ∃ i, src = .val (.slot i) ∧ iKeys (tVar i) σ H R
theorem pi_K {src : ISrc} (hv : ∀ i, src = .val (.slot i) → PE X iter (tVar i)) : PI X tg iter (iK src) := ⟨fun pins s σ H R I ⟨i, e, h⟩ => (pi_keys (hv i e)).run pins s σ H R I h⟩
def lc1 (F : Fx) (cs cc cx : Co) (pf : PF) (pc : PC) (x : IE) (tg : IT) (src : ISrc) (ci : IO) (fr : Bool) : TE := tLc (tDI F true cs (wSrc pf pc true src)) (gE F tg) (tCE F cc (wC pf pc ci)) (tEE F fr cx (wE pf pc x)) (ownOfT tg)
def lc2 (F : Fx) (cc cx : Co) (pf : PF) (pc : PC) (x : IE) (tg : IT) (src : ISrc) (ci : IO) (fr : Bool) : TE := tLc (iK src) (gE F tg) (tCE F cc (wC pf pc ci)) (tEE F fr cx (wE pf pc x)) (ownOfT tg)
theorem vk.lstF {j k : Nat} {W : Addr → Prop} {fr : Bool} {env : DEnv} {σ : L2.St} {H H' : Hp} {Q : VK} {L : Addr} {acc : List D} {accV : List V} (rel : Rel F.P j F.W0 W F.H0 H env σ) (e : Ext F.P k H H') (h : vk F k W fr H Q (.lst acc)) (hL : H L = none) (hv : H' L = some (.lst accV)) (hz : accV.length ≤ sizeLine)
    (r : RepL F.P (fun a => W a ∨ a = L) H' acc accV) : Q (.ref L) H' :=
  h (.ref L) H' e (Rep.lst.mpr ⟨L, accV, rfl, rel.newW hL, hv, hz, RepL.frame (Fr.refl _ _) (fun a h => .inl (.inl h)) _ _ r⟩) fun _ _ => ⟨L, rfl, hL, accV, hv, hz, r⟩
/-- a comprehension's cost -/
def lcCo (cs cc cx : Co) : Co := cs.comp (Co.iter sizeLine (cc.comp cx))
def lcJ (cc cx : Co) (k : Nat) (i : Nat) : Nat := (Co.iter (sizeLine - i) (cc.comp cx)).f k
theorem lcJ_step {cc cx : Co} {k m : Nat} (h : m ≤ sizeLine) : ∀ i, i < m → lcJ cc cx k i = cc.f (cx.f (lcJ cc cx k (i + 1))) := fun i hi => by
  unfold lcJ
  rw [show sizeLine - i = (sizeLine - (i + 1)) + 1 by omega, Co.iter_succ]
  rfl
theorem lc_road {cs cc cx : Co} (o : XOk G c F pf pc n X) {src : ISrc} {tgi : IT} {ci : IO} {fr : Bool} {σ : L2.St} {H : Hp} {Q : VK} (h : tD F true (lcCo cs cc cx) (wE pf pc (.lc x tgi src ci (ownOfT tgi))) σ H Q) :
    lc1 F cs cc cx pf pc x tgi src ci fr σ H Q ∨ lc2 F cc cx pf pc x tgi src ci fr σ H Q ∨ tLockE (lc2 F cc cx pf pc x tgi src ci fr) σ H Q := by
  obtain ⟨W, env, kx, rel, hw⟩ := h
  unfold wE at hw
  cases q : dkeys src env with
  | none =>
    rw [q] at hw
    refine .inl ⟨W, env, (Co.iter sizeLine (cc.comp cx)).f kx, rel, wSrc_mono o.mf o.mc true src env _ _ _ _ (fun ds hd J H1 e1 sr => ?_) (fun _ h => h.le (Co.le _ _)) hw⟩
    exact lc_run o (lcJ_step sr.len) (Co.le (Co.iter _ _) kx) rfl (rel.ext e1) sr hd fun acc accV L H' e2 hk hL hv hz r => vk.lstF rel (e1.trans e2) hk (by
      cases z : H L with
      | none => rfl
      | some w => exact absurd hL (e1.dom L (by rw [z]; exact fun q => nomatch q))) hv hz r
  | some ds =>
    rw [q] at hw
    obtain ⟨i, kds, rfl, he, rfl⟩ := dkeys_some q
    have rel := rel.le (cs.le _)
    obtain ⟨v, hv, rv⟩ := rel.val i _ he
    unfold Rep at rv
    obtain ⟨p, kvs, rfl, nw, hp, hz, rk⟩ := rv
    have nT : ¬ F.P.T p := fun z => nw (rel.w0 _ (rel.tw p z))
    rcases hp with hp | ⟨od, hp⟩
    · refine .inr (.inr ⟨p, .dK kvs, hp, True.intro, fun od => ⟨i, rfl, .ref p, hv, p, od, rfl, .inl ⟨kvs, upd_same, ?_⟩⟩⟩)
      have relL := rel.lock (od := od) hp nw
      have rkL := RepX.keep' rel hp nw (od := od) (RepK.x.mp rk)
      have sr := src_keys hz rkL nT (upd_same (H := H) (a := p))
      have key := lc_run (F := { F with H0 := lockS F.H0 p (.frz od (.dK kvs)) }) (fr := fr) (Q := fun v H' => H' p = some (.frz od (.dK kvs)) ∧ Q v (upd H' p (.dK kvs))) o.at_ (lcJ_step sr.len) (Co.le (Co.iter _ _) kx) rfl relL sr hw fun acc accV L H' e2 hk hL hvL hzL r => by
        have hpl : H' p = some (.frz od (.dK kvs)) := e2.keep p _ nT upd_same
        refine ⟨hpl, ?_⟩
        have ne : L ≠ p := fun z => by rw [z, upd_same] at hL; cases hL
        have hL0 : H L = none := by rw [upd_ne ne] at hL; exact hL
        exact vk.lstF rel (Ext.lock rel.strm nT hp e2) hk hL0 (by rw [upd_ne ne]; exact hvL) hzL (RepL.frame (fr_unlock hpl) (fun a h => .inl h) _ _ r)
      exact key
    · refine .inr (.inl ⟨i, rfl, .ref p, hv, p, od, rfl, .inl ⟨kvs, hp, ?_⟩⟩)
      have sr := src_keys hz (RepK.x.mp rk) nT hp
      exact lc_run o (lcJ_step sr.len) (Co.le (Co.iter _ _) kx) rfl rel sr hw fun acc accV L H' e2 hk hL hvL hzL r => vk.lstF rel e2 hk hL hvL hzL r
theorem snd_Lc {cs cc cx : Co} (o : XOk G c F pf pc n X) {ifs : List Expr} {scope : Scope} {ownp : List (Str × Nat)} {src : ISrc} {tgi : IT} {ci : IO} {fr : Bool}
    (hi : PI X tg iter (tDI F true cs (wSrc pf pc true src))) (hv : ∀ i, src = .val (.slot i) → PE X iter (tVar i)) (ok : BlkOk X.N X.env.scope scope ownp) (hown : ownp.map (·.2) = ownOfT tgi)
    (hg : ∀ (H0 : Sn) (s : Shared) (H : Hp) (C : Addr) (cl : List (Str × Addr)) (fp : List Addr), PG (X.blk s H scope (compEnvC scope cl C X.env) fp) tg (gD (noX F H0) tgi))
    (ht : ∀ (H0 : Sn) (s : Shared) (H : Hp) (C : Addr) (cl : List (Str × Addr)) (fp : List Addr), PTs (X.blk s H scope (compEnvC scope cl C X.env) fp) ifs (tDC (noX F H0) cc (wC pf pc ci)))
    (he : ∀ (H0 : Sn) (s : Shared) (H : Hp) (C : Addr) (cl : List (Str × Addr)) (fp : List Addr), PE (X.blk s H scope (compEnvC scope cl C X.env) fp) elt (tD (noX F H0) fr cx (wE pf pc x))) (hs : ∀ x, foldedSetIterable iter X.env x = pure x) :
    PE X (.ListComp elt [⟨tg, iter, ifs, 0⟩] scope pos) (lc1 F cs cc cx pf pc x tgi src ci fr) ∧ PE X (.ListComp elt [⟨tg, iter, ifs, 0⟩] scope pos) (lc2 F cc cx pf pc x tgi src ci fr) := by
  have g : ∀ (s : Shared) (H : Hp) (C : Addr) (cl : List (Str × Addr)) (fp : List Addr), PG (X.blk s H scope (compEnvC scope cl C X.env) fp) tg (gE F tgi) := fun s H C cl fp => ⟨fun pins s' σ H' v u Q I r ⟨H0, hw⟩ => (hg H0 s H C cl fp).run pins s' σ H' v u Q I r hw⟩
  have t : ∀ (s : Shared) (H : Hp) (C : Addr) (cl : List (Str × Addr)) (fp : List Addr), PTs (X.blk s H scope (compEnvC scope cl C X.env) fp) ifs (tCE F cc (wC pf pc ci)) := fun s H C cl fp => ⟨fun pins s' σ H' Q I ⟨H0, hw⟩ => (ht H0 s H C cl fp).run pins s' σ H' Q I hw⟩
  have w : ∀ (s : Shared) (H : Hp) (C : Addr) (cl : List (Str × Addr)) (fp : List Addr), PE (X.blk s H scope (compEnvC scope cl C X.env) fp) elt (tEE F fr cx (wE pf pc x)) := fun s H C cl fp => ⟨fun pins s' σ H' Q I ⟨H0, hw⟩ => (he H0 s H C cl fp).run pins s' σ H' Q I hw⟩
  unfold lc1 lc2
  rw [← hown]
  exact ⟨pe_lc o.calm o.nd hi ok g t w hs, pe_lc o.calm o.nd (pi_K hv) ok g t w hs⟩
theorem snd_LcE {cs cc cx : Co} (o : XOk G c F pf pc n X) {src : ISrc} {tgi : IT} {ci : IO} {fr : Bool} (h : PE X e (lc1 F cs cc cx pf pc x tgi src ci fr) ∧ PE X e (lc2 F cc cx pf pc x tgi src ci fr)) : PE X e (tD F true (lcCo cs cc cx) (wE pf pc (.lc x tgi src ci (ownOfT tgi)))) :=
  PE.imp (PE.orr h.1 (PE.orr h.2 (pe_lock h.2))) fun σ H Q q => lc_road o q
end
end Dl
namespace Dl
open PySem PySem.Spec PyProof.Rows L2 LamX
section
variable {G : GC} {c : CC} {F : Fx} {pf : PF} {pc : PC} {n : Nat} {X : Cx} {e : Expr} {pos : Pos}
theorem cloP_obj {lok : Nat → LamT → Prop} {k : Nat} {a : Addr} {vs : List V} {W : Addr → Prop} {H : Hp} {P : Program} {w : World} {h : Heap} (cp : CloP lok k a vs W H) (hok : HOk P w H h) : ∃ name qual params body scope cl pm c ctv, h.get? a = some (PySem.W.kla_obj name qual params body scope cl pm c ctv) := by
  obtain ⟨t, qual, cl, c, L, h1, h2, na, h3, _⟩ := cp
  obtain ⟨pm, ctv, e⟩ := (hok a _ h3).1
  exact ⟨_, _, _, _, _, _, _, _, _, e⟩
theorem rep_clo {P : Par} {W : Addr → Prop} {H : Hp} {k : Nat} {cs : List D} {v : V} (h : Rep P W H (.clo k cs) v) : ∃ a vs, v = .ref a ∧ noCloL cs = true ∧ RepL P W H cs vs ∧ CloP P.lok k a vs W H := by
  unfold Rep at h
  exact h
/-- run() -/
theorem snd_Calls (o : XOk G c F pf pc n X) {x : Str} {i : Nat} {p : Pos} (hx : cName c x = some i) : PE X (.Call (.Name x p) [] [] pos) (tD F false (F.cf lamK) (wE pf pc (.calls i))) := by
  obtain ⟨h1, h2, h3, h4⟩ := cName_ok o hx
  refine ⟨fun pins s σ H Q I ⟨W, env, kk, rel, hw⟩ => ?_⟩
  unfold wE onClo at hw
  split at hw
  · rename_i k cs he
    obtain ⟨v, hv, rv⟩ := rel.val i _ he
    obtain ⟨a, vs, rfl, hn, rl, cp⟩ := rep_clo rv
    refine wpAny_Call_Name_kw (thn ((pe_var (pos := p) h1 h2 h3 h4).run pins s σ H (fun v H1 => v = .ref a ∧ H1 = H) I ⟨.ref a, hv, rfl, rfl⟩) fun u s1 ⟨v, H1, I1, r1, q1⟩ => ?_)
    obtain ⟨rfl, rfl⟩ := q1
    obtain rfl : u = Value.ref a := r1
    obtain ⟨_, _, _, _, _, _, _, _, _, ob⟩ := cloP_obj cp I1.hok
    refine PySem.W.callWith_F0 ⟨_, _, _, _, ob⟩ ?_
    refine wpAny_call (codeAny_mono (o.clo.run (Q := Q) (E := WE F.Wx σ) o.room I1.env0 cp rl hn rel.wk (fun b z => rel.w0 b (rel.tw b z)) rel.strm ?_) fun r s' hq => ?_)
    · exact o.mc.run _ _ _ _ _ _ (fun d hd v H' e r => hd v H' e r fun z => nomatch z) (fun _ h => h) hw
    · cases r with
      | error e => exact passAt o.tk σ pins _ _ _ _ I1 hq
      | ok fl =>
        cases fl <;> first
          | exact I1.after hq
          | exact False.elim hq
  · exact hw.elim
/-! ### arguments, lambdas among them -/
/-- what they are, ahead of the call -/
def RepLm (G : GC) (X : Cx) (P : Par) (pc : PC) (env : DEnv) (W : Addr → Prop) (H : Hp) : IEs → List D → List V → Prop
  | .nil, ds, vs => ds = [] ∧ vs = []
  | .cons _ r, ds, vs => ∃ d dr v vr, ds = d :: dr ∧ vs = v :: vr ∧ Rep P W H d v ∧ RepLm G X P pc env W H r dr vr
  | .lam k b caps r, ds, vs => ∃ cs dr f vr t js, ds = .clo k cs :: dr ∧ vs = .ref f :: vr ∧ ¬ W f ∧ LamAt X t f H ∧ LamC G t b ∧ pc.lam k t.fr.length b ∧ LamS X.env.scope t.scope ∧ capsD env caps = some cs ∧ noCloL cs = true ∧
      caps = js ∧ (∀ (i : Nat) (y : Str), t.fr[i]? = some y → ∃ j, js[i]? = some j ∧ X.N[j]? = some y ∧ t.scope.names.lookup y = some .free) ∧ js.length = t.fr.length ∧ RepLm G X P pc env W H r dr vr
theorem RepLm.keep {P : Par} {env : DEnv} {W : Addr → Prop} {H H' : Hp} (f : Fr W H H') (kp : ∀ a φ, H a = some (.ext φ) → H' a = some (.ext φ)) : ∀ {es : IEs} {ds : List D} {vs : List V}, RepLm G X P pc env W H es ds vs → RepLm G X P pc env W H' es ds vs
  | .nil, ds, vs, h => by unfold RepLm at h ⊢; exact h
  | .cons e r, ds, vs, h => by
    unfold RepLm at h ⊢
    obtain ⟨d, dr, v, vr, e1, e2, e3, e4⟩ := h
    exact ⟨d, dr, v, vr, e1, e2, Rep.frame f (fun a h => .inl h) _ _ e3, RepLm.keep f kp e4⟩
  | .lam k b caps r, ds, vs, h => by
    unfold RepLm at h ⊢
    obtain ⟨cs, dr, fa, vr, t, js, e1, e2, e3, ⟨c', e4, e5⟩, e6, e7, e8, e9, e10, e11, e12, e13, e14⟩ := h
    exact ⟨cs, dr, fa, vr, t, js, e1, e2, e3, ⟨c', kp _ _ e4, kp _ _ e5⟩, e6, e7, e8, e9, e10, e11, e12, e13, RepLm.keep f kp e14⟩
def tLA (G : GC) (X : Cx) (F : Fx) (co : Co) (pf : PF) (pc : PC) (ies : IEs) : TA := fun σ H Q => ∃ W env k, Rel F.P (co.f k) F.W0 W F.H0 H env σ ∧ wEs pf pc ies env (fun ds => ∀ vs H', Ext F.P k H H' → RepLm G X F.P pc env W H' ies ds vs → Q vs H') (xk F k W σ H)
theorem la_nil (o : XOk G c F pf pc n X) : PA X [] (tLA G X F Co.one pf pc .nil) := by
  refine PA.imp pa_nil fun σ H Q ⟨W, env, kx, rel, hw⟩ => ?_
  unfold wEs at hw
  exact hw [] H (Ext.refl rel.strm) (by unfold RepLm; exact ⟨rfl, rfl⟩)
theorem Ext.code {P : Par} {k : Nat} {H H' : Hp} (e : Ext P k H H') (hs : ∀ a, P.T a → NE H a) : ∀ a φ, H a = some (.ext φ) → H' a = some (.ext φ) := fun a φ h => e.keep a _ (fun z => by
  obtain ⟨u, e1, e2⟩ := hs a z
  rw [h] at e1
  exact e2 φ (Option.some.inj e1).symm) h
theorem la_cons {c1 c2 : Co} (o : XOk G c F pf pc n X) {r : List Expr} {x : IE} {xs : IEs} {fr : Bool} (hs : notStar e = true) (he : PE X e (tD F fr c1 (wE pf pc x))) (hr : PA X r (tLA G X F c2 pf pc xs)) : PA X (e :: r) (tLA G X F (c1.comp c2) pf pc (.cons x xs)) := by
  refine PA.imp (pa_cons he hr (star_of hs)) fun σ H Q ⟨W, env, kx, rel, hw⟩ => ?_
  unfold wEs at hw
  refine goV o.mf o.mc rel hw (fun _ h => h) fun d v H1 hd e1 rel1 r1 _ => ⟨W, env, kx, rel1, wEs_mono o.mf o.mc xs env _ _ _ _ (fun ds hds vs H2 e2 r2 => ?_) (fun _ h => h.ext e1) hd⟩
  exact hds (v :: vs) H2 (e1.trans e2) (by unfold RepLm; exact ⟨d, ds, v, vs, rfl, rfl, r1.keep rel1 e2, r2⟩)
theorem capSlots_at (o : XOk G c F pf pc n X) : ∀ {fr : List Str} {js : List Nat}, capSlots c fr = some js → js.length = fr.length ∧ ∀ (i : Nat) (y : Str), fr[i]? = some y → ∃ j, js[i]? = some j ∧ X.N[j]? = some y
  | [], js, h => by
    unfold capSlots at h
    cases h
    exact ⟨rfl, fun i y z => by simp at z⟩
  | y :: fr, js, h => by
    unfold capSlots at h
    obtain ⟨j, hj, h⟩ := Option.bind_eq_some_iff.mp h
    obtain ⟨js', hjs, rfl⟩ := Option.map_eq_some_iff.mp h
    obtain ⟨h1, h2⟩ := capSlots_at o hjs
    refine ⟨by rw [List.length_cons, List.length_cons, h1], fun i z hz => ?_⟩
    cases i with
    | zero =>
      simp at hz
      subst hz
      exact ⟨j, rfl, (cName_ok o hj).1⟩
    | succ i =>
      obtain ⟨j', e1, e2⟩ := h2 i z (by simpa using hz)
      exact ⟨j', by simpa using e1, e2⟩
theorem la_lam {c2 : Co} (o : XOk G c F pf pc n X) (hlm : c.lm = true) {r : List Expr} {xs : IEs} {params : Arguments} {body : Expr} {scope : Scope} {lpos : Pos} {b : IE} {js : List Nat} {fuel : Nat} (hp : noParams params = true) (hs : lamSB c.sc scope = true) (hn : NdefX.nscB (lamFr scope) [] (lamFr scope) scope = true)
    (hb : cE G ⟨lamFr scope, scope, fun _ => false, false⟩ fuel body = some b) (hj : capSlots c (lamFr scope) = some js) (hr : PA X r (tLA G X F c2 pf pc xs)) : PA X (.Lambda params body scope lpos :: r) (tLA G X F c2 pf pc (.lam (lamKey lpos) b js xs)) := by
  have LH := o.lam hlm
  obtain ⟨cc, P', TB, hcode, hT, tab, sok⟩ := LH.ex
  have LS : LamS X.env.scope scope := by rw [o.sc]; exact lamS_by hs
  obtain ⟨hlen, hat⟩ := capSlots_at o hj
  have NS := NdefX.nscope_by hn
  have key : PE X (.Lambda params body scope lpos) (fun σ H Q => ∃ W env k, Rel F.P k F.W0 W F.H0 H env σ ∧ ∀ f H1, Ext F.P k H H1 → ¬ W f → LamAt X ⟨params, body, scope, lamFr scope⟩ f H1 → Q (.ref f) H1) := by
    refine ⟨fun pins s σ H Q I ⟨W, env, k, rel, hq⟩ => ?_⟩
    refine made (fr := lamFr scope) I TB hcode (tab k H rel.strm) (defaults_none hp) (LS.has I.ok) fun f H1 s' I1 kp nf T1 LA => ?_
    have e : Ext F.P k H H1 := ⟨fun a ob nT q => kp a ob (fun z => nT (z ▸ hT)) q, sok k H H1 rel.strm kp T1, fun a ha => by
      by_cases z : a = P'
      · obtain ⟨ps, h1, _⟩ := T1
        rw [z, h1]
        exact fun q => nomatch q
      · cases q : H a with
        | none => exact absurd q ha
        | some u =>
          rw [kp a u z q]
          exact fun q => nomatch q⟩
    exact ⟨.ref f, H1, I1, rfl, hq f H1 e (rel.newW nf) LA⟩
  refine PA.imp (pa_cons key hr rfl) fun σ H Q ⟨W, env, kx, rel, hw⟩ => ?_
  unfold wEs at hw
  obtain ⟨hlam, cs, hc, hno, hw⟩ := hw
  refine ⟨W, env, c2.f kx, rel, fun f H1 e1 nf LA => ?_⟩
  have rel1 := rel.ext e1
  refine ⟨W, env, kx, rel1, wEs_mono o.mf o.mc xs env _ _ _ _ (fun ds hds vs H2 e2 r2 => ?_) (fun _ h => h.ext e1) hw⟩
  refine hds (.ref f :: vs) H2 (e1.trans e2) ?_
  unfold RepLm
  obtain ⟨c', l1, l2⟩ := LA
  have kp := e2.code fun a h => rel1.wk a (rel1.w0 a (rel1.tw a h))
  exact ⟨cs, ds, f, vs, ⟨params, body, scope, lamFr scope⟩, js, rfl, rfl, nf, ⟨c', kp _ _ l1, kp _ _ l2⟩, ⟨fuel, hp, hn, hb⟩, hlen ▸ hlam, LS, hc, hno, rfl, fun i y hy => by
    obtain ⟨j, h1, h2⟩ := hat i y hy
    exact ⟨j, h1, h2, NS.frk y (List.mem_of_getElem? hy)⟩, hlen, r2⟩
/-- with the cells lent, the lambdas are what they shall be -/
theorem capsD_rep {env : DEnv} {P : Par} {kk : Nat} {W0 W : Addr → Prop} {S : Sn} {H : Hp} {σ : L2.St} (rel : Rel P kk W0 W S H env σ) : ∀ {js : List Nat} {cs : List D}, capsD env js = some cs → ∃ vs, RepL P W H cs vs ∧ vs.length = js.length ∧ ∀ (i : Nat) (v : V), vs[i]? = some v → ∃ j, js[i]? = some j ∧ σ[j]? = some (some v)
  | [], cs, h => by
    unfold capsD at h
    cases h
    exact ⟨[], RepL.nil_iff.mpr rfl, rfl, fun i v z => by simp at z⟩
  | j :: js, cs, h => by
    unfold capsD at h
    split at h
    · rename_i d hd
      obtain ⟨ds, h1, rfl⟩ := Option.map_eq_some_iff.mp h
      obtain ⟨v, hv, rv⟩ := rel.val j d hd
      obtain ⟨vs, g1, g2, g3⟩ := capsD_rep rel h1
      refine ⟨v :: vs, RepL.mk rv g1, by rw [List.length_cons, List.length_cons, g2], fun i w hw => ?_⟩
      cases i with
      | zero =>
        simp at hw
        subst hw
        exact ⟨j, rfl, hv⟩
      | succ i =>
        obtain ⟨j', e1, e2⟩ := g3 i w (by simpa using hw)
        exact ⟨j', by simpa using e1, e2⟩
    · cases h
theorem fr_lend {σ : L2.St} {H : Hp} {s : Shared} {L : Cells} {W : Addr → Prop} (hc : HasCells X σ H s L) : Fr W H (lend H L) := fun a u nw ok hh => by
  cases u <;> first
    | (show lend H L a = _
       exact hc.free.lent hh)
    | (rcases hh with hh | ⟨o2, hh⟩
       · exact .inl (hc.free.lent hh)
       · exact .inr ⟨o2, hc.free.lent hh⟩)
theorem repLm_rep (o : XOk G c F pf pc n X) (hlm : c.lm = true) {kk : Nat} {W : Addr → Prop} {env : DEnv} {σ : L2.St} {H : Hp} {s : Shared} {L : Cells} (rel : Rel F.P kk F.W0 W F.H0 H env σ) (hc : HasCells X σ H s L) (okx : X.Ok) : ∀ {es : IEs} {ds : List D} {vs : List V}, RepLm G X F.P pc env W H es ds vs → RepL F.P W (lend H L) ds vs
  | .nil, ds, vs, h => by
    unfold RepLm at h
    obtain ⟨rfl, rfl⟩ := h
    exact RepL.nil_iff.mpr rfl
  | .cons e r, ds, vs, h => by
    unfold RepLm at h
    obtain ⟨d, dr, v, vr, rfl, rfl, e3, e4⟩ := h
    exact RepL.mk (Rep.frame (fr_lend hc) (fun a h => .inl h) _ _ e3) (repLm_rep o hlm rel hc okx e4)
  | .lam k b caps r, ds, vs, h => by
    have fr := fr_lend (W := W) hc
    unfold RepLm at h
    obtain ⟨cs, dr, f, vr, t, js, rfl, rfl, nf, ⟨c', e4, e5⟩, lc, hl, LS, e9, e10, rfl, e12, e13, e14⟩ := h
    refine RepL.mk ?_ (repLm_rep o hlm rel hc okx e14)
    obtain ⟨ws, g1, g2, g3⟩ := capsD_rep rel e9
    have LH := o.lam hlm
    have hfree : ∀ y ∈ t.scope.names, y.2 = .free → ∃ c, X.env.cells.lookup y.1 = some c := LS.has okx
    unfold Rep
    refine ⟨f, ws, rfl, e10, RepL.frame fr (fun a h => .inl h) _ _ g1, t, _, cloFrom X.env.cells t.scope.names [], c', L, LH.lok _ _ _ hl lc, by rw [g2, e13], nf, hc.free.lent e4, ?_, hc.free.lent e5, ?_, ?_, ?_, ?_⟩
    · intro z
      obtain ⟨u, h1, h2⟩ := rel.wk _ z
      rw [e5] at h1
      exact h2 _ (Option.some.inj h1).symm
    · intro b ob q
      exact ⟨fun z => by
        have := hc.free b ob q
        exact (rel.wk b z).some this, lend_in q, hc.isC b ob q⟩
    · intro y b q
      exact hc.cell y b (NdefX.clo_cm hfree q)
    · intro y z b q1 q2
      exact okx.inj y z b (NdefX.clo_cm hfree q1) (NdefX.clo_cm hfree q2)
    · intro i y v hy hv
      obtain ⟨j, h1, h2, h3⟩ := e12 i y hy
      obtain ⟨j', h4, h5⟩ := g3 i v hv
      rw [h1] at h4
      cases h4
      have hm := PySem.mem_of_lookup h3
      obtain ⟨b, ob, u, k1, k2, k3, k4⟩ := hc.val j y v h2 h5 (LS.free _ hm rfl)
      obtain ⟨b', hb'⟩ := mem_lookup (cloFrom_has (cells := X.env.cells) (acc := []) hm)
      have := NdefX.clo_cm hfree hb'
      rw [k1] at this
      cases this
      exact ⟨b, ob, u, hb', k2, k3, k4⟩
/-! ### the call -/
section
variable {P : Par} {k : Nat} {H H' : Hp} {L : Cells} {W : Addr → Prop}
theorem lent_sok {σ : L2.St} {s : Shared} (hc : HasCells X σ H s L) (ht : ∀ a, P.T a → H a ≠ none) (h : P.sok k H) : P.sok k (lend H L) := P.sokFr k H _ (fun a ha => by
  cases q : H a with
  | none => exact absurd q (ht a ha)
  | some u => exact (hc.free.lent q).symm) (fun c q e => hc.free.lent e) h
theorem lent_kept (hf : Free H L) (ht : ∀ a, P.T a → H a ≠ none) (e : Ext P k (lend H L) H') : Kept H' L := fun c o q => e.keep c _ (fun z => ht c z (hf c o q)) (lend_in q)
theorem lent_back {σ : L2.St} {s : Shared} (hc : HasCells X σ H s L) (ht : ∀ a, P.T a → H a ≠ none) (e : Ext P k (lend H L) H') : Ext P k H (unlend H' L) := by
  have kt := lent_kept hc.free ht e
  refine ⟨fun a o nT h => ?_, P.sokFr k H' _ (fun a ha => ?_) (fun c q h => ?_) e.strm, fun a ha => ?_⟩
  · rw [unlend_out (hc.free.out h)]
    exact e.keep a o nT (hc.free.lent h)
  · cases q : H a with
    | none => exact absurd q (ht a ha)
    | some u => exact (unlend_out (hc.free.out q)).symm
  · cases z : L.lookup c with
    | some o =>
      have := kt c o z
      rw [h] at this
      exact absurd (Option.some.inj this).symm (hc.noCode z q)
    | none => rw [unlend_out z]; exact h
  · cases q : H a with
    | none => exact absurd q ha
    | some u =>
      rw [unlend_out (hc.free.out q)]
      exact e.dom a (by rw [hc.free.lent q]; exact fun z => nomatch z)
theorem rdd_unlend (kt : Kept H' L) : ∀ a u, ¬ W a → notExt u → Rdd H' a u → Rdd (unlend H' L) a u := fun a u _ ne h => by
  cases u <;> first
    | exact ne.elim
    | (have h : H' a = _ := h
       show unlend H' L a = _
       rw [unlend_out (kt.out h fun _ z => nomatch z)]
       exact h)
    | (rcases h with h | ⟨o2, h⟩
       · exact .inl (by rw [unlend_out (kt.out h fun _ z => nomatch z)]; exact h)
       · exact .inr ⟨o2, by rw [unlend_out (kt.out h fun _ z => nomatch z)]; exact h⟩)
theorem xrep_unlend {x : XV} {cls : Value} {dd : Option Addr} (kt : Kept H' L) (hn : noCloX x = true) (h : XRep P W H' x cls dd) : XRep P W (unlend H' L) x cls dd := by
  obtain ⟨C, f, dx, v, a, h1, h2, h3, h4, h5, h6⟩ := h
  unfold noCloX at hn
  rw [h4] at hn
  exact ⟨C, f, dx, v, a, h1, h2, h3, h4, by rw [unlend_out (kt.out h5 fun _ z => nomatch z)]; exact h5, Rep.unext (rdd_unlend kt) a v hn h6⟩
end
theorem snd_CallL {c1 : Co} (o : XOk G c F pf pc n X) (hlm : c.lm = true) {g : Str} {k : Nat} {p : Pos} {es : List Expr} {e : Expr} {xs : IEs} (hG : G.fns.lookup g = some k) (hg : isGl c g = true) (hs : (e :: es).all notStar = true) (ha : PA X (e :: es) (tLA G X F c1 pf pc xs)) :
    PE X (.Call (.Name g p) (e :: es) [] pos) (tD F false (c1.comp (F.cf k)) (wE pf pc (.callL k xs))) := by
  obtain ⟨f, fd, ps, h1, h2, h3, h4, h5⟩ := (o.fns g k hG).ex
  obtain ⟨g1, g2, g3⟩ := isGl_ok o hg
  simp only [List.all_cons, Bool.and_eq_true] at hs
  have LH := o.lam hlm
  refine ⟨fun pins s σ H Q I ⟨W, env, kk, rel, hw⟩ => ?_⟩
  unfold wE at hw
  refine wpAny_Call_Name_kw (ld_glob I g1 h1 ?_ g2)
  refine PySem.W.callWith_K (h₀ := X.base) I.ok.mod.kin h2 (thn (ha.run pos pins s σ H (fun vs H1 => ∀ s1 L, HasCells X σ H1 s1 L → spD F.P (F.cf k) (pf k) vs (lend H1 L) (fun v H' => Kept H' L ∧ Q v (unlend H' L)) (fun cls dd H' => Kept H' L ∧ WE F.Wx σ cls dd (unlend H' L))) I
    ⟨W, env, (F.cf k).f kk, rel, wEs_mono o.mf o.mc xs env _ _ _ _ (fun ds hd vs H1 e1 r1 s1 L hc => ?_) (fun _ h => h.le (Co.le _ _)) hw⟩) fun us s1 ⟨vs, H1, I1, r, q⟩ => ⟨I1.kIn, ?_⟩) (star_of hs.1) (star_all hs.2)
  · have rel1 := rel.ext e1
    have ht := rel1.t0
    refine ⟨W, ds, kk, repLm_rep o hlm rel1 hc I.ok r1, fun a h => ?_, fun a h => rel1.w0 _ (rel1.tw a h), lent_sok hc ht rel1.strm, o.mf k ds _ _ _ _ (fun d ⟨hn, hd⟩ v H' e r => ?_) (fun x ⟨hn, hx⟩ cls dd H' e r => ?_) hd⟩
    · obtain ⟨u, z1, z2⟩ := rel1.wk a h
      exact ⟨u, hc.free.lent z1, z2⟩
    · have kt := lent_kept hc.free ht e
      exact ⟨kt, hd v _ (e1.trans (lent_back hc ht e)) (Rep.unext (rdd_unlend kt) d v hn r) fun z => nomatch z⟩
    · have kt := lent_kept hc.free ht e
      exact ⟨kt, hx cls dd _ (e1.trans (lent_back hc ht e)) (xrep_unlend kt hn r)⟩
  · have hc := cells_of I1 LH.fn
    exact run_fnL h3 o.room h4 (passAt o.tk σ) I1 r hc (q s1 _ hc)
end
end Dl
namespace Dl
open PySem PySem.Spec PyProof.Rows L2 LiI
/-! ### list(d.items()), d also while a loop walks it -/
def tItems (te : TE) : TE := fun σ H Q => te σ H fun x H1 => ∃ (d : Addr) (kvs : List (Key × V)), x = .ref d ∧ Rd H1 d (.dK kvs) ∧
  ∀ (H2 : Hp) (p : Addr) (ts : List Addr), (∀ b o, H1 b = some o → H2 b = some o) → H1 p = none → (∀ t ∈ ts, H1 t = none) → p ∉ ts → H2 p = some (.lst (ts.map V.ref)) → Paired (fun (t : Addr) (q : Key × V) => H2 t = some (.tup [kV q.1, q.2])) ts kvs → Q (.ref p) H2
section
variable {X : Cx} {e : Expr} {te : TE} {p apos cpos pos : Pos}
theorem pe_items (hc : X.calm = true) (he : PE X e te) (hg : Gl X "list") (hm : X.mg "list" = none) (hbase : attributeBase e "items" X.env (eval e X.env) = eval e X.env) (hline : (apos.endLine == cpos.line) = true) :
    PE X (.Call (.Name "list" p) [.Call (.Attribute e "items" apos) [] [] cpos] [] pos) (tItems te) := by
  refine ⟨fun pins s σ H Q I hq => wpAny_Call_Name_kw (ld_blt I hg hm boot_list ?_)⟩
  refine PyProof.Rows.callWith_type1 (Calls.spliced_cons ?_) rfl rfl
  refine wpAny_Call_method (T := "dict") (id := "dict.items") hbase rfl hline PySem.F.plainAttrs_dict PySem.F.slot_dict_items PySem.F.type_dict_items ?_
  refine thn (he.run pins s σ H _ I hq) ?_
  rintro u s1 ⟨x, H1, I1, rx, d, kvs, rfl, rd, q⟩
  obtain rfl : u = Value.ref d := rx
  have ob : ObjOk X.prog X.w H1 s1.heap d (.dK kvs) := rd.ok I1.hok
  obtain ⟨size, low, vs, kv, dict⟩ := ob
  obtain ⟨ep, at_⟩ := dict.dictAt
  have same := Paired.length kv
  have I2 : Inv X pins σ H1 { s1 with heap := s1.heap.push { cls := .type "dict_items", data := .fields #[.ref d] } } := I1.kept (t' := s1.toks) fun b ob z => Heap.get?_push_of_some _ z
  refine ⟨dict.typeIs, dict.mapOf.noDict, ?_⟩
  refine method_meetsIn PySem.F.slot_dict_items PySem.F.entry_dict_items rfl (PySem.evalArgs_none ⟨rfl, dict.typeIs, PySem.F.args_dict_items_1 _, _, meets_dict_items (mixKind X.prog X.w) d low, ⟨vs, dict⟩, Calls.spliced_nil ?_⟩)
  refine PySem.W.kdx_call (knd := mixKind X.prog X.w) (kvs := vs) (ep := ep) (I1.ok.hd hc) ⟨_, Heap.get?_push_size _ rfl, rfl, rfl⟩ (at_.push _) (by omega) ?_
  intro h2 tk acc cnt as keeps hS hl hG hacc
  obtain ⟨H2, g1, g2, g3, g4, g5, g6, J⟩ := items_laid (tk := tk) I2 size kv keeps hS hl hG hacc
  exact ⟨.ref _, H2, J, rfl, q H2 _ as g1 g2 g3 g4 g5 g6⟩
end
section
variable {G : GC} {c : CC} {F : Fx} {pf : PF} {pc : PC} {n : Nat} {X : Cx} {e : Expr} {pos : Pos} {x : IE}
theorem items_rep {P : Par} {W W' : Addr → Prop} {H H2 : Hp} (f : Fr W H H2) (hw : ∀ a, W' a → W a ∨ H a = none) : ∀ {kds : List (Key × D)} {kvs : List (Key × V)} {ts : List Addr}, RepX P W H kds kvs → (∀ kv ∈ kvs, KeyOk kv.1) → (∀ t ∈ ts, ¬ W' t) →
    Paired (fun (t : Addr) (q : Key × V) => H2 t = some (.tup [kV q.1, q.2])) ts kvs → RepL P W' H2 (kds.map fun kv => .tup [keyVal kv.1, kv.2]) (ts.map V.ref)
  | [], kvs, ts, r, _, _, pr => by
    unfold RepX at r
    subst r
    cases pr
    exact RepL.nil_iff.mpr rfl
  | (k, d) :: kds, kvs, ts, r, hk, ht, pr => by
    unfold RepX at r
    obtain ⟨v, s, rfl, r1, r2⟩ := r
    cases pr with
    | cons h1 h2 =>
      rename_i t ts'
      refine RepL.mk (Rep.tup.mpr ⟨t, _, rfl, ht t List.mem_cons_self, h1, show 2 ≤ sizeLine by decide, RepL.mk ?_ (RepL.one (Rep.frame f hw _ _ r1))⟩) (items_rep f hw r2 (fun kv z => hk kv (List.mem_cons_of_mem _ z)) (fun t z => ht t (List.mem_cons_of_mem _ z)) h2)
      have ok := hk (k, v) List.mem_cons_self
      cases k with
      | inl i => exact Rep.int.mpr rfl
      | inr s => exact Rep.str.mpr ⟨rfl, ok⟩
theorem snd_Items {c1 : Co} (o : XOk G c F pf pc n X) {p apos cpos : Pos} (hm : X.mg "list" = none) (hg : isGl c "list" = true) (hn : notSuper e = true) (hl : (apos.endLine == cpos.line) = true) (he : PE X e (tDB F c1 (bor x (wE pf pc x)))) :
    PE X (.Call (.Name "list" p) [.Call (.Attribute e "items" apos) [] [] cpos] [] pos) (tD F true c1 (wE pf pc (.items x))) := by
  refine PE.imp (pe_items o.calm he (isGl_ok o hg).1 hm (no_super hn) hl) fun σ H Q ⟨W, env, kx, rel, hw⟩ => ?_
  unfold wE at hw
  refine goB o.mf o.mc rel hw (fun _ h => h) fun d v H1 hd e1 rel1 r1 => ?_
  unfold itD at hd
  split at hd
  · obtain ⟨a, kvs, rfl, ha, hz, rl⟩ := r1.dK
    refine ⟨a, kvs, rfl, ha, fun H2 q ts g1 g2 g3 g4 g5 g6 => ?_⟩
    have e2 := rel1.grow g1
    have hlen : (ts.map V.ref).length ≤ sizeLine := by
      rw [List.length_map, Paired.length g6]
      exact hz.1
    have nW : ∀ t ∈ ts, ¬ W t := fun t ht => rel1.newW (g3 t ht)
    refine hd (.ref q) H2 (e1.trans e2) (Rep.lst.mpr ⟨q, _, rfl, rel1.newW g2, g5, hlen, items_rep (rel1.fr e2) (fun a h => .inl h) rl hz.2 nW g6⟩) fun _ _ => ⟨q, rfl, ?_, _, g5, hlen, items_rep (rel1.fr e2) (fun a h => h.elim .inl fun z => .inr (z ▸ g2)) rl hz.2 (fun t ht z => z.elim (nW t ht) fun y => g4 (y ▸ ht)) g6⟩
    cases z : H q with
    | none => rfl
    | some w => exact absurd g2 (e1.dom q (by rw [z]; exact fun y => nomatch y))
  · exact hd.elim
end
end Dl
namespace Dl
open PySem PySem.Spec PyProof.Rows L2
/-! ### costs of expressions: cf tells what a def may cost -/
section
variable (cf : Nat → Co)
mutual
def coE : IE → Co
  | .slot _ => Co.one
  | .cn _ => Co.one
  | .bin _ a b => (coE a).comp (coE b)
  | .neg a => coE a
  | .cmp _ a b => (coE a).comp (coE b)
  | .chain _ _ a b c => (coE a).comp ((coE b).comp (coE c))
  | .and a b => (coE a).comp (coE b)
  | .or a b => (coE a).comp (coE b)
  | .not a => coE a
  | .ite t a b => (coE t).comp ((coE a).comp (coE b))
  | .tup es => coEs es
  | .lst es => coEs es
  | .dic ps => coPs ps
  | .idx a b => (coE a).comp (coE b)
  | .slc a lo hi => (coE a).comp ((coO lo).comp (coO hi))
  | .rev a => coE a
  | .call f es => (coEs es).comp (cf f)
  | .callk f es _ => (coEs es).comp (cf f)
  | .bi _ es => coEs es
  | .mt _ a es => (coE a).comp (coEs es)
  | .get a k d => (coE a).comp ((coE k).comp (coO d))
  | .isi a _ => coE a
  | .lc elt _ src c _ => lcCo (coSrc src) (coO c) (coE elt)
  | .lrg a b c => (coE a).comp ((coE b).comp (coE c))
  | .items a => coE a
  | .calls _ => cf lamK
  | .callL f es => (coEs es).comp (cf f)
def coEs : IEs → Co
  | .nil => Co.one
  | .cons e r => (coE e).comp (coEs r)
  | .lam _ _ _ r => coEs r
def coPs : IPs → Co
  | .nil => Co.one
  | .cons k v r => (coE k).comp ((coE v).comp (coPs r))
def coO : IO → Co
  | .none => Co.one
  | .some e => coE e
def coSrc : ISrc → Co
  | .val e => coE e
  | .enum e _ => coE e
  | .zip a b => (coE a).comp (coE b)
  | .rng a b _ => (coE a).comp (coE b)
end
end
section
variable {G : GC} {pf : PF} {pc : PC} {n : Nat}
/-- what every expression but the tests' gives -/
structure One (G : GC) (c : CC) (F : Fx) (pf : PF) (pc : PC) (X : Cx) (e : Expr) (ie : IE) : Prop where
  v : PE X e (tD F (fresh ie) (coE F.cf ie) (wE pf pc ie))
  b : PE X e (tDB F (coE F.cf ie) (bor ie (wE pf pc ie)))
  t : PT X e (tDT F (coE F.cf ie) (wT pf pc ie))
  s : ∀ i, ie = .slot i → PE X e (tVar i)
structure IHs (G : GC) (pf : PF) (pc : PC) (n f : Nat) : Prop where
  e : ∀ {c : CC} {F : Fx} {X : Cx}, XOk G c F pf pc n X → ∀ e ie, cE G c f e = some ie → PE X e (tD F (fresh ie) (coE F.cf ie) (wE pf pc ie))
  b : ∀ {c : CC} {F : Fx} {X : Cx}, XOk G c F pf pc n X → ∀ e ie, cE G c f e = some ie → PE X e (tDB F (coE F.cf ie) (bor ie (wE pf pc ie)))
  t : ∀ {c : CC} {F : Fx} {X : Cx}, XOk G c F pf pc n X → ∀ e ie, cE G c f e = some ie → PT X e (tDT F (coE F.cf ie) (wT pf pc ie))
  v : ∀ {c : CC} {F : Fx} {X : Cx}, XOk G c F pf pc n X → ∀ e i, cE G c f e = some (.slot i) → PE X e (tVar i)
  bi : ∀ {c : CC} {F : Fx} {X : Cx}, XOk G c F pf pc n X → ∀ g args p cp ie, cBi G c f g args = some ie → isGl c g = true → G.fns.lookup g = none → One G c F pf pc X (.Call (.Name g p) args [] cp) ie
  sv : ∀ {c : CC} {F : Fx} {X : Cx}, XOk G c F pf pc n X → ∀ e i, cSrc G c f e = some (.val (.slot i)) → PE X e (tVar i)
  w : ∀ {c : CC} {F : Fx} {X : Cx}, XOk G c F pf pc n X → ∀ op vs p ie, cE G c f (.BoolOp op vs p) = some ie → PW X (.BoolOp op vs p) (tDT F (coE F.cf ie) (wT pf pc ie))
  es : ∀ {c : CC} {F : Fx} {X : Cx}, XOk G c F pf pc n X → ∀ es ies, cEs G c f es = some ies → PA X es (tDA F (coEs F.cf ies) (wEs pf pc ies)) ∧ es.all notStar = true ∧ (es = [] → ies = .nil)
  bs : ∀ {c : CC} {F : Fx} {X : Cx}, XOk G c F pf pc n X → ∀ es ies, cEs G c f es = some ies → PA X es (tDBA F (coEs F.cf ies) (wBs pf pc ies))
  ls : ∀ {c : CC} {F : Fx} {X : Cx}, XOk G c F pf pc n X → c.lm = true → ∀ es ies, cLs G c f es = some ies → PA X es (tLA G X F (coEs F.cf ies) pf pc ies) ∧ es.all notStar = true
  pk : ∀ {c : CC} {F : Fx} {X : Cx}, XOk G c F pf pc n X → ∀ kws ies, cEs G c f (kwVals kws) = some ies → PK X kws (tDA F (coEs F.cf ies) (wEs pf pc ies))
  ps : ∀ {c : CC} {F : Fx} {X : Cx}, XOk G c F pf pc n X → ∀ ks vs ips pos, cPs G c f ks vs = some ips → PPD F (coPs F.cf ips) pf pc X pos ks vs ips
  o : ∀ {c : CC} {F : Fx} {X : Cx}, XOk G c F pf pc n X → ∀ o io, cO G c f o = some io → PO X o (tDO F (coO F.cf io) (wO pf pc io))
  i : ∀ {c : CC} {F : Fx} {X : Cx}, XOk G c F pf pc n X → ∀ es io, cIfs G c f es = some io → PTs X es (tDC F (coO F.cf io) (wC pf pc io))
  s : ∀ {c : CC} {F : Fx} {X : Cx}, XOk G c F pf pc n X → ∀ tg e m src, cSrc G c f e = some src → tgOk src tg = true → PI X tg e (tDI F m (coSrc F.cf src) (wSrc pf pc m src))
section
variable {c : CC} {F : Fx} {X : Cx} {e : Expr} {ie : IE}
theorem weak {co : Co} {fr fr' : Bool} {w : WT} (hw : ∀ env Q Q' E, (∀ d, Q d → Q' d) → w env Q E → w env Q' E) (h : PE X e (tD F fr co w)) (hf : fr' = true → fr = true) : PE X e (tD F fr' co w) :=
  PE.imp h fun σ H Q ⟨W, env, k, rel, q⟩ => ⟨W, env, k, rel, hw _ _ _ _ (fun d hd v H' e r f => hd v H' e r fun z => f (hf z)) q⟩
theorem weakE {co : Co} (o : XOk G c F pf pc n X) {fr : Bool} (h : PE X e (tD F fr co (wE pf pc ie))) : PE X e (tD F false co (wE pf pc ie)) := weak (fun env Q Q' E hq h => wE_mono o.mf o.mc ie env _ _ _ _ hq (fun _ z => z) h) h fun z => nomatch z
theorem isNeg1_of {t : Expr} (h : isNeg1 t = true) : ∃ k p1 p2, t = .UnaryOp .USub (.Constant (.int 1) k p1) p2 := by
  unfold isNeg1 at h
  split at h
  · have := of_decide_eq_true h
    subst this
    exact ⟨_, _, _, rfl⟩
  · cases h
theorem sok_of {s : Str} (h : sokB s = true) : SOk s := by
  unfold sokB at h
  simp only [Bool.and_eq_true, decide_eq_true_eq, List.all_eq_true] at h
  exact ⟨Nat.le_trans h.1 (by rw [sizeLine_eq]; omega), h.2⟩
theorem snd_K {v : Const} {k : Nat} {pos : Pos} (h : cK v = some ie) : PE X (.Constant v k pos) (tD F (fresh ie) (coE F.cf ie) (wE pf pc ie)) ∧ notSlot ie = true ∧ plainT ie = true := by
  unfold cK at h
  split at h
  · cases h; exact ⟨snd_cn pe_int rfl fun _ _ => Rep.int.mpr rfl, rfl, rfl⟩
  · cases h; exact ⟨snd_cn pe_bl rfl fun _ _ => Rep.bl.mpr rfl, rfl, rfl⟩
  · cases h; exact ⟨snd_cn pe_non rfl fun _ _ => Rep.non.mpr rfl, rfl, rfl⟩
  · split at h
    · rename_i hs
      cases h
      exact ⟨snd_cn pe_str rfl fun _ _ => Rep.str.mpr ⟨rfl, sok_of hs⟩, rfl, rfl⟩
    · cases h
  · cases h
theorem snd_G (o : XOk G c F pf pc n X) {x : Str} {d : D} {pos : Pos} (hg : isGl c x = true) (h : G.cns.lookup x = some d) : PE X (.Name x pos) (tD F false Co.one (wE pf pc (.cn d))) := by
  obtain ⟨g1, g2, g3⟩ := isGl_ok o hg
  obtain ⟨h1, v, u, h2, h3, h4⟩ := o.cns x d h
  exact snd_cn (pe_glob g1 h2 h3 g2) h1 h4
theorem One.of (o : XOk G c F pf pc n X) (h : PE X e (tD F (fresh ie) (coE F.cf ie) (wE pf pc ie))) (hn : notSlot ie = true) (hp : plainT ie = true) (he : ∀ whole, PySem.isTrue e X.env whole = (do let v ← whole; standAt e.pos; holding [v] (truthy v))) : One G c F pf pc X e ie :=
  ⟨h, toB o hn h, toT o hp (toB o hn h) he, fun i e => by rw [e] at hn; cases hn⟩
theorem slot_one (o : XOk G c F pf pc n X) {x : Str} {i : Nat} {p : Pos} (h : cName c x = some i) : One G c F pf pc X (.Name x p) (.slot i) :=
  ⟨snd_slot o h, snd_slotB o h, toT o rfl (snd_slotB o h) fun _ => rfl, fun j e => by
    cases e
    obtain ⟨h1, h2, h3, h4⟩ := cName_ok o h
    exact pe_var h1 h2 h3 h4⟩
theorem blk_ok (o : XOk G c F pf pc n X) (H0 : Sn) {scope : Scope} {s : Shared} {H : Hp} {C : Addr} {cl : List (Str × Addr)} {fp : List Addr} :
    XOk G ⟨c.N, relS scope c.sc, fun x => scope.names.lookup x == some .cell, false⟩ (noX F H0) pf pc n (X.blk s H scope (compEnvC scope cl C X.env) fp) :=
  ⟨o.N, o.nd, by rw [← o.sc]; rfl, rfl, o.K, o.calm, o.room, LamX.takes0, fun g k h => ⟨(o.fns g k h).ex⟩, o.cns, o.blt, o.mf, o.mc, o.clo, fun z => nomatch z⟩
theorem one_cE (hG : ∀ x ∈ bltNames, G.fns.lookup x = none) {f : Nat} (ih : IHs G pf pc n f) (o : XOk G c F pf pc n X) (h : cE G c (f + 1) e = some ie) : One G c F pf pc X e ie ∧ (∀ op vs p, e = .BoolOp op vs p → PW X e (tDT F (coE F.cf ie) (wT pf pc ie))) := by
  have nb : ∀ {e : Expr} {ie : IE}, One G c F pf pc X e ie → (∀ op vs p, e ≠ .BoolOp op vs p) → One G c F pf pc X e ie ∧ (∀ op vs p, e = .BoolOp op vs p → PW X e (tDT F (coE F.cf ie) (wT pf pc ie))) := fun h1 h2 => ⟨h1, fun op vs p e => absurd e (h2 op vs p)⟩
  cases e with
  | Name x p =>
    unfold cE at h
    simp only at h
    refine nb ?_ fun _ _ _ z => nomatch z
    split at h
    · rename_i i hi
      cases h
      exact slot_one o hi
    · split at h
      · rename_i hg
        obtain ⟨d, hd, rfl⟩ := Option.map_eq_some_iff.mp h
        exact One.of o (snd_G o hg hd) rfl rfl fun _ => rfl
      · cases h
  | Constant v k p =>
    unfold cE at h
    simp only at h
    obtain ⟨h1, h2, h3⟩ := snd_K (F := F) (pf := pf) (pc := pc) (X := X) (k := k) (pos := p) h
    exact nb (One.of o h1 h2 h3 fun _ => rfl) fun _ _ _ z => nomatch z
  | BinOp a op b p =>
    unfold cE at h
    simp only at h
    obtain ⟨q, hq, h⟩ := Option.bind_eq_some_iff.mp h
    obtain ⟨x, hx, h⟩ := Option.bind_eq_some_iff.mp h
    obtain ⟨y, hy, rfl⟩ := Option.map_eq_some_iff.mp h
    exact nb (One.of o (snd_Bin o hq (ih.b o a x hx) (ih.b o b y hy)) rfl rfl fun _ => rfl) fun _ _ _ z => nomatch z
  | UnaryOp op a p =>
    unfold cE at h
    simp only at h
    refine nb ?_ fun _ _ _ z => nomatch z
    split at h
    · obtain ⟨x, hx, rfl⟩ := Option.map_eq_some_iff.mp h
      exact One.of o (snd_Neg o (ih.b o a x hx)) rfl rfl fun _ => rfl
    · obtain ⟨x, hx, rfl⟩ := Option.map_eq_some_iff.mp h
      exact ⟨snd_Not o (ih.b o a x hx), toB o rfl (fr := false) (snd_Not o (ih.b o a x hx)), snd_NotT o (ih.t o a x hx), fun i e => nomatch e⟩
    · cases h
  | BoolOp op vs p =>
    unfold cE at h
    simp only at h
    split at h
    · rename_i a
      have w : PW X (.BoolOp op [a] p) (tDT F (coE F.cf ie) (wT pf pc ie)) := by
        cases op
        · exact pw_and1 (ih.t o a ie h)
        · exact pw_or1 (ih.t o a ie h)
      exact ⟨⟨pe_one (ih.e o a ie h), pe_one (ih.b o a ie h), w.pt, fun i e => pe_one (ih.v o a i (e ▸ h))⟩, fun _ _ _ _ => w⟩
    · rename_i a b r
      obtain ⟨x, hx, h⟩ := Option.bind_eq_some_iff.mp h
      obtain ⟨y, hy, rfl⟩ := Option.map_eq_some_iff.mp h
      cases op
      · have v := snd_And (fr := false) o (weakE o (ih.e o a x hx)) (weakE o (ih.e o _ y hy)) rfl
        have w := snd_AndW o (ih.t o a x hx) (ih.w o _ _ _ y hy)
        exact ⟨⟨v, toB o rfl v, w.pt, fun i e => nomatch e⟩, fun _ _ _ _ => w⟩
      · have v := snd_Or (fr := false) o (weakE o (ih.e o a x hx)) (weakE o (ih.e o _ y hy)) rfl
        have w := snd_OrW o (ih.t o a x hx) (ih.w o _ _ _ y hy)
        exact ⟨⟨v, toB o rfl v, w.pt, fun i e => nomatch e⟩, fun _ _ _ _ => w⟩
    · cases h
  | IfExp t a b p =>
    unfold cE at h
    simp only at h
    obtain ⟨x, hx, h⟩ := Option.bind_eq_some_iff.mp h
    obtain ⟨y, hy, h⟩ := Option.bind_eq_some_iff.mp h
    obtain ⟨z, hz, rfl⟩ := Option.map_eq_some_iff.mp h
    have v := snd_Ite (pos := p) o (ih.t o t x hx) (weakE o (ih.e o a y hy)) (weakE o (ih.e o b z hz))
    exact nb ⟨v, toB o rfl v, snd_IteT o (ih.t o t x hx) (ih.t o a y hy) (ih.t o b z hz), fun i e => nomatch e⟩ fun _ _ _ z => nomatch z
  | Compare a ops bs p =>
    unfold cE at h
    simp only at h
    refine nb ?_ fun _ _ _ z => nomatch z
    split at h
    · rename_i op b
      split at h
      · cases h
      · rename_i hm
        obtain ⟨x, hx, h⟩ := Option.bind_eq_some_iff.mp h
        obtain ⟨y, hy, rfl⟩ := Option.map_eq_some_iff.mp h
        have hm := Bool.eq_false_iff.mpr hm
        have v := snd_Cmp (fr := false) (pos := p) o hm (ih.b o a x hx) (ih.b o b y hy)
        exact ⟨v, toB o rfl v, snd_CmpT o hm (ih.b o a x hx) (ih.b o b y hy), fun i e => nomatch e⟩
    · rename_i op op' b d
      split at h
      · cases h
      · rename_i hm
        obtain ⟨x, hx, h⟩ := Option.bind_eq_some_iff.mp h
        obtain ⟨y, hy, h⟩ := Option.bind_eq_some_iff.mp h
        obtain ⟨z, hz, rfl⟩ := Option.map_eq_some_iff.mp h
        have hm := Bool.eq_false_iff.mpr hm
        have v := snd_Chain (fr := false) (pos := p) o hm (ih.b o a x hx) (ih.b o b y hy) (ih.b o d z hz)
        exact ⟨v, toB o rfl v, snd_ChainT o hm (ih.b o a x hx) (ih.b o b y hy) (ih.b o d z hz), fun i e => nomatch e⟩
    · cases h
  | Tuple es k p =>
    unfold cE at h
    simp only at h
    obtain ⟨l, hl, h⟩ := Option.bind_eq_some_iff.mp h
    split at h
    · rename_i hz
      cases h
      exact nb (One.of o (snd_Tup o hz (ih.es o es l hl).1) rfl rfl fun _ => rfl) fun _ _ _ z => nomatch z
    · cases h
  | List es p =>
    unfold cE at h
    simp only at h
    obtain ⟨l, hl, h⟩ := Option.bind_eq_some_iff.mp h
    split at h
    · rename_i hz
      cases h
      exact nb (One.of o (snd_Lst o hz (ih.es o es l hl).1) rfl rfl fun _ => rfl) fun _ _ _ z => nomatch z
    · cases h
  | Subscript a s p =>
    unfold cE at h
    simp only at h
    refine nb ?_ fun _ _ _ z => nomatch z
    split at h
    · rename_i lo hi st q
      split at h
      · obtain ⟨x, hx, h⟩ := Option.bind_eq_some_iff.mp h
        obtain ⟨l, hl, h⟩ := Option.bind_eq_some_iff.mp h
        obtain ⟨u, hu, rfl⟩ := Option.map_eq_some_iff.mp h
        exact One.of o (snd_Slc o (ih.b o a x hx) (ih.o o lo l hl) (ih.o o hi u hu)) rfl rfl fun _ => rfl
      · rename_i t
        split at h
        · rename_i hc
          simp only [Bool.and_eq_true, Option.isNone_iff_eq_none] at hc
          obtain ⟨⟨h1, rfl⟩, rfl⟩ := hc
          obtain ⟨k, p1, p2, rfl⟩ := isNeg1_of h1
          obtain ⟨x, hx, rfl⟩ := Option.map_eq_some_iff.mp h
          exact One.of o (snd_Rev o (ih.b o a x hx)) rfl rfl fun _ => rfl
        · cases h
    · rename_i hs
      obtain ⟨x, hx, h⟩ := Option.bind_eq_some_iff.mp h
      obtain ⟨y, hy, rfl⟩ := Option.map_eq_some_iff.mp h
      have hs' : isSlice s = false := by
        cases s <;> first
          | rfl
          | exact (hs _ _ _ _ rfl).elim
      exact One.of o (snd_Idx o hs' (ih.b o a x hx) (ih.b o s y hy)) rfl rfl fun _ => rfl
  | Call fn args kws cp =>
    unfold cE at h
    simp only at h
    refine nb ?_ fun _ _ _ z => nomatch z
    cases fn <;> simp only [reduceCtorEq] at h
    case Name g p =>
      split at h
      · rename_i hg
        cases kws with
        | nil =>
          simp only at h
          split at h
          · rename_i k hk
            split at h
            · rename_i hla
              split at h
              · rename_i hlm
                obtain ⟨l, hl, rfl⟩ := Option.map_eq_some_iff.mp h
                obtain ⟨h1, h2⟩ := ih.ls o hlm args l hl
                cases args with
                | nil => cases hla
                | cons a as => exact One.of o (snd_CallL o hlm hk hg h2 h1) rfl rfl fun _ => rfl
              · cases h
            · obtain ⟨l, hl, rfl⟩ := Option.map_eq_some_iff.mp h
              obtain ⟨h1, h2, h3⟩ := ih.es o args l hl
              exact One.of o (snd_Call o hk hg h2 h1 h3) rfl rfl fun _ => rfl
          · rename_i hk
            exact ih.bi o g args p cp ie h hg hk
        | cons kw kws =>
          simp only at h
          split at h
          · obtain ⟨k, hk, h⟩ := Option.bind_eq_some_iff.mp h
            obtain ⟨ks, hks, h⟩ := Option.bind_eq_some_iff.mp h
            obtain ⟨perm, hp, h⟩ := Option.bind_eq_some_iff.mp h
            obtain ⟨l, hl, h⟩ := Option.bind_eq_some_iff.mp h
            split at h
            · rename_i hz
              cases h
              exact One.of o (snd_CallK o hk hg hks hp hz (ih.pk o _ l hl)) rfl rfl fun _ => rfl
            · cases h
          · cases h
      · split at h
        · rename_i hc
          rw [Bool.and_eq_true, List.isEmpty_iff, List.isEmpty_iff] at hc
          obtain ⟨rfl, rfl⟩ := hc
          obtain ⟨i, hi, rfl⟩ := Option.map_eq_some_iff.mp h
          exact One.of o (snd_Calls o hi) rfl rfl fun _ => rfl
        · cases h
    case Attribute ob m ap =>
      cases kws with
      | cons kw kws => simp only [reduceCtorEq] at h
      | nil =>
        simp only at h
        split at h
        · rename_i hc
          rw [Bool.and_eq_true] at hc
          obtain ⟨hn, hp⟩ := hc
          split at h
          · rename_i hm
            subst hm
            split at h
            · split at h
              · rename_i hs
                obtain ⟨x, hx, h⟩ := Option.bind_eq_some_iff.mp h
                obtain ⟨y, hy, rfl⟩ := Option.map_eq_some_iff.mp h
                exact One.of o (snd_Get1 o hn hs hp (ih.b o _ x hx) (ih.b o _ y hy)) rfl rfl fun _ => rfl
              · cases h
            · split at h
              · rename_i hs
                rw [Bool.and_eq_true] at hs
                obtain ⟨x, hx, h⟩ := Option.bind_eq_some_iff.mp h
                obtain ⟨y, hy, h⟩ := Option.bind_eq_some_iff.mp h
                obtain ⟨z, hz, rfl⟩ := Option.map_eq_some_iff.mp h
                exact One.of o (snd_Get2 o hn hs.1 hs.2 hp (ih.b o _ x hx) (ih.b o _ y hy) (ih.e o _ z hz)) rfl rfl fun _ => rfl
              · cases h
            · cases h
          · split at h
            · rename_i a r
              obtain ⟨m', hm', h⟩ := Option.bind_eq_some_iff.mp h
              split at h
              · rename_i hc
                rw [Bool.and_eq_true, decide_eq_true_eq] at hc
                obtain ⟨x, hx, h⟩ := Option.bind_eq_some_iff.mp h
                obtain ⟨l, hl, rfl⟩ := Option.map_eq_some_iff.mp h
                exact One.of o (snd_Txt o hm' hc.1 (ih.es o _ l hl).2.1 hc.2 hn hp (ih.b o _ x hx) (ih.bs o _ l hl)) rfl rfl fun _ => rfl
              · cases h
            · cases h
        · cases h
  | Dict ks vs p =>
    unfold cE at h
    simp only at h
    obtain ⟨l, hl, h⟩ := Option.bind_eq_some_iff.mp h
    split at h
    · rename_i hd
      cases h
      unfold dicOk at hd
      simp only [Bool.and_eq_true, decide_eq_true_eq] at hd
      obtain ⟨⟨⟨h1, h2⟩, h3⟩, h4⟩ := hd
      have P := ih.ps o ks vs l p hl
      refine nb ?_ fun _ _ _ z => nomatch z
      have key : PE X (.Dict ks vs p) (tD F true (coPs F.cf l) (wE pf pc (.dic l))) := by
        cases f with
        | zero => unfold cPs at hl; cases hl
        | succ f =>
          unfold cPs at hl
          split at hl
          · cases hl
            exact snd_Dic0 o
          · rename_i k ks v vs
            obtain ⟨x, hx, hl⟩ := Option.bind_eq_some_iff.mp hl
            obtain ⟨y, hy, hl⟩ := Option.bind_eq_some_iff.mp hl
            obtain ⟨r, hr, rfl⟩ := Option.map_eq_some_iff.mp hl
            exact snd_Dic o h1 h2 (by simp) h3 h4 (by simp) P
          · cases hl
      exact One.of o key rfl rfl fun _ => rfl
    · cases h
  | ListComp elt gens scope p =>
    unfold cE at h
    simp only at h
    refine nb ?_ fun _ _ _ z => nomatch z
    split at h
    · rename_i tg it ifs
      obtain ⟨src, hsrc, h⟩ := Option.bind_eq_some_iff.mp h
      obtain ⟨t, ht, h⟩ := Option.bind_eq_some_iff.mp h
      obtain ⟨x, hx, h⟩ := Option.bind_eq_some_iff.mp h
      obtain ⟨io, hio, h⟩ := Option.bind_eq_some_iff.mp h
      split at h
      · rename_i hc
        simp only [Bool.and_eq_true] at hc
        obtain ⟨⟨hb, hset⟩, htg⟩ := hc
        cases h
        have fold : ∀ y, foldedSetIterable it X.env y = pure y := fun y => by
          cases it <;> first
            | rfl
            | cases hset
        have hv : ∀ i, src = .val (.slot i) → PE X it (tVar i) := fun i e => ih.sv o it i (e ▸ hsrc)
        have blk : BlkOk X.N X.env.scope scope ((ownOfT t).map fun i => (c.N.getD i "", i)) := by
          rw [o.N, o.sc]
          exact blkOk_by hb
        have key := snd_Lc (fr := fresh x) (cs := coSrc F.cf src) (cc := coO F.cf io) (cx := coE F.cf x) (pos := p) o (ih.s o tg it true src hsrc htg) hv blk (by rw [List.map_map]; simp [Function.comp_def]) (fun H0 s H C cl fp => snd_T (blk_ok o H0) f tg t ht) (fun H0 s H C cl fp => ih.i (blk_ok o H0) ifs io hio) (fun H0 s H C cl fp => ih.e (blk_ok o H0) elt x hx) fold
        exact One.of o (snd_LcE o key) rfl rfl fun _ => rfl
      · cases h
    · cases h
  | _ => (unfold cE at h; first | (cases h; done) | (simp only [reduceCtorEq] at h; done) | (dsimp only at h; cases h; done) | trace_state)
theorem bM (o : XOk G c F pf pc n X) {f : Nat} (ih : IHs G pf pc n f) {m : Bool} {e : Expr} {x : IE} (h : cE G c f e = some x) : PE X e (tDM F m (coE F.cf x) (borM m x (wE pf pc x))) := by
  cases m with
  | true => exact ih.b o e x h
  | false => exact weakE o (ih.e o e x h)
theorem one_bi (hG : ∀ x ∈ bltNames, G.fns.lookup x = none) {f : Nat} (ih : IHs G pf pc n f) (o : XOk G c F pf pc n X) {g : Str} {args : List Expr} {p cp : Pos} (h : cBi G c (f + 1) g args = some ie) (hg : isGl c g = true) (hk : G.fns.lookup g = none) : One G c F pf pc X (.Call (.Name g p) args [] cp) ie := by
  unfold cBi at h
  split at h
  · rename_i e
    subst e
    split at h
    · rename_i a t
      split at h
      · rename_i hs
        obtain ⟨x, hx, h⟩ := Option.bind_eq_some_iff.mp h
        split at h
        · obtain ⟨l, hl, h⟩ := Option.bind_eq_some_iff.mp h
          split at h
          · rename_i hz
            cases h
            exact One.of o (snd_Isi o hG hg hs hz.1 hz.2 hl (ih.b o a x hx)) rfl rfl fun _ => rfl
          · cases h
        · obtain ⟨l, hl, rfl⟩ := Option.map_eq_some_iff.mp h
          exact One.of o (snd_Isi1 o hG hg hs hl (ih.b o a x hx)) rfl rfl fun _ => rfl
      · cases h
    · cases h
  · split at h
    · rename_i hc
      rw [Bool.and_eq_true, decide_eq_true_eq] at hc
      obtain ⟨rfl, hr⟩ := hc
      split at h
      · rename_i e m ap as ks cp'
        unfold isIt at hr
        split at hr
        · rename_i e' m' ap' cp'' heq
          cases heq
          simp only [Bool.and_eq_true, decide_eq_true_eq] at hr
          obtain ⟨⟨rfl, hn⟩, hl⟩ := hr
          obtain ⟨x, hx, rfl⟩ := Option.map_eq_some_iff.mp h
          exact One.of o (snd_Items o (o.blt _ (by decide +kernel) (hG _ (by decide +kernel))) hg hn hl (ih.b o _ x hx)) rfl rfl fun _ => rfl
        · cases hr
      · cases h
    split at h
    · rename_i hc
      rw [Bool.and_eq_true, decide_eq_true_eq] at hc
      obtain ⟨rfl, hr⟩ := hc
      have hm : X.mg "list" = none := o.blt _ (by decide +kernel) (hG _ (by decide +kernel))
      obtain ⟨g1, g2, g3⟩ := isGl_ok o hg
      split at h
      · rename_i fn as kws q
        unfold isRg at hr
        split at hr
        · rename_i r pr as' q' heq
          cases heq
          rw [Bool.and_eq_true, decide_eq_true_eq] at hr
          obtain ⟨rfl, hr⟩ := hr
          obtain ⟨r1, r2, r3⟩ := isGl_ok o hr
          have hm2 : X.mg "range" = none := o.blt _ (by decide +kernel) (hG _ (by decide +kernel))
          split at h
          · rename_i a
            split at h
            · rename_i hs
              obtain ⟨x, hx, rfl⟩ := Option.map_eq_some_iff.mp h
              refine One.of o (PE.imp (pe_lrg1 o.calm g1 hm r1 hm2 hs (ih.b o a x hx)) fun σ H Q ⟨W, env, kx, rel, hw⟩ => ?_) rfl rfl fun _ => rfl
              unfold wE at hw
              rw [bor_not (ie := .cn (.int 0)) rfl, wE_cn] at hw
              refine goB o.mf o.mc rel hw (fun _ h => h) fun d v H1 hd e1 rel1 r1 => ?_
              rw [bor_not (ie := .cn (.int 1)) rfl, wE_cn] at hd
              unfold onInt at hd
              simp only at hd
              split at hd
              · exact ⟨0, _, 1, rfl, r1.int, rfl, ⟨.inl rfl, hd.2.1, hd.2.2.1, hd.2.2.2.1⟩, vk.lst rel1 (hd.2.2.2.2.ext e1) (by rw [← rg_rep.len (P := F.P) (W := W) (H := H1)]; exact rangeD_len ⟨.inl rfl, hd.2.1, hd.2.2.1, hd.2.2.2.1⟩) rg_rep⟩
              · exact hd.elim
            · cases h
          · rename_i a b
            split at h
            · rename_i hs
              rw [Bool.and_eq_true] at hs
              obtain ⟨x, hx, h⟩ := Option.bind_eq_some_iff.mp h
              obtain ⟨y, hy, rfl⟩ := Option.map_eq_some_iff.mp h
              refine One.of o (PE.imp (pe_lrg2 o.calm g1 hm r1 hm2 hs.1 hs.2 (ih.b o a x hx) (ih.b o b y hy)) fun σ H Q ⟨W, env, kx, rel, hw⟩ => ?_) rfl rfl fun _ => rfl
              unfold wE at hw
              refine goB o.mf o.mc rel hw (fun _ h => h) fun d v H1 hd e1 rel1 r1 => goB o.mf o.mc rel1 hd (fun _ h => h.ext e1) fun d2 v2 H2 hd2 e2 rel2 r2 => ?_
              rw [bor_not (ie := .cn (.int 1)) rfl, wE_cn] at hd2
              unfold onInt at hd2
              simp only at hd2
              split at hd2
              · split at hd2
                · exact ⟨_, _, 1, r1.int, r2.int, rfl, ⟨.inl rfl, hd2.2.1, hd2.2.2.1, hd2.2.2.2.1⟩, vk.lst rel2 (hd2.2.2.2.2.ext (e1.trans e2)) (by rw [← rg_rep.len (P := F.P) (W := W) (H := H2)]; exact rangeD_len ⟨.inl rfl, hd2.2.1, hd2.2.2.1, hd2.2.2.2.1⟩) rg_rep⟩
                · exact hd2.elim
              · exact hd2.elim
            · cases h
          · rename_i a b d
            split at h
            · rename_i hs
              simp only [Bool.and_eq_true] at hs
              obtain ⟨x, hx, h⟩ := Option.bind_eq_some_iff.mp h
              obtain ⟨y, hy, h⟩ := Option.bind_eq_some_iff.mp h
              obtain ⟨z, hz, rfl⟩ := Option.map_eq_some_iff.mp h
              refine One.of o (PE.imp (pe_lrg3 o.calm g1 hm r1 hm2 hs.1.1 hs.1.2 hs.2 (ih.b o a x hx) (ih.b o b y hy) (ih.b o d z hz)) fun σ H Q ⟨W, env, kx, rel, hw⟩ => ?_) rfl rfl fun _ => rfl
              unfold wE at hw
              refine goB o.mf o.mc rel hw (fun _ h => h) fun d v H1 hd e1 rel1 r1 => goB o.mf o.mc rel1 hd (fun _ h => h.ext e1) fun d2 v2 H2 hd2 e2 rel2 r2 => goB o.mf o.mc rel2 hd2 (fun _ h => h.ext (e1.trans e2)) fun d3 v3 H3 hd3 e3 rel3 r3 => ?_
              unfold onInt at hd3
              simp only at hd3
              split at hd3
              · split at hd3
                · split at hd3
                  · exact ⟨_, _, _, r1.int, r2.int, r3.int, ⟨hd3.1, hd3.2.1, hd3.2.2.1, hd3.2.2.2.1⟩, vk.lst rel3 (hd3.2.2.2.2.ext ((e1.trans e2).trans e3)) (by rw [← rg_rep.len (P := F.P) (W := W) (H := H3)]; exact rangeD_len ⟨hd3.1, hd3.2.1, hd3.2.2.1, hd3.2.2.2.1⟩) rg_rep⟩
                  · exact hd3.elim
                · exact hd3.elim
              · exact hd3.elim
            · cases h
          · cases h
        · cases hr
      · cases h
    · split at h
      · cases h
      · rename_i a r
        obtain ⟨b, hb, h⟩ := Option.bind_eq_some_iff.mp h
        obtain ⟨l, hl, rfl⟩ := Option.map_eq_some_iff.mp h
        exact One.of o (snd_Bi o hb hk hg (ih.es o _ l hl).2.1 (by simp) (ih.bs o _ l hl)) rfl rfl fun _ => rfl
end
theorem all_src (hG : ∀ x ∈ bltNames, G.fns.lookup x = none) {f : Nat} (ih : IHs G pf pc n f) {c : CC} {F : Fx} {X : Cx} (o : XOk G c F pf pc n X) {tg e : Expr} {m : Bool} {src : ISrc} (h : cSrc G c (f + 1) e = some src) (ht : tgOk src tg = true) : PI X tg e (tDI F m (coSrc F.cf src) (wSrc pf pc m src)) := by
  unfold cSrc at h
  split at h
  · rename_i k hk
    unfold srcKind at hk
    split at hk
    · rename_i g gp args q
      split at hk
      · rename_i hg
        rw [Bool.and_eq_true, Option.isNone_iff_eq_none] at hg
        obtain ⟨hg, hn⟩ := hg
        split at hk
        · rename_i e1
          subst e1
          split at hk
          · split at hk
            · rename_i hs
              cases hk
              simp only at h
              obtain ⟨x, hx, rfl⟩ := Option.map_eq_some_iff.mp h
              cases tg <;> first
                | cases ht
                | skip
              exact src_En0 o hG hg hs (bM o ih hx)
            · cases hk
          · split at hk
            · rename_i hs
              simp only [Bool.and_eq_true, decide_eq_true_eq] at hs
              cases hk
              simp only at h
              obtain ⟨x, hx, rfl⟩ := Option.map_eq_some_iff.mp h
              cases tg <;> first
                | cases ht
                | skip
              exact src_En o (by have := hs.1.2; omega) (by have := hs.2; omega) hG hg hs.1.1 (bM o ih hx)
            · cases hk
          · cases hk
        · split at hk
          · rename_i e1
            subst e1
            split at hk
            · split at hk
              · rename_i hs
                rw [Bool.and_eq_true] at hs
                cases hk
                simp only at h
                obtain ⟨x, hx, h⟩ := Option.bind_eq_some_iff.mp h
                obtain ⟨y, hy, rfl⟩ := Option.map_eq_some_iff.mp h
                cases tg <;> first
                  | cases ht
                  | skip
                exact src_Zip o hG hg hs.1 hs.2 (bM o ih hx) (bM o ih hy)
              · cases hk
            · cases hk
          · split at hk
            · rename_i e1
              subst e1
              split at hk
              · split at hk
                · rename_i hs
                  cases hk
                  simp only at h
                  obtain ⟨x, hx, rfl⟩ := Option.map_eq_some_iff.mp h
                  exact src_Rg1 o hG hg hs (ih.b o _ x hx)
                · cases hk
              · split at hk
                · rename_i hs
                  rw [Bool.and_eq_true] at hs
                  cases hk
                  simp only at h
                  obtain ⟨x, hx, h⟩ := Option.bind_eq_some_iff.mp h
                  obtain ⟨y, hy, rfl⟩ := Option.map_eq_some_iff.mp h
                  exact src_Rg2 o hG hg hs.1 hs.2 (ih.b o _ x hx) (ih.b o _ y hy)
                · cases hk
              · split at hk
                · rename_i hs
                  simp only [Bool.and_eq_true] at hs
                  obtain ⟨k, p1, p2, e3⟩ := isNeg1_of hs.2
                  subst e3
                  cases hk
                  simp only at h
                  obtain ⟨x, hx, h⟩ := Option.bind_eq_some_iff.mp h
                  obtain ⟨y, hy, rfl⟩ := Option.map_eq_some_iff.mp h
                  exact src_Rg3 o hG hg hs.1.1 hs.1.2 (ih.b o _ x hx) (ih.b o _ y hy)
                · cases hk
              · cases hk
            · cases hk
      · cases hk
    · cases hk
  · obtain ⟨x, hx, rfl⟩ := Option.map_eq_some_iff.mp h
    exact src_Val o (bM o ih hx)
theorem all_zero : IHs G pf pc n 0 where
  v := fun o e i h => by unfold cE at h; cases h
  e := fun o e i h => by unfold cE at h; cases h
  b := fun o e i h => by unfold cE at h; cases h
  t := fun o e i h => by unfold cE at h; cases h
  w := fun o op vs p i h => by unfold cE at h; cases h
  bi := fun o g args p cp i h => by unfold cBi at h; cases h
  sv := fun o e i h => by unfold cSrc at h; cases h
  es := fun o e i h => by unfold cEs at h; cases h
  bs := fun o e i h => by unfold cEs at h; cases h
  ls := fun o _ e i h => by unfold cLs at h; cases h
  pk := fun o e i h => by unfold cEs at h; cases h
  ps := fun o k v i p h => by unfold cPs at h; cases h
  o := fun o e i h => by unfold cO at h; cases h
  i := fun o e i h => by unfold cIfs at h; cases h
  s := fun o tg e m i h => by unfold cSrc at h; cases h
theorem all_succ (hG : ∀ x ∈ bltNames, G.fns.lookup x = none) {f : Nat} (ih : IHs G pf pc n f) : IHs G pf pc n (f + 1) where
  v := fun o e i h => (one_cE hG ih o h).1.s i rfl
  e := fun o e ie h => (one_cE hG ih o h).1.v
  b := fun o e ie h => (one_cE hG ih o h).1.b
  t := fun o e ie h => (one_cE hG ih o h).1.t
  w := fun o op vs p ie h => (one_cE hG ih o h).2 op vs p rfl
  bi := fun o g args p cp ie h hg hk => one_bi hG ih o h hg hk
  sv := fun {c F X} o e i h => by
    unfold cSrc at h
    split at h
    · rename_i k hk
      cases k <;> simp [Option.bind_eq_some_iff, Option.map_eq_some_iff] at h
    · obtain ⟨x, hx, h⟩ := Option.map_eq_some_iff.mp h
      cases h
      exact ih.v o e i hx
  es := fun {c F X} o es ies h => by
    unfold cEs at h
    split at h
    · cases h
      exact ⟨snd_nil o, rfl, fun _ => rfl⟩
    · split at h
      · rename_i hs
        obtain ⟨x, hx, h⟩ := Option.bind_eq_some_iff.mp h
        obtain ⟨xs, hxs, rfl⟩ := Option.map_eq_some_iff.mp h
        obtain ⟨h1, h2, h3⟩ := ih.es o _ xs hxs
        exact ⟨snd_cons o hs (ih.e o _ x hx) h1, by rw [List.all_cons, hs, h2]; rfl, fun z => nomatch z⟩
      · cases h
  bs := fun {c F X} o es ies h => by
    unfold cEs at h
    split at h
    · cases h
      exact snd_nilB o
    · split at h
      · rename_i hs
        obtain ⟨x, hx, h⟩ := Option.bind_eq_some_iff.mp h
        obtain ⟨xs, hxs, rfl⟩ := Option.map_eq_some_iff.mp h
        exact snd_consB o hs (ih.b o _ x hx) (ih.bs o _ xs hxs)
      · cases h
  ls := fun {c F X} o hlm es ies h => by
    unfold cLs at h
    split at h
    · cases h
      exact ⟨la_nil o, rfl⟩
    · split at h
      · split at h
        · rename_i hc
          simp only [Bool.and_eq_true] at hc
          obtain ⟨b, hb, h⟩ := Option.bind_eq_some_iff.mp h
          obtain ⟨js, hj, h⟩ := Option.bind_eq_some_iff.mp h
          obtain ⟨xs, hxs, rfl⟩ := Option.map_eq_some_iff.mp h
          obtain ⟨h1, h2⟩ := ih.ls o hlm _ xs hxs
          exact ⟨la_lam o hlm hc.1.1 hc.1.2 hc.2 hb hj h1, by rw [List.all_cons, h2]; rfl⟩
        · cases h
      · split at h
        · rename_i hs
          obtain ⟨x, hx, h⟩ := Option.bind_eq_some_iff.mp h
          obtain ⟨xs, hxs, rfl⟩ := Option.map_eq_some_iff.mp h
          obtain ⟨h1, h2⟩ := ih.ls o hlm _ xs hxs
          exact ⟨la_cons o hs (ih.e o _ x hx) h1, by rw [List.all_cons, hs, h2]; rfl⟩
        · cases h
  pk := fun {c F X} o kws ies h => by
    cases kws with
    | nil =>
      unfold kwVals cEs at h
      cases h
      exact snd_pkNil o
    | cons kw kws =>
      obtain ⟨nm, v, kp⟩ := kw
      unfold kwVals cEs at h
      simp only at h
      split at h
      · rename_i hs
        obtain ⟨x, hx, h⟩ := Option.bind_eq_some_iff.mp h
        obtain ⟨xs, hxs, rfl⟩ := Option.map_eq_some_iff.mp h
        exact snd_pkCons o (ih.e o _ x hx) (ih.pk o _ xs hxs)
      · cases h
  ps := fun {c F X} o ks vs ips pos h => by
    unfold cPs at h
    split at h
    · cases h
      exact ppd_nil o
    · obtain ⟨x, hx, h⟩ := Option.bind_eq_some_iff.mp h
      obtain ⟨y, hy, h⟩ := Option.bind_eq_some_iff.mp h
      obtain ⟨r, hr, rfl⟩ := Option.map_eq_some_iff.mp h
      exact ppd_cons o (ih.e o _ x hx) (ih.e o _ y hy) (ih.ps o _ _ _ pos hr)
    · cases h
  o := fun {c F X} o e io h => by
    unfold cO at h
    split at h
    · cases h
      exact snd_none o
    · obtain ⟨x, hx, rfl⟩ := Option.map_eq_some_iff.mp h
      exact snd_some o (ih.b o _ x hx)
  i := fun {c F X} o es io h => by
    unfold cIfs at h
    split at h
    · cases h
      exact ⟨fun pins s σ H Q I ⟨W, env, kx, rel, hw⟩ => pts_nil.run pins s σ H Q I (by
        unfold wC at hw
        exact hw H (Ext.refl rel.strm))⟩
    · obtain ⟨x, hx, rfl⟩ := Option.map_eq_some_iff.mp h
      exact ⟨fun pins s σ H Q I ⟨W, env, kx, rel, hw⟩ => (pts_one (ih.t o _ x hx)).run pins s σ H Q I (by
        unfold wC at hw
        exact ⟨W, env, kx, rel, wT_mono o.mf o.mc x env _ _ _ _ (fun b h => h) (fun _ z => z.elim) hw⟩)⟩
    · cases h
  s := fun o tg e m src h ht => all_src hG ih o h ht
theorem all_e (hG : ∀ x ∈ bltNames, G.fns.lookup x = none) : ∀ f, IHs G pf pc n f
  | 0 => all_zero
  | f + 1 => all_succ hG (all_e hG f)
end
end Dl
namespace Dl
open PySem PySem.Spec PyProof.Rows L2

/-! ### own slots -/
section
variable {P : Par} {k : Nat} {W0 W W' : Addr → Prop} {H0 : Sn} {H H' : Hp} {env : DEnv} {σ : L2.St}
theorem set_get {α : Type} {l : List α} {i j : Nat} {x y : α} (h : (l.set i x)[j]? = some y) : (i = j ∧ y = x ∧ i < l.length) ∨ (i ≠ j ∧ l[j]? = some y) := by
  by_cases hj : i = j
  · subst hj
    left
    obtain ⟨h1, h2⟩ := List.getElem?_eq_some_iff.mp h
    rw [List.length_set] at h1
    rw [List.getElem_set_self] at h2
    exact ⟨rfl, h2.symm, h1⟩
  · rw [List.getElem?_set_ne hj] at h
    exact .inr ⟨hj, h⟩
theorem get_set {α : Type} {l : List α} {i : Nat} {x : α} (h : i < l.length) : (l.set i x)[i]? = some x := by
  rw [List.getElem?_eq_getElem (by rw [List.length_set]; exact h), List.getElem_set_self]
theorem Rel.setOwn (r : Rel P k W0 W H0 H env σ) (i : Nat) {d : D} {a : Addr} (w : W a) (n : New P H0 a) (q : OwnRep P W H d a) (hs : ∀ (j : Nat) (e : D), j ≠ i → env[j]? = some (.own e) → σ[j]? ≠ some (some (.ref a))) : Rel P k W0 W H0 H (env.set i (.own d)) (σ.set i (some (.ref a))) where
  len := by rw [List.length_set, List.length_set]; exact r.len
  val := fun j e h => by
    rcases set_get h with ⟨rfl, e1, _⟩ | ⟨hj, h⟩
    · cases e1
    · rw [List.getElem?_set_ne hj]
      exact r.val j e h
  own := fun j e h => by
    rcases set_get h with ⟨rfl, e1, hl⟩ | ⟨hj, h⟩
    · cases e1
      exact ⟨a, get_set (by rw [← r.len]; exact hl), w, n, q⟩
    · rw [List.getElem?_set_ne hj]
      exact r.own j e h
  apart := fun j l e e' b h1 h2 h3 h4 => by
    rcases set_get h1 with ⟨rfl, e1, hl⟩ | ⟨hj, h1⟩
    · rcases set_get h2 with ⟨rfl, _, _⟩ | ⟨hk, h2⟩
      · rfl
      · rw [get_set (by rw [← r.len]; exact hl)] at h3
        cases h3
        rw [List.getElem?_set_ne hk] at h4
        exact absurd h4 (hs l e' (Ne.symm hk) h2)
    · rw [List.getElem?_set_ne hj] at h3
      rcases set_get h2 with ⟨rfl, _, hl⟩ | ⟨hk, h2⟩
      · rw [get_set (by rw [← r.len]; exact hl)] at h4
        cases h4
        exact absurd h3 (hs j e (Ne.symm hj) h1)
      · rw [List.getElem?_set_ne hk] at h4
        exact r.apart j l e e' b h1 h2 h3 h4
  w0 := r.w0
  w00 := r.w00
  wk := r.wk
  dom0 := r.dom0
  old := r.old
  sub := r.sub
  strm := r.strm
  tw := r.tw
theorem Fr.sub (h : ∀ a, W' a → W a) : (∀ a, W' a → W a ∨ H a = none) := fun a z => .inl (h a z)
/-- an own thing is shared -/
theorem Rel.share1 (r : Rel P k W0 W H0 H env σ) (i : Nat) : ∃ W', Rel P k W0 W' H0 H (shr1 env i) σ ∧ ∀ a, W' a → W a := by
  unfold shr1
  split
  · rename_i d hd
    obtain ⟨a, ha, w, n, q⟩ := r.own i d hd
    have nW0 : ¬ W0 a := r.not0 n
    have sub : ∀ b, (W b ∧ b ≠ a) → W b := fun b h => h.1
    refine ⟨fun b => W b ∧ b ≠ a, ?_, sub⟩
    have fr : ∀ (d : D) (v : V), Rep P W H d v → Rep P (fun b => W b ∧ b ≠ a) H d v := fun d v => Rep.frame (Fr.refl _ _) (Fr.sub sub) d v
    exact
    { len := by rw [List.length_set]; exact r.len
      val := fun j e h => by
        rcases set_get h with ⟨rfl, e1, _⟩ | ⟨hj, h⟩
        · cases e1
          exact ⟨.ref a, ha, (q.frame (Fr.refl _ _) (Fr.sub sub) fun _ h => h).rep fun z => z.2 rfl⟩
        · obtain ⟨v, hv, rv⟩ := r.val j e h
          exact ⟨v, hv, fr e v rv⟩
      own := fun j e h => by
        rcases set_get h with ⟨rfl, e1, _⟩ | ⟨hj, h⟩
        · cases e1
        · obtain ⟨b, hb, wb, nb, qb⟩ := r.own j e h
          refine ⟨b, hb, ⟨wb, fun z => hj ?_⟩, nb, qb.frame (Fr.refl _ _) (Fr.sub sub) fun _ h => h⟩
          subst z
          exact r.apart i j d e b hd h ha hb
      apart := fun j l e e' b h1 h2 h3 h4 => by
        rcases set_get h1 with ⟨rfl, e1, _⟩ | ⟨hj, h1⟩
        · cases e1
        · rcases set_get h2 with ⟨rfl, e1, _⟩ | ⟨hk, h2⟩
          · cases e1
          · exact r.apart j l e e' b h1 h2 h3 h4
      w0 := fun b h => ⟨r.w0 b h, fun z => nW0 (z ▸ h)⟩
      w00 := r.w00
      wk := fun b h => r.wk b h.1
      dom0 := r.dom0
      old := r.old
      sub := fun s hs b h => r.sub s hs b h.1
      strm := r.strm
      tw := r.tw }
  · exact ⟨W, r, fun _ h => h⟩
theorem Rel.share : ∀ (is : List Nat) {W : Addr → Prop} {env : DEnv}, Rel P k W0 W H0 H env σ → ∃ W', Rel P k W0 W' H0 H (shr env is) σ ∧ ∀ a, W' a → W a
  | [], W, env, r => ⟨W, r, fun _ h => h⟩
  | i :: is, W, env, r => by
    obtain ⟨W1, r1, h1⟩ := r.share1 i
    obtain ⟨W2, r2, h2⟩ := Rel.share is r1
    exact ⟨W2, r2, fun a h => h1 a (h2 a h)⟩
/-- the whole run since a snapshot -/
theorem Rel.out (r : Rel P k W0 W H0 H env σ) {h0 : Hp} (hs : ((fun _ => False), h0) ∈ H0) : Ext P k h0 H := ⟨fun a o n h => r.old _ hs a o n (fun z => z) h, r.strm, r.dom0 _ hs⟩
/-- a snapshot more -/
theorem Rel.snap (r : Rel P k W0 W H0 H env σ) : Rel P k W0 W ((W, H) :: H0) H env σ where
  len := r.len
  val := r.val
  own := fun i d h => by
    obtain ⟨a, ha, w, n, q⟩ := r.own i d h
    refine ⟨a, ha, w, ⟨n.1, fun s hs => ?_⟩, q⟩
    rcases List.mem_cons.mp hs with rfl | hs
    · exact .inl w
    · exact n.2 s hs
  apart := r.apart
  w0 := r.w0
  w00 := fun a h => let ⟨s, hs, q⟩ := r.w00 a h; ⟨s, List.mem_cons_of_mem _ hs, q⟩
  wk := r.wk
  dom0 := fun s hs a h => by
    rcases List.mem_cons.mp hs with rfl | hs
    · exact h
    · exact r.dom0 s hs a h
  old := fun s hs a o n m h => by
    rcases List.mem_cons.mp hs with rfl | hs
    · exact h
    · exact r.old s hs a o n m h
  sub := fun s hs a h => by
    rcases List.mem_cons.mp hs with rfl | hs
    · exact .inl h
    · exact r.sub s hs a h
  strm := r.strm
  tw := r.tw
theorem Rel.unsnap {s0 : (Addr → Prop) × Hp} (r : Rel P k W0 W (s0 :: H0) H env σ) (h0 : ∀ a, W0 a → ∃ s ∈ H0, ¬ s.1 a ∧ s.2 a ≠ none) : Rel P k W0 W H0 H env σ where
  len := r.len
  val := r.val
  own := fun i d h => let ⟨a, ha, w, n, q⟩ := r.own i d h; ⟨a, ha, w, ⟨n.1, fun s hs => n.2 s (List.mem_cons_of_mem _ hs)⟩, q⟩
  apart := r.apart
  w0 := r.w0
  w00 := h0
  wk := r.wk
  dom0 := fun s hs => r.dom0 s (List.mem_cons_of_mem _ hs)
  old := fun s hs => r.old s (List.mem_cons_of_mem _ hs)
  sub := fun s hs => r.sub s (List.mem_cons_of_mem _ hs)
  strm := r.strm
  tw := r.tw
theorem Rel.low (r : Rel P k W0 W H0 H env σ) {d : D} {v : V} (q : Rep P W H d v) : Rep P W0 H d v := Rep.frame (Fr.refl _ _) (Fr.sub r.w0) d v q
end
/-! ### the wishes of a statement -/
/-- what is wanted of a statement's ends, there -/
structure Wi (F : Fx) (k : Nat) (D : Ends) (K : KS) : Prop where
  nx : ∀ env W σ H, K.nx env → Rel F.P k F.W0 W F.H0 H env σ → D.nx σ H
  bk : ∀ env W σ H, K.bk env → Rel F.P k F.W0 W F.H0 H env σ → D.bk σ H
  ct : ∀ env W σ H, K.ct env → Rel F.P k F.W0 W F.H0 H env σ → D.ct σ H
  rt : ∀ d v env W σ H, K.rt d → Rel F.P k F.W0 W F.H0 H env σ → Rep F.P W H d v → D.rt v H
  ex : ∀ env x W σ H cls dd, K.ex env x → Rel F.P k F.W0 W F.H0 H env σ → XRep F.P W H x cls dd → F.Wx cls dd σ H
def tS (F : Fx) (co : Co) (w : DEnv → KS → Prop) : TS := fun D σ H => ∃ W env K k, Rel F.P (co.f k) F.W0 W F.H0 H env σ ∧ Wi F k D K ∧ w env K
theorem Wi.le {F : Fx} {j k : Nat} {D : Ends} {K : KS} (w : Wi F k D K) (h : k ≤ j) : Wi F j D K :=
  ⟨fun e W σ H hk r => w.nx e W σ H hk (r.le h), fun e W σ H hk r => w.bk e W σ H hk (r.le h), fun e W σ H hk r => w.ct e W σ H hk (r.le h), fun d v e W σ H hk r => w.rt d v e W σ H hk (r.le h), fun e x W σ H cls dd hk r => w.ex e x W σ H cls dd hk (r.le h)⟩
theorem Wi.xk {F : Fx} {j k : Nat} {D : Ends} {K : KS} (s : Wi F j D K) {env : DEnv} {W : Addr → Prop} {σ : L2.St} {H : Hp} (rel : Rel F.P k F.W0 W F.H0 H env σ) {x : XV} (h : K.ex env x) : xk F j W σ H x := fun cls dd H' e xr => s.ex env x W σ H' cls dd h (rel.ext e) xr
/-! ### one statement after another -/
section
variable {G : GC} {c : CC} {F : Fx} {pf : PF} {pc : PC} {n : Nat} {X : Cx} {e : Expr} {ie : IE} {pos : Pos}
theorem stm_nil (o : XOk G c F pf pc n X) : PSs X [] (tS F Co.one (wSs pf pc .nil)) := by
  refine PSs.imp pss_nil fun D σ H ⟨W, env, K, kx, rel, wi, hw⟩ => ?_
  unfold wSs at hw
  exact wi.nx env W σ H hw rel
theorem stm_cons {c1 c2 : Co} (o : XOk G c F pf pc n X) {st : Stmt} {rest : List Stmt} {s : IS} {r : ISs} (h1 : PS X st (tS F c1 (wS pf pc s))) (h2 : PSs X rest (tS F c2 (wSs pf pc r))) : PSs X (st :: rest) (tS F (c1.comp c2) (wSs pf pc (.cons s r))) := by
  refine PSs.imp (pss_cons h1 h2) fun D σ H ⟨W, env, K, kx, rel, wi, hw⟩ => ?_
  unfold wSs at hw
  have w2 := wi.le (c2.le kx)
  exact ⟨W, env, { K with nx := fun env => wSs pf pc r env K }, c2.f kx, rel, ⟨fun env' W' σ' H' hk rel' => ⟨W', env', K, kx, rel', wi, hk⟩, w2.bk, w2.ct, w2.rt, w2.ex⟩, hw⟩
theorem stm_pass (o : XOk G c F pf pc n X) : PS X (.Pass pos) (tS F Co.one (wS pf pc .pass)) := by
  refine PS.imp ps_pass fun D σ H ⟨W, env, K, kx, rel, wi, hw⟩ => ?_
  unfold wS at hw
  exact wi.nx env W σ H hw rel
theorem stm_brk (o : XOk G c F pf pc n X) : PS X (.Break pos) (tS F Co.one (wS pf pc .brk)) := by
  refine PS.imp ps_break fun D σ H ⟨W, env, K, kx, rel, wi, hw⟩ => ?_
  unfold wS at hw
  exact wi.bk env W σ H hw rel
theorem stm_cont (o : XOk G c F pf pc n X) : PS X (.Continue pos) (tS F Co.one (wS pf pc .cont)) := by
  refine PS.imp ps_continue fun D σ H ⟨W, env, K, kx, rel, wi, hw⟩ => ?_
  unfold wS at hw
  exact wi.ct env W σ H hw rel
theorem stm_retN (o : XOk G c F pf pc n X) : PS X (.Return none pos) (tS F Co.one (wS pf pc .retN)) := by
  refine PS.imp ps_retN fun D σ H ⟨W, env, K, kx, rel, wi, hw⟩ => ?_
  unfold wS at hw
  exact wi.rt .non .non env W σ H hw rel (Rep.non.mpr rfl)
theorem stm_ret {c1 : Co} (o : XOk G c F pf pc n X) {sh : List Nat} {fr : Bool} (he : PE X e (tD F fr c1 (wE pf pc ie))) : PS X (.Return (some e) pos) (tS F c1 (wS pf pc (.ret sh ie))) := by
  refine PS.imp (ps_ret he) fun D σ H ⟨W, env, K, kx, rel, wi, hw⟩ => ?_
  unfold wS at hw
  obtain ⟨W1, rel1, _⟩ := Rel.share sh rel
  exact goV o.mf o.mc rel1 hw (fun _ h => wi.xk rel1 h) fun d v H1 hd e1 rel2 r _ => wi.rt d v _ W1 σ H1 hd rel2 r
theorem stm_expr {c1 : Co} (o : XOk G c F pf pc n X) {sh : List Nat} {fr : Bool} (hs : swapsWith e none pos.line X.env = pure false) (he : PE X e (tD F fr c1 (wE pf pc ie))) : PS X (.Expr e pos) (tS F c1 (wS pf pc (.expr sh ie))) := by
  refine PS.imp (ps_expr he hs) fun D σ H ⟨W, env, K, kx, rel, wi, hw⟩ => ?_
  unfold wS at hw
  obtain ⟨W1, rel1, _⟩ := Rel.share sh rel
  exact goV o.mf o.mc rel1 hw (fun _ h => wi.xk rel1 h) fun d v H1 hd e1 rel2 r _ => wi.nx _ W1 σ H1 hd rel2
/-- a new value for a slot -/
theorem Rel.put {j k : Nat} (ie : IE) {W : Addr → Prop} {env : DEnv} {σ : L2.St} {H H1 : Hp} {d : D} {v : V} (i : Nat) (rel : Rel F.P j F.W0 W F.H0 H env σ) (e : Ext F.P k H H1) (r : Rep F.P W H1 d v) (f : fresh ie = true → Fresh F.P W H H1 d v) :
    ∃ W', Rel F.P k F.W0 W' F.H0 H1 (env.set i (mkOwn ie d)) (σ.set i (some v)) ∧ ∀ a, W a → W' a := by
  by_cases hf : (fresh ie = true ∧ isCont d = true)
  · obtain ⟨a, rfl, hn, ow⟩ := f hf.1 hf.2
    have rel1 := rel.more hn e ow.ne
    have em : mkOwn ie d = .own d := by
      unfold mkOwn
      rw [if_pos hf.1]
      have hc := hf.2
      cases d <;> first
        | rfl
        | cases hc
    rw [em]
    refine ⟨_, rel1.setOwn i (.inr rfl) (rel.newN hn) ow fun j e' hj h z => ?_, fun a h => .inl h⟩
    obtain ⟨b, hb, wb, _⟩ := rel.own j e' h
    rw [hb] at z
    cases z
    exact rel.newW hn wb
  · have em : mkOwn ie d = .val d := by
      unfold mkOwn
      by_cases h1 : fresh ie = true
      · rw [if_pos h1]
        have h2 : isCont d = false := by
          cases q : isCont d with
          | false => rfl
          | true => exact absurd ⟨h1, q⟩ hf
        cases d <;> first
          | rfl
          | cases h2
      · rw [if_neg h1]
    rw [em]
    exact ⟨W, (rel.ext e).set i r, fun _ h => h⟩
theorem asg_road {c1 : Co} (o : XOk G c F pf pc n X) {sh : List Nat} {i : Nat} {D : Ends} {σ : L2.St} {H : Hp} (h : tS F c1 (wS pf pc (.asg sh i ie)) D σ H) : tAsg (tD F (fresh ie) c1 (wE pf pc ie)) (gName i) D σ H := by
  obtain ⟨W, env, K, kx, rel, wi, hw⟩ := h
  unfold wS at hw
  obtain ⟨W1, rel1, _⟩ := Rel.share sh rel
  refine goV o.mf o.mc rel1 hw (fun _ h => wi.xk rel1 h) fun d v H1 hd e1 rel2 r f => ?_
  obtain ⟨W2, rel3, _⟩ := rel1.put ie i e1 r f
  exact wi.nx _ W2 _ H1 hd rel3
theorem loc_facts {x : Str} {i : Nat} (o : XOk G c F pf pc n X) {p : Pos} (h : cT c 1 (.Name x p) = some (.nm i)) : X.N[i]? = some x ∧ L2.Loc X.env.scope x ∧ (X.fn x = true ∨ X.env.scope.names.lookup x = some .local) := by
  unfold cT at h
  split at h
  · rename_i e1
    split at h
    · obtain ⟨j, hj, e2⟩ := Option.map_eq_some_iff.mp h
      cases e2
      exact ⟨slot_fact o hj, .inl (by rw [o.sc]; exact e1), .inr (by rw [o.sc]; exact e1)⟩
    · cases h
  · rename_i e1
    split at h
    · rename_i q
      rw [Bool.and_eq_true] at q
      obtain ⟨j, hj, e2⟩ := Option.map_eq_some_iff.mp h
      cases e2
      exact ⟨slot_fact o hj, .inr (by rw [o.sc]; exact e1), .inl (by rw [o.fn]; exact q.2)⟩
    · cases h
  · cases h
theorem stm_asg {c1 : Co} (o : XOk G c F pf pc n X) {sh : List Nat} {i : Nat} {y : Str} {p : Pos} (hy : cT c 1 (.Name y p) = some (.nm i)) (hs : swapsWith e (some (.Name y p)) pos.line X.env = pure false) (he : PE X e (tD F (fresh ie) c1 (wE pf pc ie))) :
    PS X (.Assign [.Name y p] e pos) (tS F c1 (wS pf pc (.asg sh i ie))) := by
  obtain ⟨h1, h2, h3⟩ := loc_facts o hy
  exact PS.imp (ps_set o.nd h1 h2 he hs h3) fun D σ H q => asg_road o q
end
end Dl
namespace Dl
open PySem PySem.Spec PyProof.Rows L2
theorem PS.orr {X : Cx} {e : Stmt} {t t' : TS} (h : PS X e t) (h' : PS X e t') : PS X e (fun D σ H => t D σ H ∨ t' D σ H) := ⟨fun pins s σ H D I hw => hw.elim (h.run pins s σ H D I) (h'.run pins s σ H D I)⟩
section
variable {G : GC} {c : CC} {F : Fx} {pf : PF} {pc : PC} {n : Nat} {X : Cx} {a b e : Expr} {ie x y : IE} {pos : Pos}
theorem stm_ite {c1 c2 c3 : Co} (o : XOk G c F pf pc n X) {sh : List Nat} {p q : List Stmt} {s r : ISs} (ht : PT X e (tDT F c1 (wT pf pc ie))) (hp : PSs X p (tS F c2 (wSs pf pc s))) (hq : PSs X q (tS F c3 (wSs pf pc r))) : PS X (.If e p q pos) (tS F (c1.comp (c2.comp c3)) (wS pf pc (.ite sh ie s r))) := by
  refine PS.imp (ps_if ht hp hq) fun D σ H ⟨W, env, K, kx, rel, wi, hw⟩ => ?_
  unfold wS at hw
  obtain ⟨W1, rel1, _⟩ := Rel.share sh rel
  refine goT o rel1 hw (fun _ h => wi.xk rel1 h) fun t H1 hd e1 rel2 => ?_
  cases t with
  | true =>
    rw [if_pos rfl] at hd ⊢
    exact ⟨W1, _, K, c3.f kx, rel2, wi.le (c3.le kx), hd⟩
  | false =>
    rw [if_neg (by decide)] at hd ⊢
    exact ⟨W1, _, K, kx, rel2.le (c2.le _), wi, hd⟩
theorem stm_whl {c1 c2 : Co} (o : XOk G c F pf pc n X) (z1 : c1.c = 0) (z2 : c2.c = 0) (hp : PassesOwn (model X.prog X.w) X.A X.env X.xe) {sh : List Nat} {p : List Stmt} {s : ISs} (ht : PT X e (tDT F c1 (wT pf pc ie))) (hb : PSs X p (tS F c2 (wSs pf pc s))) : PS X (.While e p [] pos) (tS F Co.one (wS pf pc (.whl sh ie s))) := by
  refine PS.imp (ps_while hp ht hb) fun D σ H ⟨W, env, K, kx, rel, wi, hw⟩ => ?_
  unfold wS at hw
  obtain ⟨I, ⟨m0, h0⟩, step⟩ := hw
  have q1 : c1.f kx = kx := by rw [c1.eq, z1, Nat.zero_add]
  have q2 : c2.f kx = kx := by rw [c2.eq, z2, Nat.zero_add]
  refine ⟨fun m σ H => ∃ W env, Rel F.P kx F.W0 W F.H0 H env σ ∧ I m env, ⟨m0, W, env, rel, h0⟩, fun m σ H ⟨W, env, rel, hI⟩ => ?_⟩
  obtain ⟨W1, rel1, _⟩ := Rel.share sh rel
  rw [← q1] at rel1
  refine goT o rel1 (step m env hI) (fun _ h => wi.xk rel1 h) fun t H1 hd e1 rel2 => ?_
  cases t with
  | false =>
    rw [if_neg (by decide)] at hd ⊢
    exact wi.nx _ W1 _ _ hd rel2
  | true =>
    rw [if_pos rfl] at hd ⊢
    refine ⟨fun σ' H' => ∃ m', m' < m ∧ ∃ W env, Rel F.P kx F.W0 W F.H0 H' env σ' ∧ I m' env, fun σ' H' ⟨m', hm, h⟩ => ⟨m', hm, h⟩, W1, _, { K with nx := fun e2 => ∃ m', m' < m ∧ I m' e2, ct := fun e2 => ∃ m', m' < m ∧ I m' e2, bk := K.nx }, kx, by rw [q2]; exact rel2, ⟨?_, ?_, ?_, wi.rt, wi.ex⟩, hd⟩
    · exact fun env' W' σ' H' ⟨m', hm, h⟩ rel' => ⟨m', hm, W', env', rel', h⟩
    · exact wi.nx
    · exact fun env' W' σ' H' ⟨m', hm, h⟩ rel' => ⟨m', hm, W', env', rel', h⟩
/-- within a loop: a snapshot more -/
def snapF (F : Fx) (s : (Addr → Prop) × Hp) : Fx := { F with H0 := s :: F.H0 }
/-- the loop's walk -/
theorem for_run {ds : List D} {k : Nat} {cb : Co} {j : Nat → Nat} (hj : ∀ i, i < ds.length → j i = cb.f (j (i + 1))) (hk : k ≤ j ds.length) (o : XOk G c F pf pc n X) {J : It} {W : Addr → Prop} {H1 : Hp} {env : DEnv} {σ : L2.St} {tg : IT} {s : ISs} {D : Ends} {K : KS} 
    (rel : Rel F.P (j 0) F.W0 W F.H0 H1 env σ) (wi : Wi F k D K) (src : Src F.P W W H1 J ds) (h : forLoop (fun d e => asg tg d e) (fun e k => wSs pf pc s e k) K ds env) :
    ∃ Wt : Nat → Nat → L2.St → Hp → Prop, (∃ m, Wt 0 m σ H1) ∧ ∀ i m σ H, Wt i m σ H →
      (J.stop i H ∧ D.nx σ H) ∨ (J.go i H ∧ ∃ N : L2.St → Hp → Prop, (∀ σ' H', N σ' H' → ∃ m', m' < m ∧ Wt (i + 1) m' σ' H') ∧ ∀ v H', J.yld i H v H' → (fun v σ H Q => ∃ S, gD { F with H0 := S } tg v σ H Q) v σ H' fun σ2 H2 => (fun D σ H => ∃ S, tS { F with H0 := S } cb (wSs pf pc s) D σ H) { D with nx := N, ct := N, bk := D.nx } σ2 H2) := by
  let SN : Sn := (W, H1) :: F.H0
  have w00 := rel.w00
  let T : Nat → Nat → L2.St → Hp → Prop := fun i m σ H => m = ds.length - i ∧ i ≤ ds.length ∧ ∃ W' env', Rel F.P (j i) F.W0 W' SN H env' σ ∧ forLoop (fun d e => asg tg d e) (fun e k => wSs pf pc s e k) K (ds.drop i) env'
  refine ⟨T, ⟨ds.length, by simp, Nat.zero_le _, W, env, rel.snap, by rw [List.drop_zero]; exact h⟩, ?_⟩
  rintro i m σ H ⟨rfl, hi, W', env', relH, hloop⟩
  have hm : (W, H1) ∈ SN := List.mem_cons_self
  have keep : Keep W H1 H := fun a ob n hh => relH.old _ hm a ob (fun z => n (rel.w0 _ (rel.tw a z))) n hh
  have jk : ∀ m i, i + m = ds.length → k ≤ j i := fun m => by
    induction m with
    | zero => exact fun i e => (show i = ds.length from e) ▸ hk
    | succ m ih => exact fun i e => by rw [hj i (by omega)]; exact Nat.le_trans (ih (i + 1) (by omega)) (cb.le _)
  have down : ∀ {jj : Nat} {W' : Addr → Prop} {H : Hp} {env' : DEnv} {σ : L2.St}, Rel F.P jj F.W0 W' SN H env' σ → Rel F.P jj F.W0 W' F.H0 H env' σ := fun r => r.unsnap w00
  by_cases hlt : i < ds.length
  · obtain ⟨d, hd⟩ : ∃ d, ds[i]? = some d := ⟨ds[i], List.getElem?_eq_getElem hlt⟩
    obtain ⟨go, yld⟩ := src.turn i d H hd keep
    rw [show ds.drop i = d :: ds.drop (i + 1) by rw [List.drop_eq_getElem_cons hlt]; congr 1; rw [List.getElem?_eq_getElem hlt] at hd; exact Option.some.inj hd] at hloop
    obtain ⟨env1, ha, hb⟩ := hloop
    refine .inr ⟨go, fun σ' H' => T (i + 1) (ds.length - (i + 1)) σ' H', fun σ' H' t => ⟨_, by omega, t⟩, fun v H' hy => ?_⟩
    obtain ⟨hH', hrep⟩ := yld v H' hy
    have ej := hj i hlt
    have jk' := jk (ds.length - (i + 1)) (i + 1) (by omega)
    rw [ej] at relH
    have eH' : Ext F.P (cb.f (j (i + 1))) H H' := by
      rcases hH' with e | ⟨p, ob, hp, e⟩
      · rw [e]; exact Ext.refl relH.strm
      · rw [e]; exact relH.extNew' hp
    have frH : Fr W H1 H := fun a u nn ok hh => by
      have k : ∀ o, H1 a = some o → H a = some o := fun o q => keep a o nn q
      cases u <;> first
        | exact k _ hh
        | (rcases hh with hh | ⟨w, hh⟩
           · exact .inl (k _ hh)
           · exact .inr ⟨w, k _ hh⟩)
    have rv : Rep F.P W' H' d v := hrep _ frH fun a wa => ⟨(relH.sub _ hm a wa).elim .inl fun z => z.elim .inr fun z => .inl (rel.w0 a z), relH.dom a wa⟩
    have relH' := relH.ext eH'
    refine ⟨SN, W', env', _, d, env1, relH', rv, ha, fun σ2 rel2 _ => ⟨SN, W', env1, { K with nx := forLoop (fun d e => asg tg d e) (fun e k => wSs pf pc s e k) K (ds.drop (i + 1)), ct := forLoop (fun d e => asg tg d e) (fun e k => wSs pf pc s e k) K (ds.drop (i + 1)), bk := K.nx }, _, rel2, ⟨?_, ?_, ?_, ?_, ?_⟩, hb⟩⟩
    · exact fun e2 W2 σ' H2 hk r => ⟨rfl, hlt, W2, e2, r, hk⟩
    · exact fun e2 W2 σ' H2 hk r => wi.nx e2 W2 σ' H2 hk ((down r).le jk')
    · exact fun e2 W2 σ' H2 hk r => ⟨rfl, hlt, W2, e2, r, hk⟩
    · exact fun d' v' e2 W2 σ' H2 hk r q => wi.rt d' v' e2 W2 σ' H2 hk ((down r).le jk') q
    · exact fun e2 x W2 σ' H2 cls dd hk r q => wi.ex e2 x W2 σ' H2 cls dd hk ((down r).le jk') q
  · have ei : i = ds.length := by omega
    subst ei
    refine .inl ⟨src.stop H keep, ?_⟩
    rw [List.drop_length] at hloop
    exact wi.nx env' W' σ H hloop ((down relH).le hk)
def gS (F : Fx) (it : IT) : TG := fun v σ H Q => ∃ S, gD { F with H0 := S } it v σ H Q
def sS (F : Fx) (co : Co) (w : DEnv → KS → Prop) : TS := fun D σ H => ∃ S, tS { F with H0 := S } co w D σ H
/-- back from the locked heap -/
theorem Rel.unlock {j k : Nat} {W1 W' : Addr → Prop} {env env' : DEnv} {σ σ' : L2.St} {H H' : Hp} {p : Addr} {od : Obj} {kvs : List (Key × V)} (r0 : Rel F.P j F.W0 W1 F.H0 H env σ) (hp : H p = some (.dK kvs)) (nw : ¬ W1 p)
    (r : Rel F.P k F.W0 W' ((W1, upd H p (.frz od (.dK kvs))) :: lockS F.H0 p (.frz od (.dK kvs))) H' env' σ') : H' p = some (.frz od (.dK kvs)) ∧ Rel F.P k F.W0 W' F.H0 (upd H' p (.dK kvs)) env' σ' := by
  have hm : (W1, upd H p (.frz od (.dK kvs))) ∈ (W1, upd H p (.frz od (.dK kvs))) :: lockS F.H0 p (.frz od (.dK kvs)) := List.mem_cons_self
  have nT : ¬ F.P.T p := fun z => nw (r0.w0 _ (r0.tw p z))
  have hp' : H' p = some (.frz od (.dK kvs)) := r.old _ hm p _ nT nw upd_same
  have nw' : ¬ W' p := fun z => by
    rcases r.sub _ hm p z with q | q | q
    · exact nw q
    · have q : upd H p (.frz od (.dK kvs)) p = none := q
      rw [upd_same] at q; cases q
    · exact nw (r0.w0 p q)
  have lk : ∀ s ∈ F.H0, (s.1, lockH s.2 p (.frz od (.dK kvs))) ∈ (W1, upd H p (.frz od (.dK kvs))) :: lockS F.H0 p (.frz od (.dK kvs)) := fun s hs => List.mem_cons_of_mem _ (List.mem_map.mpr ⟨s, hs, rfl⟩)
  refine ⟨hp', ?_⟩
  exact
  { len := r.len
    val := fun i d h => let ⟨v, hv, q⟩ := r.val i d h; ⟨v, hv, Rep.frame (fr_unlock hp') (fun a h => .inl h) d v q⟩
    own := fun i d h => by
      obtain ⟨a, ha, w, n, q⟩ := r.own i d h
      have ne : a ≠ p := fun z => nw' (z ▸ w)
      refine ⟨a, ha, w, ⟨n.1, fun s hs => (n.2 _ (lk s hs)).imp id fun e => (lockH_ne ne).symm.trans e⟩, q.frame (fr_unlock hp') (fun a h => .inl h) fun x hx => by rw [upd_ne ne]; exact hx⟩
    apart := r.apart
    w0 := r.w0
    w00 := r0.w00
    wk := fun a h => by
      obtain ⟨u, e1, e2⟩ := r.wk a h
      exact ⟨u, by rw [upd_ne (fun z : a = p => nw' (z ▸ h))]; exact e1, e2⟩
    dom0 := fun s hs a h => dom_upd a (r.dom0 _ (lk s hs) a (by
      show lockH s.2 p _ a ≠ none
      unfold lockH
      split
      · exact fun z => nomatch z
      · exact h))
    old := fun s hs a x n m h => by
      by_cases hz : a = p
      · subst hz
        have q := r0.old s hs a x n m h
        rw [hp] at q
        rw [upd_same]
        exact q
      · rw [upd_ne hz]
        exact r.old _ (lk s hs) a x n m ((lockH_ne hz).trans h)
    sub := fun s hs a h => by
      have ne : a ≠ p := fun z => nw' (z ▸ h)
      exact (r.sub _ (lk s hs) a h).imp id fun q => q.imp (fun e => (lockH_ne ne).symm.trans e) id
    strm := F.P.sokFr _ _ _ (fun a h => by rw [upd_ne (fun z : a = p => nT (z ▸ h))]) (codeS hp' fun _ z => nomatch z) r.strm
    tw := r.tw }
def forCo (cs cb : Co) : Co := cs.comp (Co.iter sizeLine cb)
def forJ (cb : Co) (k : Nat) (i : Nat) : Nat := (Co.iter (sizeLine - i) cb).f k
theorem forJ_step {cb : Co} {k m : Nat} (h : m ≤ sizeLine) : ∀ i, i < m → forJ cb k i = cb.f (forJ cb k (i + 1)) := fun i hi => by
  unfold forJ
  rw [show sizeLine - i = (sizeLine - (i + 1)) + 1 by omega, Co.iter_succ]
theorem stm_for {cs cb : Co} (o : XOk G c F pf pc n X) (hp : PassesOwn (model X.prog X.w) X.A X.env X.xe) {sh : List Nat} {tg iter : Expr} {body : List Stmt} {src : ISrc} {tgi : IT} {s : ISs}
    (hi : PI X tg iter (tDI F false cs (wSrc pf pc false src))) (hv : ∀ i, src = .val (.slot i) → PE X iter (tVar i)) (hg : ∀ S, PG X tg (gD { F with H0 := S } tgi)) (hb : ∀ S, PSs X body (tS { F with H0 := S } cb (wSs pf pc s)))
    (hs : ∀ x, foldedSetIterable iter X.env x = pure x) : PS X (.For tg iter body [] pos) (tS F (forCo cs cb) (wS pf pc (.for sh tgi src s))) := by
  have g : PG X tg (gS F tgi) := ⟨fun pins s σ H v u Q I r ⟨S, hw⟩ => (hg S).run pins s σ H v u Q I r hw⟩
  have b : PSs X body (sS F cb (wSs pf pc s)) := ⟨fun pins s σ H D I ⟨S, hw⟩ => (hb S).run pins s σ H D I hw⟩
  have f2 := ps_for (pos := pos) hp o.calm (pi_K (tg := tg) hv) g b hs
  refine PS.imp (PS.orr (ps_for hp o.calm hi g b hs) (PS.orr f2 (ps_lock f2))) fun D σ H ⟨W, env, K, kx, rel, wi, hw⟩ => ?_
  unfold wS at hw
  obtain ⟨W1, rel1, _⟩ := Rel.share sh rel
  cases q : dkeys src (shr env sh) with
  | none =>
    simp only [q] at hw
    refine .inl ⟨W1, shr env sh, (Co.iter sizeLine cb).f kx, rel1, wSrc_mono o.mf o.mc false src _ _ _ _ _ (fun ds hd J H1 e1 sr => ?_) (fun _ h => (wi.xk rel1 h).le (Co.le _ _)) hw⟩
    exact for_run (forJ_step sr.len) (Co.le (Co.iter _ _) kx) o (rel1.ext e1) wi sr hd
  | some ds =>
    simp only [q] at hw
    have rel1 := rel1.le (cs.le _)
    obtain ⟨i, kds, rfl, he, rfl⟩ := dkeys_some q
    obtain ⟨v, hv', rv⟩ := rel1.val i _ he
    unfold Rep at rv
    obtain ⟨p, kvs, rfl, nw, hpd, hz, rk⟩ := rv
    rcases hpd with hpd | ⟨od, hpd⟩
    · refine .inr (.inr ⟨p, .dK kvs, hpd, True.intro, fun od => ⟨i, rfl, .ref p, hv', p, od, rfl, .inl ⟨kvs, upd_same, ?_⟩⟩⟩)
      have relL := (rel1.lock (od := od) hpd nw).snap
      have rkL := RepX.keep' rel1 hpd nw (od := od) (RepK.x.mp rk)
      let FL : Fx := { F with H0 := (W1, upd H p (.frz od (.dK kvs))) :: lockS F.H0 p (.frz od (.dK kvs)) }
      let DL : Ends := ⟨fun σ' H' => H' p = some (.frz od (.dK kvs)) ∧ D.nx σ' (upd H' p (.dK kvs)), fun v H' => H' p = some (.frz od (.dK kvs)) ∧ D.rt v (upd H' p (.dK kvs)), fun σ' H' => H' p = some (.frz od (.dK kvs)) ∧ D.bk σ' (upd H' p (.dK kvs)), fun σ' H' => H' p = some (.frz od (.dK kvs)) ∧ D.ct σ' (upd H' p (.dK kvs))⟩
      have wiL : Wi FL kx DL { K with ex := fun _ _ => False } := by
        refine ⟨?_, ?_, ?_, ?_, ?_⟩
        · intro e2 W2 σ2 H2 hk r
          obtain ⟨a1, a2⟩ := rel1.unlock hpd nw r
          exact ⟨a1, wi.nx e2 W2 σ2 _ hk a2⟩
        · intro e2 W2 σ2 H2 hk r
          obtain ⟨a1, a2⟩ := rel1.unlock hpd nw r
          exact ⟨a1, wi.bk e2 W2 σ2 _ hk a2⟩
        · intro e2 W2 σ2 H2 hk r
          obtain ⟨a1, a2⟩ := rel1.unlock hpd nw r
          exact ⟨a1, wi.ct e2 W2 σ2 _ hk a2⟩
        · intro d2 v2 e2 W2 σ2 H2 hk r q2
          obtain ⟨a1, a2⟩ := rel1.unlock hpd nw r
          exact ⟨a1, wi.rt d2 v2 e2 W2 σ2 _ hk a2 (Rep.frame (fr_unlock a1) (fun a h => .inl h) _ _ q2)⟩
        · exact fun e2 x W2 σ2 H2 cls dd hk => hk.elim
      have sr := src_keys hz rkL nw (upd_same (H := H) (a := p))
      exact for_run (F := FL) (forJ_step sr.len) (Co.le (Co.iter _ _) kx) o.at_ relL wiL sr hw
    · refine .inr (.inl ⟨i, rfl, .ref p, hv', p, od, rfl, .inl ⟨kvs, hpd, ?_⟩⟩)
      have sr := src_keys hz (RepK.x.mp rk) nw hpd
      exact for_run (forJ_step sr.len) (Co.le (Co.iter _ _) kx) o rel1 (K := { K with ex := fun _ _ => False }) ⟨wi.nx, wi.bk, wi.ct, wi.rt, fun _ _ _ _ _ _ _ h => h.elim⟩ sr hw
end
end Dl
namespace Dl
open PySem PySem.Spec PyProof.Rows L2
section
variable {G : GC} {c : CC} {F : Fx} {pf : PF} {pc : PC} {n : Nat} {X : Cx} {a b e : Expr} {ie x y : IE} {pos : Pos}
theorem swaps_not {t : Option Expr} {l : Nat} {env : Env} (h : isComp e = false) : swapsWith e t l env = pure false := by
  unfold swapsWith
  cases e <;> first
    | rfl
    | cases h
theorem onOwn_some {s : Option Sl} {K : D → Prop} (h : onOwn s K) : ∃ d, s = some (.own d) ∧ K d := by
  unfold onOwn at h
  split at h
  · exact ⟨_, rfl, h⟩
  · exact h.elim
theorem onLst_some {d : D} {K : List D → Prop} (h : onLst d K) : ∃ xs, d = .lst xs ∧ K xs := by
  unfold onLst at h
  split at h
  · exact ⟨_, rfl, h⟩
  · exact h.elim
/-- an own thing is written in its place -/
theorem Rel.write {k : Nat} {W : Addr → Prop} {env : DEnv} {σ : L2.St} {H : Hp} {i : Nat} {d d' : D} {p : Addr} {ob u0 : HO} (hu : H p = some u0) (hx : ∀ φ, u0 ≠ .ext φ) (ho : ∀ φ, ob ≠ .ext φ) (rel : Rel F.P k F.W0 W F.H0 H env σ) (he : env[i]? = some (.own d)) (hs : σ[i]? = some (some (.ref p))) (nw : New F.P F.H0 p) (hw : W p)
    (ow : OwnRep F.P W (upd H p ob) d' p) : Rel F.P k F.W0 W F.H0 (upd H p ob) (env.set i (.own d')) σ := by
  have hl : i < σ.length := (List.getElem?_eq_some_iff.mp hs).1
  -- the slot forgotten, the thing written, the slot set again
  have r1 : Rel F.P k F.W0 W F.H0 H (env.set i .un) σ :=
    { len := by rw [List.length_set]; exact rel.len
      val := fun j e' h => by
        rcases set_get h with ⟨_, e1, _⟩ | ⟨_, h⟩
        · cases e1
        · exact rel.val j e' h
      own := fun j e' h => by
        rcases set_get h with ⟨_, e1, _⟩ | ⟨_, h⟩
        · cases e1
        · exact rel.own j e' h
      apart := fun j l e1 e2 b h1 h2 h3 h4 => by
        rcases set_get h1 with ⟨_, z, _⟩ | ⟨_, h1⟩
        · cases z
        · rcases set_get h2 with ⟨_, z, _⟩ | ⟨_, h2⟩
          · cases z
          · exact rel.apart j l e1 e2 b h1 h2 h3 h4
      w0 := rel.w0, w00 := rel.w00, wk := rel.wk, dom0 := rel.dom0, old := rel.old, sub := rel.sub, strm := rel.strm, tw := rel.tw }
  have ap : ∀ (j : Nat) (e' : D), (env.set i .un)[j]? = some (.own e') → σ[j]? ≠ some (some (.ref p)) := fun j e' h z => by
    rcases set_get h with ⟨_, e1, _⟩ | ⟨hj, h⟩
    · cases e1
    · exact hj (rel.apart i j d e' p he h hs z)
  have r2 := r1.poke (o := ob) hu hx ho hw nw ap
  have r3 := r2.setOwn i hw nw ow fun j e' _ h => ap j e' h
  rw [List.set_set] at r3
  have eσ : σ.set i (some (.ref p)) = σ := by
    apply List.ext_getElem?
    intro j
    by_cases hj : i = j
    · subst hj
      rw [get_set hl, hs]
    · rw [List.getElem?_set_ne hj]
  rw [eσ] at r3
  exact r3
theorem frW {W : Addr → Prop} {H : Hp} {p : Addr} {ob : HO} (hw : W p) : Fr W H (upd H p ob) := fun a u nn _ hh => by
  have ne : a ≠ p := fun z => nn (z ▸ hw)
  cases u <;> first
    | (show upd H p _ a = _
       rw [upd_ne ne]; exact hh)
    | (rcases hh with hh | ⟨o2, hh⟩
       · exact .inl (by rw [upd_ne ne]; exact hh)
       · exact .inr ⟨o2, by rw [upd_ne ne]; exact hh⟩)
theorem var_facts {x : Str} {i : Nat} (o : XOk G c F pf pc n X) {p : Pos} (h : cName c x = some i) : PE X (.Name x p) (tVar i) := by
  obtain ⟨h1, h2, h3, h4⟩ := cName_ok o h
  exact pe_var h1 h2 h3 h4
theorem stm_app {c1 : Co} (o : XOk G c F pf pc n X) {sh : List Nat} {i : Nat} {x : Str} {p ap cp : Pos} {fr : Bool} (hx : cName c x = some i) (hs : notStar e = true) (hl : (ap.endLine == cp.line) = true) (he : PE X e (tD F fr c1 (wE pf pc ie))) :
    PS X (.Expr (.Call (.Attribute (.Name x p) "append" ap) [e] [] cp) pos) (tS F c1 (wS pf pc (.app sh i ie))) := by
  have pe := pe_bm (cpos := cp) (apos := ap) PySem.F.plainAttrs_list PySem.F.slot_list_append PySem.F.type_list_append mt_append (var_facts (p := p) o hx) (pa_cons he pa_nil (star_of hs)) rfl (few_of (by simp [hs]) (by simp)) hl (star_of hs)
  refine PS.imp (ps_expr pe (swaps_not rfl)) fun D σ H ⟨W, env, K, kx, rel, wi, hw⟩ => ?_
  unfold wS at hw
  obtain ⟨W1, rel1, _⟩ := Rel.share sh rel
  obtain ⟨d', hds, hd⟩ := onOwn_some hw
  obtain ⟨ds, rfl, hd⟩ := onLst_some hd
  obtain ⟨a, ha, wa, na, xs, hxs, hz, rl⟩ := rel1.own i _ hds
  refine ⟨.ref a, ha, .inl ⟨rfl, xs, .inl (.inl hxs)⟩, ?_⟩
  refine goV o.mf o.mc rel1 hd (fun _ h => wi.xk rel1 h) fun d v H1 ⟨hlt, hK⟩ e1 rel2 r _ => ?_
  have h1 : H1 a = some (.lst xs) := e1.keep a _ na.1 hxs
  refine ⟨a, xs, v, rfl, rfl, h1, by rw [← rl.len]; exact hlt, ?_⟩
  refine wi.nx _ W1 σ _ hK (rel2.write h1 (fun _ z => nomatch z) (fun _ z => nomatch z) hds ha na wa ⟨xs ++ [v], upd_same, ?_, ?_⟩)
  · rw [List.length_append, ← rl.len]; simp; omega
  · exact RepL.frame (frW wa) (fun a h => .inl h) _ _ (RepL.app (rl.keep rel1 e1) (RepL.one r))
theorem stm_ext {c1 : Co} (o : XOk G c F pf pc n X) {sh : List Nat} {i : Nat} {x : Str} {p ap cp : Pos} (hx : cName c x = some i) (hs : notStar e = true) (hl : (ap.endLine == cp.line) = true) (he : PE X e (tDB F c1 (bor ie (wE pf pc ie)))) :
    PS X (.Expr (.Call (.Attribute (.Name x p) "extend" ap) [e] [] cp) pos) (tS F c1 (wS pf pc (.extd sh i ie))) := by
  have pe := pe_bm (cpos := cp) (apos := ap) PySem.F.plainAttrs_list PySem.F.slot_list_extend PySem.F.type_list_extend mt_extend (var_facts (p := p) o hx) (pa_cons he pa_nil (star_of hs)) rfl (few_of (by simp [hs]) (by simp)) hl (star_of hs)
  refine PS.imp (ps_expr pe (swaps_not rfl)) fun D σ H ⟨W, env, K, kx, rel, wi, hw⟩ => ?_
  unfold wS at hw
  obtain ⟨W1, rel1, _⟩ := Rel.share sh rel
  obtain ⟨d', hds, hd⟩ := onOwn_some hw
  obtain ⟨ds, rfl, hd⟩ := onLst_some hd
  obtain ⟨a, ha, wa, na, xs, hxs, hz, rl⟩ := rel1.own i _ hds
  refine ⟨.ref a, ha, .inl ⟨rfl, xs, .inl (.inl hxs)⟩, ?_⟩
  refine goB o.mf o.mc rel1 hd (fun _ h => wi.xk rel1 h) fun d v H1 hK e1 rel2 r => ?_
  obtain ⟨ys, rfl, hlt, hK⟩ := onLst_some hK
  obtain ⟨b, zs, rfl, hb, hz2, r2⟩ := r.lst
  have h1 : H1 a = some (.lst xs) := e1.keep a _ na.1 hxs
  refine ⟨a, b, xs, zs, rfl, rfl, h1, hb, by rw [← rl.len, ← r2.len]; exact hlt, ?_⟩
  refine wi.nx _ W1 σ _ hK (rel2.write h1 (fun _ z => nomatch z) (fun _ z => nomatch z) hds ha na wa ⟨xs ++ zs, upd_same, ?_, ?_⟩)
  · rw [List.length_append, ← rl.len, ← r2.len]; exact hlt
  · exact RepL.frame (frW wa) (fun a h => .inl h) _ _ (RepL.app (rl.keep rel1 e1) r2)
theorem stm_setk {c1 c2 : Co} (o : XOk G c F pf pc n X) {sh : List Nat} {i : Nat} {x : Str} {p sp : Pos} {k : Expr} {ik : IE} {fr : Bool} (hx : cName c x = some i) (hk : isSlice k = false) (hc : isComp e = false) (he : PE X e (tD F fr c1 (wE pf pc ie))) (hke : PE X k (tDB F c2 (bor ik (wE pf pc ik)))) :
    PS X (.Assign [.Subscript (.Name x p) k sp] e pos) (tS F (c1.comp c2) (wS pf pc (.setk sh i ik ie))) := by
  have p1 := ps_dput (pos := pos) (pos' := sp) (by have := o.units; omega) (var_facts (p := p) o hx) hke he (swaps_not hc)
  have p2 := ps_asg (pos := pos) he (pg_sub (pos := sp) (var_facts (p := p) o hx) hke set_list (fun v => by cases k <;> first | rfl | cases hk)) (by unfold swapsWithSole; exact swaps_not hc) (by unfold swappedStores; rfl) rfl
  refine PS.imp (PS.orr p1 p2) fun D σ H ⟨W, env, K, kx, rel, wi, hw⟩ => ?_
  unfold wS at hw
  obtain ⟨W1, rel1, _⟩ := Rel.share sh rel
  obtain ⟨d0, hds, hd⟩ := onOwn_some hw
  obtain ⟨a, ha, wa, na, ow⟩ := rel1.own i _ hds
  cases d0 <;> try exact ow.elim
  · -- a list
    refine .inr ?_
    obtain ⟨xs, hxs, hz, rl⟩ := ow
    refine goV o.mf o.mc rel1 hd (fun _ h => wi.xk rel1 h) fun d v H1 hd e1 rel2 r _ => ⟨.ref a, ha, goB o.mf o.mc rel2 hd (fun _ h => wi.xk rel2 h) fun d2 v2 H2 hd2 e2 rel3 r2 => ?_⟩
    cases d2 <;> try exact (show False from hd2).elim
    obtain ⟨j, hj, hK⟩ := hd2
    have h2 : H2 a = some (.lst xs) := e2.keep a _ na.1 (e1.keep a _ na.1 hxs)
    refine ⟨a, xs, _, j, rfl, r2.int, h2, by rw [← rl.len]; exact hj, ?_⟩
    refine wi.nx _ W1 σ _ hK (rel3.write h2 (fun _ z => nomatch z) (fun _ z => nomatch z) hds ha na wa ⟨xs.set j v, upd_same, by rw [List.length_set]; exact hz, ?_⟩)
    exact RepL.frame (frW wa) (fun a h => .inl h) _ _ (RepL.set j ((rl.keep rel1 e1).keep rel2 e2) (r.keep rel2 e2))
  · -- a dict
    refine .inl ?_
    obtain ⟨kvs, hkv, hz, rk⟩ := ow
    refine goV o.mf o.mc rel1 hd (fun _ h => wi.xk rel1 h) fun d v H1 hd e1 rel2 r _ => ⟨.ref a, ha, goB o.mf o.mc rel2 hd (fun _ h => wi.xk rel2 h) fun d2 v2 H2 hd2 e2 rel3 r2 => ?_⟩
    have hd2 : match keyD d2 with
      | some k => List.length _ < sizeLine ∧ _
      | none => False := hd2
    split at hd2
    · rename_i kk ek
      obtain ⟨hlt, hK⟩ := hd2
      have h2 : H2 a = some (.dK kvs) := e2.keep a _ na.1 (e1.keep a _ na.1 hkv)
      have rk2 := RepK.x.mp rk
      have rX : RepX F.P W1 H2 _ kvs := RepK.x.mp (RepK.frame (rel2.fr e2) (fun a h => .inl h) _ _ (RepK.frame (rel1.fr e1) (fun a h => .inl h) _ _ rk))
      have hlen : kvs.length < sizeLine := by rw [← rk2.len]; exact hlt
      have hkey : v2 = kV kk := keyD_val ek (r2.of_not (keyD_cont ek))
      have okk : KeyOk kk := by
        cases d2 <;> simp only [keyD, Option.some.injEq, reduceCtorEq] at ek
        · subst ek; exact True.intro
        · subst ek; exact r2.str.2
      refine ⟨a, _, rfl, .inl ⟨kvs, kk, h2, hkey, hlen, rfl⟩, wi.nx _ W1 σ _ hK (rel3.write h2 (fun _ z => nomatch z) (fun _ z => nomatch z) hds ha na wa ⟨putK kvs kk v, upd_same, ⟨?_, putK_keys hz.2 okk⟩, ?_⟩)⟩
      · have := length_putK kvs kk v
        omega
      · exact RepK.frame (frW wa) (fun a h => .inl h) _ _ (RepK.x.mpr (rX.put kk (r.keep rel2 e2)))
    · exact hd2.elim
  · refine .inl ?_
    refine goV o.mf o.mc rel1 hd (fun _ h => wi.xk rel1 h) fun d v H1 hd e1 rel2 r _ => ⟨.ref a, ha, goB o.mf o.mc rel2 hd (fun _ h => wi.xk rel2 h) fun d2 v2 H2 hd2 e2 rel3 r2 => ?_⟩
    cases d2 <;> exact (show False from hd2).elim
theorem stm_aug {c1 : Co} (o : XOk G c F pf pc n X) {i : Nat} {x : Str} {p : Pos} {op : Operator} {bo : BOp} (hb : cBop op = some bo) (hx : cT c 1 (.Name x p) = some (.nm i)) (he : PE X e (tDB F c1 (bor ie (wE pf pc ie)))) :
    PS X (.AugAssign (.Name x p) op e pos) (tS F c1 (wS pf pc (.aug i bo ie))) := by
  obtain ⟨h1, h2, h3⟩ := loc_facts o hx
  have ip : PIp X op (fun x y H Q => ∃ i j, x = .int i ∧ y = .int j ∧ ((bo = .add ∧ Q (.int (i + j)) H) ∨ (bo = .sub ∧ Q (.int (i - j)) H))) := by
    intro pins s σ H x y v u Q I r1 r2 ⟨i, j, e1, e2, h⟩
    rcases h with ⟨hb', h⟩ | ⟨hb', h⟩
    · subst hb'
      cases op <;> simp only [cBop, Option.some.injEq, reduceCtorEq] at hb
      exact ip_add pins s σ H x y v u Q I r1 r2 ⟨i, j, e1, e2, h⟩
    · subst hb'
      cases op <;> simp only [cBop, Option.some.injEq, reduceCtorEq] at hb
      exact ip_sub pins s σ H x y v u Q I r1 r2 ⟨i, j, e1, e2, h⟩
  refine PS.imp (ps_aug o.nd h1 h2 he ip h3) fun D σ H ⟨W, env, K, kx, rel, wi, hw⟩ => ?_
  unfold wS onVal at hw
  split at hw
  · rename_i d hd
    unfold onInt at hw
    split at hw
    · obtain ⟨v, hv, rv⟩ := rel.val i _ hd
      rw [Rep.int.mp rv] at hv
      refine ⟨_, hv, goB o.mf o.mc rel hw (fun _ h => wi.xk rel h) fun d2 v2 H1 hd2 e1 rel1 r => ?_⟩
      split at hd2
      · refine ⟨_, _, rfl, r.int, hd2.imp (fun q => ⟨q.1, ?_⟩) fun q => ⟨q.1, ?_⟩⟩
        · exact wi.nx _ W _ _ q.2 (rel1.set i (Rep.int.mpr rfl))
        · exact wi.nx _ W _ _ q.2 (rel1.set i (Rep.int.mpr rfl))
      · exact hd2.elim
    · exact hw.elim
  · exact hw.elim
theorem stm_asgT {c1 : Co} (o : XOk G c F pf pc n X) {sh : List Nat} {tg : Expr} {ts : List IT} {fr : Bool} (hsw : swapsWithSole [tg] e pos.line X.env = pure false) (hst : swappedStores [tg] e X.env = pure none) (h1 : (assignEach [tg] X.env).map (·.2) = [assign tg X.env]) (hg : PG X tg (gD F (.tp ts))) (he : PE X e (tD F fr c1 (wE pf pc ie))) :
    PS X (.Assign [tg] e pos) (tS F c1 (wS pf pc (.asgT sh ts ie))) := by
  refine PS.imp (ps_asg he hg hsw hst h1) fun D σ H ⟨W, env, K, kx, rel, wi, hw⟩ => ?_
  unfold wS at hw
  obtain ⟨W1, rel1, _⟩ := Rel.share sh rel
  exact goV o.mf o.mc rel1 hw (fun _ h => wi.xk rel1 h) fun d v H1 ⟨env2, ha, hK⟩ e1 rel2 r _ => ⟨W1, _, _, d, env2, rel2, r, ha, fun σ2 rel3 _ => wi.nx _ W1 σ2 H1 hK rel3⟩
end
end Dl
namespace Dl
open PySem PySem.Spec PyProof.Rows L2
section
variable {G : GC} {c : CC} {F : Fx} {pf : PF} {pc : PC} {n : Nat} {X : Cx} {a b e : Expr} {ie x y : IE} {pos : Pos}
/-! ### a, b = x, y -/
def isOwnV (e : IE) (d : D) : Bool := fresh e && isCont d
theorem mkOwn_own {e : IE} {d : D} (h : isOwnV e d = true) : mkOwn e d = .own d := by
  unfold isOwnV at h
  rw [Bool.and_eq_true] at h
  unfold mkOwn
  rw [if_pos h.1]
  have hc := h.2
  cases d <;> first
    | rfl
    | cases hc
theorem mkOwn_val {e : IE} {d : D} (h : isOwnV e d = false) : mkOwn e d = .val d := by
  unfold isOwnV at h
  unfold mkOwn
  by_cases h1 : fresh e = true
  · rw [h1, Bool.true_and] at h
    rw [if_pos h1]
    cases d <;> first
      | rfl
      | cases h
  · rw [if_neg h1]
/-- what several values are, side by side: Hs the heap ahead of them -/
def ParR (F : Fx) (W : Addr → Prop) (Hs H : Hp) : IEs → List D → List V → Prop
  | .nil, ds, vs => ds = [] ∧ vs = []
  | .cons e es, ds, vs => ∃ d dr v vr, ds = d :: dr ∧ vs = v :: vr ∧ ((isOwnV e d = true ∧ ∃ a, v = .ref a ∧ W a ∧ Hs a = none ∧ New F.P F.H0 a ∧ OwnRep F.P W H d a ∧ ∃ H1, H1 a ≠ none ∧ (∀ b, Hs b ≠ none → H1 b ≠ none) ∧ ParR F W H1 H es dr vr) ∨ (isOwnV e d = false ∧ Rep F.P W H d v ∧ ParR F W Hs H es dr vr))
  | .lam _ _ _ _, _, _ => False
theorem ParR.early {W : Addr → Prop} {Hs Hs' H : Hp} (h : ∀ a, Hs' a = none → Hs a = none) : ∀ {es : IEs} {ds : List D} {vs : List V}, ParR F W Hs' H es ds vs → ParR F W Hs H es ds vs
  | .nil, ds, vs, r => by unfold ParR at r ⊢; exact r
  | .cons e es, ds, vs, r => by
    unfold ParR at r ⊢
    obtain ⟨d, dr, v, vr, e1, e2, r⟩ := r
    refine ⟨d, dr, v, vr, e1, e2, r.imp (fun ⟨h1, a, h2, h3, h4, h5, h6, H1, h7, h8, h9⟩ => ⟨h1, a, h2, h3, h a h4, h5, h6, H1, h7, fun b z => h8 b fun w => z (h b w), h9⟩) fun ⟨h1, h2, h3⟩ => ⟨h1, h2, ParR.early h h3⟩⟩
def tQ (F : Fx) (co : Co) (pf : PF) (pc : PC) (ies : IEs) : TA := fun σ H Q => ∃ W env k, Rel F.P (co.f k) F.W0 W F.H0 H env σ ∧ wEs pf pc ies env (fun ds => ∀ W' vs H', Ext F.P k H H' → (∀ a, W a → W' a) → (∀ a, W' a → W a ∨ H a = none) → Rel F.P k F.W0 W' F.H0 H' env σ → ParR F W' H H' ies ds vs → Q vs H') (xk F k W σ H)
theorem par_nil (o : XOk G c F pf pc n X) : PA X [] (tQ F Co.one pf pc .nil) := by
  refine PA.imp pa_nil fun σ H Q ⟨W, env, kx, rel, hw⟩ => ?_
  unfold wEs at hw
  exact hw W [] H (Ext.refl rel.strm) (fun a h => h) (fun a h => .inl h) rel (by unfold ParR; exact ⟨rfl, rfl⟩)
theorem par_cons {c1 c2 : Co} (o : XOk G c F pf pc n X) {r : List Expr} {xs : IEs} (hs : notStar e = true) (he : PE X e (tD F (fresh x) c1 (wE pf pc x))) (hr : PA X r (tQ F c2 pf pc xs)) : PA X (e :: r) (tQ F (c1.comp c2) pf pc (.cons x xs)) := by
  refine PA.imp (pa_cons he hr (star_of hs)) fun σ H Q ⟨W, env, kx, rel, hw⟩ => ?_
  unfold wEs at hw
  refine goV o.mf o.mc rel hw (fun _ h => h) fun d v H1 hd e1 rel1 r1 f1 => ?_
  cases hown : isOwnV x d with
  | false =>
    refine ⟨W, env, kx, rel1, wEs_mono o.mf o.mc xs env _ _ _ _ (fun ds hds W' vs H' e2 hM hW' rel2 pr => ?_) (fun _ h => h.ext e1) hd⟩
    refine hds W' (v :: vs) H' (e1.trans e2) hM (fun a h => (hW' a h).imp id fun z => ?_) rel2 ?_
    · cases q : H a with
      | none => rfl
      | some w => exact absurd z (e1.dom a (by rw [q]; exact fun z => nomatch z))
    · unfold ParR
      refine ⟨d, ds, v, vs, rfl, rfl, .inr ⟨hown, Rep.frame (rel1.fr e2) hW' _ _ r1, pr.early fun a z => ?_⟩⟩
      cases q : H a with
      | none => rfl
      | some w => exact absurd z (e1.dom a (by rw [q]; exact fun z => nomatch z))
  | true =>
    have hb := hown
    unfold isOwnV at hb
    rw [Bool.and_eq_true] at hb
    obtain ⟨a, rfl, hn, ow⟩ := f1 hb.1 hb.2
    have relM := rel.more hn e1 ow.ne
    refine ⟨_, env, kx, relM, wEs_mono o.mf o.mc xs env _ _ _ _ (fun ds hds W' vs H' e2 hM hW' rel2 pr => ?_) (fun _ h => h.more (fun a h => .inl h) e1) hd⟩
    have nT : ¬ F.P.T a := (rel.newN hn).1
    have back : ∀ b, H1 b = none → H b = none := fun b z => by
      cases q : H b with
      | none => rfl
      | some w => exact absurd z (e1.dom b (by rw [q]; exact fun z => nomatch z))
    refine hds W' (.ref a :: vs) H' (e1.trans e2) (fun b h => hM b (.inl h)) (fun b h => ?_) rel2 ?_
    · rcases hW' b h with (q | q) | q
      · exact .inl q
      · exact .inr (q ▸ hn)
      · exact .inr (back b q)
    · unfold ParR
      refine ⟨d, ds, .ref a, vs, rfl, rfl, .inl ⟨hown, a, rfl, hM a (.inr rfl), hn, rel.newN hn, ow.frame (relM.fr e2) hW' fun q => e2.keep a q nT, H1, ow.some, e1.dom, pr⟩⟩
def setV : List Nat → List V → L2.St → L2.St
  | j :: js, v :: vs, σ => setV js vs (σ.set j (some v))
  | _, _, σ => σ
/-- the slots set, one after another -/
theorem par_set {kx : Nat} {W : Addr → Prop} {Hs H : Hp} : ∀ {es : IEs} {js : List Nat} {ds : List D} {vs : List V} {env env2 : DEnv} {σ : L2.St}, Rel F.P kx F.W0 W F.H0 H env σ → ParR F W Hs H es ds vs → parSet js es ds env = some env2 →
    (∀ (i : Nat) (d : D) (a : Addr), env[i]? = some (.own d) → σ[i]? = some (some (.ref a)) → Hs a ≠ none) → Rel F.P kx F.W0 W F.H0 H env2 (setV js vs σ)
  | .nil, js, ds, vs, env, env2, σ, rel, pr, hp, hd => by
    unfold ParR at pr
    obtain ⟨rfl, rfl⟩ := pr
    cases js with
    | nil =>
      unfold parSet at hp
      cases hp
      unfold setV
      exact rel
    | cons j js => unfold parSet at hp; cases hp
  | .cons e es, js, ds, vs, env, env2, σ, rel, pr, hp, hd => by
    unfold ParR at pr
    obtain ⟨d, dr, v, vr, rfl, rfl, pr⟩ := pr
    cases js with
    | nil => unfold parSet at hp; cases hp
    | cons j js =>
      unfold parSet at hp
      unfold setV
      rcases pr with ⟨ho, a, rfl, wa, hn, na, ow, H1, h1, h1d, pr⟩ | ⟨ho, rv, pr⟩
      · rw [mkOwn_own ho] at hp
        have rel1 := rel.setOwn j wa na ow fun k e' _ h z => hd k e' a h z hn
        refine par_set rel1 pr hp fun k d' b h1' h2 => ?_
        rcases set_get h1' with ⟨rfl, _, hl⟩ | ⟨hj, h1'⟩
        · rw [get_set (by rw [← rel.len]; exact hl)] at h2
          cases h2
          exact h1
        · rw [List.getElem?_set_ne hj] at h2
          exact h1d b (hd k d' b h1' h2)
      · rw [mkOwn_val ho] at hp
        refine par_set (rel.set j rv) pr hp fun k d' b h1 h2 => ?_
        rcases set_get h1 with ⟨_, z, _⟩ | ⟨hj, h1⟩
        · cases z
        · rw [List.getElem?_set_ne hj] at h2
          exact hd k d' b h1 h2
theorem ParR.len {W : Addr → Prop} {H' : Hp} : ∀ {es : IEs} {ds : List D} {vs : List V} {Hs : Hp}, ParR F W Hs H' es ds vs → vs.length = ds.length
  | .nil, ds, vs, Hs, pr => by
    unfold ParR at pr
    obtain ⟨rfl, rfl⟩ := pr
    rfl
  | .cons e es, ds, vs, Hs, pr => by
    unfold ParR at pr
    obtain ⟨d, dr, v, vr, rfl, rfl, pr⟩ := pr
    rcases pr with ⟨_, _, _, _, _, _, _, H1, _, _, pr⟩ | ⟨_, _, pr⟩
    · rw [List.length_cons, List.length_cons, ParR.len pr]
    · rw [List.length_cons, List.length_cons, ParR.len pr]
theorem par_road {c1 : Co} {sh : List Nat} {js : List Nat} {ies : IEs} {σ : L2.St} {H : Hp} {D : Ends} (h : tS F c1 (wS pf pc (.par sh js ies)) D σ H) (o : XOk G c F pf pc n X) :
    tQ F c1 pf pc ies σ H fun vs H1 => vs.length = ieLen ies ∧ D.nx (setV js vs σ) H1 := by
  obtain ⟨W, env, K, kx, rel, wi, hw⟩ := h
  unfold wS at hw
  obtain ⟨W1, rel1, _⟩ := Rel.share sh rel
  refine ⟨W1, _, kx, rel1, wEs_mono o.mf o.mc ies _ _ _ _ _ (fun ds ⟨hlen, env2, hp, hK⟩ W' vs H' e1 hM hW' rel2 pr => ?_) (fun _ h => wi.xk rel1 h) (wEs_len o.mf o.mc _ _ _ _ hw)⟩
  refine ⟨by rw [ParR.len pr, hlen], wi.nx env2 W' _ H' hK (par_set rel2 pr hp fun i d a h1 h2 => ?_)⟩
  obtain ⟨b, hb, wb, _⟩ := rel1.own i d h1
  rw [h2] at hb
  cases hb
  exact rel1.dom _ wb
theorem stm_par2 {c1 : Co} (o : XOk G c F pf pc n X) {sh : List Nat} {i j : Nat} {x y : Str} {ies : IEs} {px py pt pt2 : Pos} {kt k2} (hl : ieLen ies = 2) (hi : X.N[i]? = some x) (hj : X.N[j]? = some y) (hij : i ≠ j) (hx : X.env.scope.names.lookup x = some .local) (hy : X.env.scope.names.lookup y = some .local)
    (hsw : swappedStores [.Tuple [.Name x px, .Name y py] kt pt] (.Tuple [a, b] k2 pt2) X.env = pure (some [x, y])) (ha : PA X [a, b] (tQ F c1 pf pc ies)) :
    PS X (.Assign [.Tuple [.Name x px, .Name y py] kt pt] (.Tuple [a, b] k2 pt2) pos) (tS F c1 (wS pf pc (.par sh [i, j] ies))) := by
  refine PS.imp (ps_par o.calm o.nd hi hj hij hx hy ha hsw (by unfold swapsWithSole; exact swaps_not rfl)) fun D σ H h => ?_
  obtain ⟨W, env, kx, rel, hw⟩ := par_road h o
  refine ⟨W, env, kx, rel, wEs_mono o.mf o.mc ies _ _ _ _ _ (fun ds hd W' vs H' e1 hM hW' rel2 pr => ?_) (fun _ h => h) hw⟩
  obtain ⟨h1, h2⟩ := hd W' vs H' e1 hM hW' rel2 pr
  rw [hl] at h1
  match vs, h1 with
  | [v, w], _ => exact ⟨v, w, rfl, h2⟩
theorem stm_par3 {c1 : Co} (o : XOk G c F pf pc n X) {sh : List Nat} {i j l : Nat} {x y z : Str} {ies : IEs} {d : Expr} {px py pz pt pt2 : Pos} {kt k2} (hl : ieLen ies = 3) (hi : X.N[i]? = some x) (hj : X.N[j]? = some y) (hk : X.N[l]? = some z) (hij : i ≠ j) (hil : i ≠ l) (hjl : j ≠ l)
    (hx : X.env.scope.names.lookup x = some .local) (hy : X.env.scope.names.lookup y = some .local) (hz : X.env.scope.names.lookup z = some .local)
    (hsw : swappedStores [.Tuple [.Name x px, .Name y py, .Name z pz] kt pt] (.Tuple [a, b, d] k2 pt2) X.env = pure (some [x, y, z])) (ha : PA X [a, b, d] (tQ F c1 pf pc ies)) :
    PS X (.Assign [.Tuple [.Name x px, .Name y py, .Name z pz] kt pt] (.Tuple [a, b, d] k2 pt2) pos) (tS F c1 (wS pf pc (.par sh [i, j, l] ies))) := by
  refine PS.imp (ps_par3 o.calm o.nd hi hj hk hij hil hjl hx hy hz ha hsw (by unfold swapsWithSole; exact swaps_not rfl)) fun D σ H h => ?_
  obtain ⟨W, env, kx, rel, hw⟩ := par_road h o
  refine ⟨W, env, kx, rel, wEs_mono o.mf o.mc ies _ _ _ _ _ (fun ds hd W' vs H' e1 hM hW' rel2 pr => ?_) (fun _ h => h) hw⟩
  obtain ⟨h1, h2⟩ := hd W' vs H' e1 hM hW' rel2 pr
  rw [hl] at h1
  match vs, h1 with
  | [v, w, u], _ => exact ⟨v, w, u, rfl, h2⟩
/-! ### name = [.. for ..] -/
theorem stm_asgLc {cs cc cx : Co} (o : XOk G c F pf pc n X) {sh : List Nat} {i : Nat} {y : Str} {py pos' : Pos} {elt tg iter : Expr} {ifs : List Expr} {scope : Scope} {ownp : List (Str × Nat)} {src : ISrc} {tgi : IT} {ci : IO} {xi : IE} {fr : Bool} (hy : cT c 1 (.Name y py) = some (.nm i)) (hyl : X.env.scope.names.lookup y = some .local)
    (hsw : swapsWith (.ListComp elt [⟨tg, iter, ifs, 0⟩] scope pos) (some (.Name y py)) pos'.line X.env = pure true)
    (hi : PI X tg iter (tDI F true cs (wSrc pf pc true src))) (hv : ∀ i, src = .val (.slot i) → PE X iter (tVar i)) (ok : BlkOk X.N X.env.scope scope ownp) (hown : ownp.map (·.2) = ownOfT tgi)
    (hg : ∀ (H0 : Sn) (s : Shared) (H : Hp) (C : Addr) (cl : List (Str × Addr)) (fp : List Addr), PG (X.blk s H scope (compEnvC scope cl C X.env) fp) tg (gD (noX F H0) tgi))
    (ht : ∀ (H0 : Sn) (s : Shared) (H : Hp) (C : Addr) (cl : List (Str × Addr)) (fp : List Addr), PTs (X.blk s H scope (compEnvC scope cl C X.env) fp) ifs (tDC (noX F H0) cc (wC pf pc ci)))
    (he : ∀ (H0 : Sn) (s : Shared) (H : Hp) (C : Addr) (cl : List (Str × Addr)) (fp : List Addr), PE (X.blk s H scope (compEnvC scope cl C X.env) fp) elt (tD (noX F H0) fr cx (wE pf pc xi))) (hs : ∀ x, foldedSetIterable iter X.env x = pure x) :
    PS X (.Assign [.Name y py] (.ListComp elt [⟨tg, iter, ifs, 0⟩] scope pos) pos') (tS F (lcCo cs cc cx) (wS pf pc (.asg sh i (.lc xi tgi src ci (ownOfT tgi))))) := by
  have g : ∀ (s : Shared) (H : Hp) (C : Addr) (cl : List (Str × Addr)) (fp : List Addr), PG (X.blk s H scope (compEnvC scope cl C X.env) fp) tg (gE F tgi) := fun s H C cl fp => ⟨fun pins s' σ H' v u Q I r ⟨H0, hw⟩ => (hg H0 s H C cl fp).run pins s' σ H' v u Q I r hw⟩
  have t : ∀ (s : Shared) (H : Hp) (C : Addr) (cl : List (Str × Addr)) (fp : List Addr), PTs (X.blk s H scope (compEnvC scope cl C X.env) fp) ifs (tCE F cc (wC pf pc ci)) := fun s H C cl fp => ⟨fun pins s' σ H' Q I ⟨H0, hw⟩ => (ht H0 s H C cl fp).run pins s' σ H' Q I hw⟩
  have w : ∀ (s : Shared) (H : Hp) (C : Addr) (cl : List (Str × Addr)) (fp : List Addr), PE (X.blk s H scope (compEnvC scope cl C X.env) fp) elt (tEE F fr cx (wE pf pc xi)) := fun s H C cl fp => ⟨fun pins s' σ H' Q I ⟨H0, hw⟩ => (he H0 s H C cl fp).run pins s' σ H' Q I hw⟩
  obtain ⟨h1, h2, h3⟩ := loc_facts o hy
  have f1 := ps_setLc o.calm o.nd h1 hyl hsw hi ok g t w hs
  have f2 := ps_setLc o.calm o.nd h1 hyl hsw (pi_K hv) ok g t w hs
  refine PS.imp (PS.orr f1 (PS.orr f2 (ps_lock f2))) fun D σ H q => ?_
  have q2 := asg_road o q
  rw [hown]
  rcases lc_road (fr := fr) o q2 with r | r | r
  · exact .inl r
  · exact .inr (.inl r)
  · obtain ⟨d, u, hd, mu, r⟩ := r
    exact .inr (.inr ⟨d, u, hd, mu, fun od => r od⟩)
end
end Dl
namespace Dl
open PySem PySem.Spec PyProof.Rows L2

/-! ### slots that come to be shared -/
def borE0 : IE → List Nat → List Nat
  | .slot _, _ => []
  | _, l => l
mutual
def escE : IE → List Nat
  | .slot i => [i]
  | .cn _ => []
  | .bin _ a b => borE0 a (escE a) ++ borE0 b (escE b)
  | .neg a => borE0 a (escE a)
  | .cmp _ a b => borE0 a (escE a) ++ borE0 b (escE b)
  | .chain _ _ a b c => borE0 a (escE a) ++ (borE0 b (escE b) ++ borE0 c (escE c))
  | .and a b => escE a ++ escE b
  | .or a b => escE a ++ escE b
  | .not a => borE0 a (escE a)
  | .ite t a b => borE0 t (escE t) ++ (escE a ++ escE b)
  | .tup es => escEs es
  | .lst es => escEs es
  | .dic ps => escPs ps
  | .idx a b => borE0 a (escE a) ++ borE0 b (escE b)
  | .slc a l h => borE0 a (escE a) ++ (escO l ++ escO h)
  | .rev a => borE0 a (escE a)
  | .call _ es => escEs es
  | .callk _ es _ => escEs es
  | .bi _ es => escBs es
  | .mt _ a es => borE0 a (escE a) ++ escBs es
  | .get a k d => borE0 a (escE a) ++ (borE0 k (escE k) ++ escD d)
  | .isi a _ => borE0 a (escE a)
  | .lc x _ s c own => (escS s ++ (escE x ++ escO c)).filter fun i => !own.contains i
  | .lrg a b c => borE0 a (escE a) ++ (borE0 b (escE b) ++ borE0 c (escE c))
  | .items a => borE0 a (escE a)
  | .calls _ => []
  | .callL _ es => escEs es
def escEs : IEs → List Nat
  | .nil => []
  | .cons e r => escE e ++ escEs r
  | .lam _ _ caps r => caps ++ escEs r
def escBs : IEs → List Nat
  | .nil => []
  | .cons e r => borE0 e (escE e) ++ escBs r
  | .lam _ _ caps r => caps ++ escBs r
def escPs : IPs → List Nat
  | .nil => []
  | .cons k v r => escE k ++ (escE v ++ escPs r)
def escO : IO → List Nat
  | .none => []
  | .some e => borE0 e (escE e)
def escD : IO → List Nat
  | .none => []
  | .some e => escE e
def escS : ISrc → List Nat
  | .val e => escE e
  | .enum e _ => borE0 e (escE e)
  | .zip a b => borE0 a (escE a) ++ borE0 b (escE b)
  | .rng a b _ => borE0 a (escE a) ++ borE0 b (escE b)
end
/-- a for loop's source is shared -/
def escF : ISrc → List Nat
  | .val e => escE e
  | .enum e _ => escE e
  | .zip a b => escE a ++ escE b
  | .rng a b _ => borE0 a (escE a) ++ borE0 b (escE b)
def isFun (sc : Scope) : Bool := match sc.kind with
  | .function => true
  | _ => false
def nm1 (sc : Scope) (l : Nat) : Expr → Option Str
  | .Name id pos => if sc.names.lookup id == some .local && pos.line == l then some id else none
  | _ => none
def tNames (sc : Scope) (tl : List Expr) : List Str := tl.filterMap (nm1 sc ((tl.head?.map (·.pos.line)).getD 0))
def anyStar (vl : List Expr) : Bool := vl.any (fun | .Starred .. => true | _ => false)
/-- how a pair of written tuples is stored -/
def swapM (sc : Scope) (tl vl : List Expr) : Option (Option (List Str)) :=
  if !(tl.length == 2 || tl.length == 3) || vl.length != tl.length then some none
  else if anyStar vl then some none
  else if (tNames sc tl).length != tl.length || (tNames sc tl).eraseDups.length != (tNames sc tl).length then some none
  else if vl.all (foldedForSure 8) then some none
  else if vl.all (constantsAlone 8) then none
  else some (some (tNames sc tl))
theorem swapM_ok {sc : Scope} {env : Env} {tl vl : List Expr} {k k2 : Nat} {p p2 : Pos} {r : Option (List Str)} (hs : env.scope = sc) (hf : isFun sc = true) (h : swapM sc tl vl = some r) : swappedStores [.Tuple tl k p] (.Tuple vl k2 p2) env = pure r := by
  subst hs
  have hb : (env.blockKind != .function) = false := by
    unfold isFun at hf
    unfold Env.blockKind
    cases q : env.scope.kind <;> rw [q] at hf <;> first
      | decide
      | exact absurd hf (by decide)
  unfold swapM at h
  unfold swappedStores
  simp only [hb, Bool.or_false]
  by_cases h1 : (!(tl.length == 2 || tl.length == 3) || vl.length != tl.length) = true
  · rw [if_pos h1] at h
    cases h
    exact if_pos h1
  rw [if_neg h1] at h
  refine Eq.trans (if_neg h1) ?_
  by_cases h2 : anyStar vl = true
  · rw [if_pos h2] at h
    cases h
    exact if_pos h2
  rw [if_neg h2] at h
  refine Eq.trans (if_neg h2) ?_
  by_cases h3 : ((tNames env.scope tl).length != tl.length || (tNames env.scope tl).eraseDups.length != (tNames env.scope tl).length) = true
  · rw [if_pos h3] at h
    cases h
    exact if_pos h3
  rw [if_neg h3] at h
  refine Eq.trans (if_neg h3) ?_
  by_cases h4 : vl.all (foldedForSure 8) = true
  · rw [if_pos h4] at h
    cases h
    exact if_pos h4
  rw [if_neg h4] at h
  refine Eq.trans (if_neg h4) ?_
  by_cases h5 : vl.all (constantsAlone 8) = true
  · rw [if_pos h5] at h
    cases h
  rw [if_neg h5] at h
  refine Eq.trans (if_neg h5) ?_
  cases h
  rfl
end Dl
namespace Dl
open PySem PySem.Spec PyProof.Rows L2
def itNm : IT → Option Nat
  | .nm i => some i
  | .tp _ => none
def itTp : IT → Option (List IT)
  | .tp ts => some ts
  | .nm _ => none
/-- name = [..] is stored by the loop itself -/
def lcSwap (c : CC) (y : Str) (py : Pos) (v : Expr) : Bool := match v with
  | .ListComp _ _ scope pos => isFun c.sc && decide (c.sc.names.lookup y = some .local) && py.line == pos.line && !(scope.names.any fun (n, k) => n == y && (k == .local || k == .cell))
  | _ => false
def isLc : IE → Bool
  | .lc .. => true
  | _ => false
/-- the names' slots -/
def slots (c : CC) : List Expr → Option (List Nat)
  | [] => some []
  | .Name x _ :: r => if decide (c.sc.names.lookup x = some .local) then (slotFrom x c.N 0).bind fun i => (slots c r).map fun is => i :: is else none
  | _ :: _ => none
def distinct : List Nat → Bool
  | [] => true
  | i :: r => !r.contains i && distinct r
/-- what an except suite does: (found, word, e.f) kept or given back -/
def hdSt (c : CC) (n fld : Str) : Stmt → Option (Bool × Nat × Str)
  | .Assign [.Name y _] (.Tuple [.Constant (.str w) _ _, .Attribute (.Name n' _) f _] _ _) _ =>
    if decide (n' = n) && decide (f = fld) && sokB w && decide (c.sc.names.lookup y = some .local) && !decide (y = n) then (slotFrom y c.N 0).map fun j => (false, j, w) else none
  | .Return (some (.Tuple [.Constant (.str w) _ _, .Attribute (.Name n' _) f _] _ _)) _ => if decide (n' = n) && decide (f = fld) && sokB w then some (true, 0, w) else none
  | _ => none
def cHd (G : GC) (c : CC) : ExceptHandler → Option Hd
  | .ExceptHandler (some (.Name x _)) (some n) [s] _ => if isGl c x && decide (c.sc.names.lookup n = some .local) && okName n then
      (G.cls.lookup x).bind fun k => (G.flds.lookup k).bind fun fld => (slotFrom n c.N 0).bind fun i => (hdSt c n fld s).map fun r => .mk k i r.1 r.2.1 r.2.2 else none
  | _ => none
def cHds (G : GC) (c : CC) : List ExceptHandler → Option (List Hd)
  | [] => some []
  | h :: r => (cHd G c h).bind fun x => (cHds G c r).map fun xs => x :: xs
section
variable (G : GC)
mutual
def cS (c : CC) : Nat → Stmt → Option IS
  | 0, _ => none
  | f + 1, s => match s with
    | .Expr e _ => match e with
      | .Call (.Attribute (.Name x _) m ap) [a] [] cp => if (ap.endLine == cp.line) && notStar a && (decide (m = "append") || decide (m = "extend")) then
          (cName c x).bind fun i => (cE G c f a).map fun ie => if m = "append" then .app (escE ie) i ie else .extd (borE0 ie (escE ie)) i ie
        else (cE G c f e).map fun ie => .expr (escE ie) ie
      | e => if isComp e then none else (cE G c f e).map fun ie => .expr (escE ie) ie
    | .Assign ts v _ => match ts with
      | [t] => match t with
        | .Name y py => (cT c 1 t).bind fun it => (itNm it).bind fun i => (cE G c f v).bind fun ie =>
            if isComp v then (if lcSwap c y py v && isLc ie then some (.asg (escE ie) i ie) else none) else some (.asg (escE ie) i ie)
        | .Tuple tl _ _ => match v with
          | .Tuple vl _ _ => if isFun c.sc then (swapM c.sc tl vl).bind fun sw => match sw with
              | some _ => (slots c tl).bind fun js => (cEs G c f vl).bind fun ies => if ieLen ies = js.length && distinct js then some (.par (escEs ies) js ies) else none
              | none => (cT c f t).bind fun it => (itTp it).bind fun ts => (cE G c f v).map fun ie => .asgT (escE ie) ts ie
            else none
          | v => if isComp v then none else (cT c f t).bind fun it => (itTp it).bind fun ts => (cE G c f v).map fun ie => .asgT (escE ie) ts ie
        | .Subscript o k _ => match o with
          | .Name x _ => if isSlice k || isComp v then none else (cName c x).bind fun i => (cE G c f v).bind fun iv => (cE G c f k).map fun ik => .setk (escE iv ++ borE0 ik (escE ik)) i ik iv
          | _ => none
        | _ => none
      | _ => none
    | .AugAssign t op e _ => match t with
      | .Name _ _ => (cT c 1 t).bind fun it => (itNm it).bind fun i => (cBop op).bind fun bo => (cE G c f e).map fun ie => .aug i bo ie
      | _ => none
    | .Return v _ => match v with
      | none => some .retN
      | some e => (cE G c f e).map fun ie => .ret (escE ie) ie
    | .If t a b _ => (cE G c f t).bind fun it => (cSs c f a).bind fun s => (cSs c f b).map fun r => .ite (borE0 it (escE it)) it s r
    | .While t b el _ => match el with
      | [] => (cE G c f t).bind fun it => (cSs c f b).map fun s => .whl (borE0 it (escE it)) it s
      | _ => none
    | .For tg it b el _ => match el with
      | [] => (cSrc G c f it).bind fun src => (cT c f tg).bind fun t => (cSs c f b).bind fun s => if notSet it && tgOk src tg then some (.for (escF src) t src s) else none
      | _ => none
    | .Raise e ca _ => match e, ca with
      | some (.Call (.Name g _) [a] [] _), none => if isGl c g && notStar a then (G.cls.lookup g).bind fun k => (cE G c f a).map fun ie => .rais (escE ie) k ie else none
      | _, _ => none
    | .Try b hds el fin _ => match hds, el, fin with
      | h :: hs, [], [] => (cSs c f b).bind fun s => (cHds G c (h :: hs)).map fun l => .tryc s l
      | _, _, _ => none
    | .Pass _ => some .pass
    | .Break _ => some .brk
    | .Continue _ => some .cont
    | _ => none
def cSs (c : CC) : Nat → List Stmt → Option ISs
  | 0, _ => none
  | f + 1, ss => match ss with
    | [] => some .nil
    | s :: r => (cS c f s).bind fun x => (cSs c f r).map fun xs => .cons x xs
end
end
/-- an error of the package is made -/
structure ExcUse (P : Par) (X : Cx) (k : Nat) (g : Str) : Prop where
  ex : ∃ C fld, P.exc k = some (C, fld) ∧ ∀ {e : Expr} {te : TE} {p pos : Pos}, PE X e te → notStar e = true → PMk X (.Call (.Name g p) [e] [] pos)
    (fun σ H Q => te σ H fun v H1 => ∀ dx H2, (∀ a o, H1 a = some o → H2 a = some o) → H2 dx = some (.xd [(fld, v)]) → Q (.ref C) (some dx) H2)
section
variable {G : GC} {c : CC} {F : Fx} {pf : PF} {pc : PC} {n : Nat} {X : Cx} {e : Expr} {ie : IE} {pos : Pos}
theorem stm_rais {c1 : Co} (o : XOk G c F pf pc n X) {sh : List Nat} {k : Nat} {g : Str} {p cp : Pos} {fr : Bool} (U : ExcUse F.P X k g) (hs : notStar e = true) (he : PE X e (tD F fr c1 (wE pf pc ie))) : PS X (.Raise (some (.Call (.Name g p) [e] [] cp)) none pos) (tS F c1 (wS pf pc (.rais sh k ie))) := by
  obtain ⟨C, fld, hC, mk⟩ := U.ex
  refine PS.imp (ps_raise o.calm o.tk (mk he hs)) fun D σ H ⟨W, env, K, kx, rel, wi, hw⟩ => ?_
  unfold wS at hw
  obtain ⟨W1, rel1, _⟩ := Rel.share sh rel
  refine goV o.mf o.mc rel1 hw (fun _ h => wi.xk rel1 h) fun d v H1 hd e1 rel2 r _ dx H2 hgrow hdx => ?_
  have e2 := rel2.grow hgrow
  exact wi.ex _ ⟨k, some d⟩ W1 σ H2 (.ref C) (some dx) hd (rel2.ext e2) ⟨C, fld, dx, v, d, hC, rfl, rfl, rfl, hdx, r.keep rel2 e2⟩
end
end Dl
namespace Dl
open PySem PySem.Spec PyProof.Rows L2
/-! ### try with several clauses that name what they catch -/
/-- an end behind which the clause's name is gone -/
def goneD (i : Nat) (D : Ends) : Ends := ⟨fun σ H => D.nx (σ.set i none) H, D.rt, fun σ H => D.bk (σ.set i none) H, fun σ H => D.ct (σ.set i none) H⟩
abbrev Clause := Value × Nat × (Addr → Value → Option Addr → TS)
def wA (K : PySem.W.Frag) (Wout : WX) (D : Ends) : List Clause → WX
  | [] => Wout
  | cl :: r => fun cls d σ H => ∃ b, PySem.W.exmOne K cls cl.1 = some b ∧ (b = true → ∀ a, H a = none → cl.2.2 a cls d (goneD cl.2.1 D) (σ.set cl.2.1 (some (.ref a))) H) ∧ (b = false → wA K Wout D r cls d σ H)
inductive AsOk (X : Cx) : List ExceptHandler → List Clause → Prop
  | nil : AsOk X [] []
  | cons {x n : Str} {c : Value} {i : Nat} {ts : Addr → Value → Option Addr → TS} {st : Stmt} {sts : List Stmt} {q q' : Pos} {hs : List ExceptHandler} {cls : List Clause} (hn : Names X x c) (hi : X.N[i]? = some n) (hk : X.env.kindOf n = some .local)
      (hb : ∀ (a : Addr) (oe : Obj) (k : Value) (d : Option Addr) (pn : List (Addr × Obj)), Zc k d oe → (∃ fv, oe.data = .fields fv) → PSs (X.suite a ((a, oe) :: pn)) (st :: sts) (ts a k d)) (r : AsOk X hs cls) :
      AsOk X (.ExceptHandler (some (.Name x q)) (some n) (st :: sts) q' :: hs) ((c, i, ts) :: cls)
section
variable {X : Cx} {pins : List (Addr × Obj)}
/-- an exception at a that has landed in X: what is known -/
structure Down (X : Cx) (pins : List (Addr × Obj)) (a : Addr) (B : Heap) (cls : Value) (d : Option Addr) (σ : L2.St) (H : Hp) (sI s : Shared) : Prop where
  inv : Inv X pins σ H sI
  gr : ∀ b o, sI.heap.get? b = some o → b ∉ frs X.stack → B.get? b = some o
  up : sI.heap.UpToSlots s.heap
  fl : HandSPX.FlyingZ B (X.env :: X.outer) a (Zc cls d) s.heap
  na : H a = none
  os : s.os = sI.os
  ag : AllBare s.gens
theorem Down.back {a : Addr} {B : Heap} {cls : Value} {d : Option Addr} {σ : L2.St} {H : Hp} {sI s : Shared} (w : Down X pins a B cls d σ H sI s) (hs : X.stack = X.env :: X.outer) (hf : X.env.frame = some X.env.locals) :
    ∃ oe, Inv X pins σ H s ∧ s.heap.get? a = some oe ∧ Zc cls d oe ∧ (∃ fv, oe.data = .fields fv) ∧ Inv (X.suite a ((a, oe) :: (X.pn ++ pins))) [] σ H s := by
  have J := w.inv.landed w.gr w.fl.1 w.up w.os w.ag
  obtain ⟨oe, fv, h1, h2, h3⟩ := w.fl.there
  have out : a ∉ frs (X.env :: X.outer) := fun m => by
    obtain ⟨_, o', e', nf⟩ := w.fl.2.2.1.mem m
    rw [h1] at e'
    cases e'
    exact nf _ h3
  have n1 : a ≠ X.env.locals := fun z => out (List.mem_filterMap.mpr ⟨X.env, List.mem_cons_self, by rw [hf, z]⟩)
  have n2 : a ∉ X.fs := fun m => out (by
    obtain ⟨e, he, q⟩ := List.mem_filterMap.mp m
    exact List.mem_filterMap.mpr ⟨e, List.mem_cons_of_mem _ he, q⟩)
  exact ⟨oe, J, h1, h2, ⟨fv, h3⟩, J.suite h1 h3 w.na n1 n2⟩
/-- no clause takes it -/
theorem Down.on {a : Addr} {B : Heap} {cls : Value} {d : Option Addr} {σ : L2.St} {H : Hp} {sI s : Shared} {Q : Flow → Shared → Prop} {W : WX} (w : Down X pins a B cls d σ H sI s) (hs : X.stack = X.env :: X.outer) (hf : X.env.frame = some X.env.locals) (tk : Takes X W) (hw : W cls d σ H) :
    wpAny (model X.prog X.w) X.A (handleBy (.ref a) X.env []) Q X.xe s := by
  refine wpAny_handleBy_nil ?_
  have fin : wpAny (model X.prog X.w) X.A (setFlight (.ref a) X.env.frame) (fun _ s4 => wpAny (model X.prog X.w) X.A (throw (.ref a) : Sem Flow) Q X.xe s4) X.xe s := by
    rw [hf]
    exact HandSPX.setFlight_upZ w.fl fun h4 hold up4 => wpAny_throw (tk _ _ ⟨a, B, sI, pins, σ, H, cls, d, rfl, w.inv, w.gr, w.up.trans up4, .inr (.inr (by rw [hs]; exact hold)), w.na, w.os, w.ag, hw⟩)
  obtain ⟨k1, k2, k3, oe, fv, T, oT, ts', h1, h2, h3, h4, h5⟩ := w.fl
  unfold PySem.passOn
  refine wpAny_bind (wpAny_field h1 h3 h4 ?_)
  have ne : ¬ ((Value.ref T == Value.none) = true) := by simp
  rw [if_neg ne]
  first
    | exact wpAny_bind (wpAny_pure (wpAny_bind fin))
    | exact wpAny_bind fin
/-- the clauses, one after another -/
theorem Down.by_ (hs : X.stack = X.env :: X.outer) (hf : X.env.frame = some X.env.locals) (hN : X.N.Nodup) {D : Ends} {W : WX} (tk : Takes X W) {a : Addr} {B : Heap} {cls : Value} {d : Option Addr} {σ : L2.St} {H : Hp} {sI : Shared} {hds : List ExceptHandler} {l : List Clause} (h : AsOk X hds l) :
    ∀ {s : Shared}, Down X pins a B cls d σ H sI s → wA X.K W D l cls d σ H → wpAny (model X.prog X.w) X.A (handleBy (.ref a) X.env hds) (SP X pins D) X.xe s := by
  induction h with
  | nil => exact fun w hw => w.on hs hf tk hw
  | @cons x n c i ts st sts q q' hs' cls' hn hi hk hb r ih =>
    intro s w ⟨b, hb1, yes, no⟩
    obtain ⟨oe, J, h1, h2, h3, S⟩ := w.back hs hf
    have ok := w.inv.ok
    refine wpAny_handleBy_cons (codeAny_handlers_test ?_) (fun z => by cases z)
    have LT : PySem.W.Looks (model X.prog X.w) s.heap (typeOf (.ref a)) cls := fun A Q E s' k z => wpAny_typeOf_ref (k _ _ h1) (by rw [h2.1]; exact z)
    have LM := PySem.W.exm_one (M := model X.prog X.w) J.kIn LT hb1
    have name : ∀ {Q E : Value → Shared → Prop}, Q c s → wpAny (model X.prog X.w) (X.A.mark (some (.ref a))) (eval (.Name x q) X.env) Q E s := fun {Q E} z => by
      obtain ⟨g1, g2, m | ⟨m1, m2, m3⟩⟩ := hn
      · exact ld_glob (X := X.suite a ((a, oe) :: (X.pn ++ pins))) S g1 m z g2
      · exact ld_blt (X := X.suite a ((a, oe) :: (X.pn ++ pins))) S g1 m1 m2 z m3 g2
    refine name (LM.here ?_)
    cases b with
    | false => exact ih w (no rfl)
    | true =>
      refine codeAny_handlers_suite_as (HandSPX.lands_againZ w.fl fun h4 fl4 up4 => ?_)
      have w4 : Down X pins a B cls d σ H sI { s with heap := h4 } := ⟨w.inv, w.gr, w.up.trans up4, fl4, w.na, w.os, w.ag⟩
      obtain ⟨oe4, J4, e1, e2, e3, S4⟩ := w4.back hs hf
      refine store_ok (X := X.suite a ((a, oe4) :: (X.pn ++ pins))) (v := .ref a) S4 hN hi (.inl hk) rfl (fun s5 S5 => ?_) (.inr hk)
      refine wpAny_mono ((hb a oe4 cls d (X.pn ++ pins) e2 e3).run [] s5 _ H _ S5 (yes rfl a w.na)) (fun f s6 sp => ?_) (fun _ _ z => z.elim)
      cases f <;> first
        | (obtain ⟨σ6, H6, S6, q6⟩ := sp
           exact gone_ok (S6.unsuite ok) hN hi hk fun s7 J7 => ⟨_, _, J7, q6⟩)
        | (obtain ⟨v6, σ6, H6, S6, r6, q6⟩ := sp
           exact gone_ok (S6.unsuite ok) hN hi hk fun s7 J7 => ⟨_, _, _, J7, r6, q6⟩)
theorem ps_tryA {body : List Stmt} {h₀ : ExceptHandler} {hds : List ExceptHandler} {l : List Clause} {pos : Pos} {tb : WX → TS} {W : WX} (hs : X.stack = X.env :: X.outer) (hf : X.env.frame = some X.env.locals) (hN : X.N.Nodup) (tk : Takes X W)
    (hb : ∀ (W' : WX) (pn : List (Addr × Obj)) (xe : Value → Shared → Prop), Takes (X.tr pn xe) W' → PassesOwn (model X.prog X.w) X.A X.env xe → PSs (X.tr pn xe) body (tb W')) (h : AsOk X (h₀ :: hds) l) :
    PS X (.Try body (h₀ :: hds) [] [] pos) (fun D σ H => tb (wA X.K W D l) D σ H) := by
  refine ⟨fun pins s σ H D I hw => wpAny_Try_except ?_⟩
  have ok := I.ok
  have frm : X.A.frames = some (X.env :: X.outer) := by rw [ok.frames, hs]
  have xe' : Value → Shared → Prop := fun e s₁ => wpAny (model X.prog X.w) X.A (noteFrame e X.env) (fun _ s₂ => wpAny (model X.prog X.w) X.A (setFlight e none) (fun _ s₃ => wpAny (model X.prog X.w) X.A (handleBy e X.env (h₀ :: hds)) (SP X pins D) X.xe s₃) X.xe s₂) X.xe s₁
  refine wpAny_mono ((hb (wA X.K W D l) (X.pn ++ pins) (fun e s₁ => wpAny (model X.prog X.w) X.A (noteFrame e X.env) (fun _ s₂ => wpAny (model X.prog X.w) X.A (setFlight e none) (fun _ s₃ => wpAny (model X.prog X.w) X.A (handleBy e X.env (h₀ :: hds)) (SP X pins D) X.xe s₃) X.xe s₂) X.xe s₁) (fun u s' air => ?_) PassesOwn.looking).run [] s σ H D (I.toTry _) hw) (fun f s1 sp => ?_) (fun e s1 z => z)
  · obtain ⟨a, B, sI, pins', σ', H', cls, d, rfl, J', nb, up, sky, na, os, ag, w⟩ := air
    have J : Inv X pins σ' H' sI := J'.ofTry ok
    have sky2 : Sky B (X.env :: X.outer) a (Zc cls d) X.env.locals s'.heap := by rw [← hs]; exact sky
    exact Sky.land Zc.steady frm hf sky2 fun h3 fl3 up3 => Down.by_ hs hf hN tk h (s := { s' with heap := h3 }) ⟨J, nb, up.trans up3, fl3, na, os, ag⟩ w
  · cases f <;> first
      | (obtain ⟨σ', H', J', q⟩ := sp
         exact wpAny_execs_nil ⟨σ', H', J'.ofTry ok, q⟩)
      | (obtain ⟨σ', H', J', q⟩ := sp
         exact ⟨σ', H', J'.ofTry ok, q⟩)
      | (obtain ⟨v, σ', H', J', r, q⟩ := sp
         exact ⟨v, σ', H', J'.ofTry ok, r, q⟩)
end
end Dl
namespace Dl
open PySem PySem.Spec PyProof.Rows L2
/-- an error of the package may be caught by its class's name -/
structure CatchUse (G : GC) (P : Par) (X : Cx) (k : Nat) (g : Str) : Prop where
  ex : ∃ C fld, P.exc k = some (C, fld) ∧ G.flds.lookup k = some fld ∧ X.mg g = some (.ref C) ∧ XfC X.K C ∧ PySem.W.findIn X.K (.ref C) fld = some none ∧ ∀ i C' f', P.exc i = some (C', f') → PySem.W.exmOne X.K (.ref C') (.ref C) = some (decide (i = k))
/-- a def's frame -/
structure Sx (X : Cx) : Prop where
  pas : PassesOwn (model X.prog X.w) X.A X.env X.xe
  stk : X.stack = X.env :: X.outer
  frm : X.env.frame = some X.env.locals
section
variable {G : GC} {c : CC} {F : Fx} {pf : PF} {pc : PC} {n : Nat} {X : Cx} {pos : Pos}
def tPair (w : Str) (a : Addr) (cls : Value) (d : Option Addr) (C : Addr) (fld : Str) (i : Nat) : TE := tTup (tCons (tC (.str w)) (tCons (tXf a cls d C fld (tVar i)) tNil))
def tsOf (ret : Bool) (j : Nat) (w : Str) (C : Addr) (fld : Str) (i : Nat) : Addr → Value → Option Addr → TS := fun a cls d => match ret with
  | true => tRet (tPair w a cls d C fld i)
  | false => tAsg (tPair w a cls d C fld i) (gName j)
theorem pe_pair {a C : Addr} {oe : Obj} {cls : Value} {d : Option Addr} {pn : List (Addr × Obj)} {p1 p2 p3 p4 : Pos} {k1 k2 : Nat} {w nm fld : Str} {i : Nat} (hi : X.N[i]? = some nm) (hl : X.env.scope.names.lookup nm = some .local) (hd1 : (nm == ("__debug__" : Str)) = false) (hd2 : (nm == ("__classdict__" : Str)) = false)
    (T : XfC X.K C) (hno : PySem.W.findIn X.K (.ref C) fld = some none) (hz : Zc cls d oe) (hf : ∃ vs, oe.data = .fields vs) : PE (X.suite a ((a, oe) :: pn)) (.Tuple [.Constant (.str w) k1 p1, .Attribute (.Name nm p2) fld p3] k2 p4) (tPair w a cls d C fld i) := by
  have v : PE (X.suite a ((a, oe) :: pn)) (.Name nm p2) (tVar i) := pe_var (X := X.suite a ((a, oe) :: pn)) hi (.inl hl) hd1 hd2
  exact pe_tup (pa_cons pe_str (pa_cons (pe_xf T hno hz hf v) pa_nil rfl) rfl)
theorem tup_set {P : Par} {k : Nat} {W0 W : Addr → Prop} {S : Sn} {H : Hp} {env : DEnv} {σ : L2.St} (r : Rel P k W0 W S H env σ) (i : Nat) : Rel P k W0 W S H (env.set i .un) (σ.set i none) := r.wipe [i]
theorem two_size {x y : V} : [x, y].length ≤ sizeLine := show 2 ≤ sizeLine by decide
/-- the suite does what is told -/
theorem pair_road {a' : D} {W : Addr → Prop} {env : DEnv} {σ : L2.St} {H : Hp} {k i : Nat} {C dx a : Addr} {fld w : Str} {v : V} {Q : VK} (rel : Rel F.P k F.W0 W F.H0 H env σ) (hs : sokB w = true) (hi : i < env.length) (hx : H dx = some (.xd [(fld, v)])) (rv : Rep F.P W H a' v)
    (hq : ∀ p, H p = none → Rel F.P k F.W0 W F.H0 (upd H p (.tup [.str w, v])) env σ → Rep F.P W (upd H p (.tup [.str w, v])) (.tup [.str w, a']) (.ref p) → Q (.ref p) (upd H p (.tup [.str w, v]))) :
    tPair w a (.ref C) (some dx) C fld i (σ.set i (some (.ref a))) H Q := by
  have hl : i < σ.length := by rw [← rel.len]; exact hi
  have look : List.lookup fld [(fld, v)] = some v := by rw [List.lookup_cons, beq_self_eq_true]
  refine ⟨.ref a, get_set hl, rfl, rfl, dx, _, v, rfl, hx, look, two_size, fun p hp => ?_⟩
  exact hq p hp (rel.ext (rel.extNew hp)) (newTup rel hp two_size (RepL.mk (Rep.str.mpr ⟨rfl, sok_of hs⟩) (RepL.one rv)))
/-- one clause: its suite's walk, and what it gives -/
theorem hd_one (o : XOk G c F pf pc n X) {h : ExceptHandler} {hd : Hd} (hh : cHd G c h = some hd) (hc : ∀ g k, G.cls.lookup g = some k → isGl c g = true → CatchUse G F.P X k g) :
    ∃ (x nm : Str) (q q' : Pos) (st : Stmt) (k i j : Nat) (ret : Bool) (w : Str) (C : Addr) (fld : Str), h = .ExceptHandler (some (.Name x q)) (some nm) [st] q' ∧ hd = .mk k i ret j w ∧ Names X x (.ref C) ∧ X.N[i]? = some nm ∧ X.env.kindOf nm = some .local ∧ F.P.exc k = some (C, fld) ∧ sokB w = true ∧ (ret = false → i ≠ j) ∧
      (∀ i C' f', F.P.exc i = some (C', f') → PySem.W.exmOne X.K (.ref C') (.ref C) = some (decide (i = k))) ∧
      ∀ (a : Addr) (oe : Obj) (cls : Value) (d : Option Addr) (pn : List (Addr × Obj)), Zc cls d oe → (∃ fv, oe.data = .fields fv) → PSs (X.suite a ((a, oe) :: pn)) [st] (tsOf ret j w C fld i a cls d) := by
  unfold cHd at hh
  split at hh
  · rename_i x q nm st q'
    split at hh
    · rename_i hg
      simp only [Bool.and_eq_true, decide_eq_true_eq] at hg
      obtain ⟨hg, hok⟩ := hg
      have hdb := okName_iff hok
      obtain ⟨k, hk, hh⟩ := Option.bind_eq_some_iff.mp hh
      obtain ⟨fld, hfl, hh⟩ := Option.bind_eq_some_iff.mp hh
      obtain ⟨i, hi, hh⟩ := Option.bind_eq_some_iff.mp hh
      obtain ⟨r, hr, rfl⟩ := Option.map_eq_some_iff.mp hh
      obtain ⟨C, fld', e1, e2, e3, e4, e5, e6⟩ := (hc x k hk hg.1).ex
      rw [hfl] at e2
      cases e2
      obtain ⟨g1, g2, g3⟩ := isGl_ok o hg.1
      have hN := slot_fact o hi
      have hloc : X.env.scope.names.lookup nm = some .local := by rw [o.sc]; exact hg.2
      unfold hdSt at hr
      split at hr
      · rename_i y p1 w k1 p2 nm' p3 f p4 k2 p5 p6 h7 h8 h9
        split at hr
        · rename_i hq
          simp only [Bool.and_eq_true, decide_eq_true_eq, Bool.not_eq_true', decide_eq_false_iff_not] at hq
          obtain ⟨⟨⟨⟨rfl, rfl⟩, hw⟩, hyl⟩, hyn⟩ := hq
          obtain ⟨j, hj, rfl⟩ := Option.map_eq_some_iff.mp hr
          have hNj := slot_fact o hj
          have hij : i ≠ j := fun z => by
            rw [z, hNj] at hN
            cases hN
            exact hyn rfl
          have hyl' : X.env.scope.names.lookup y = some .local := by rw [o.sc]; exact hyl
          · refine ⟨x, nm', q, q', _, k, i, j, false, w, C, f, rfl, rfl, ⟨g1, g2, .inl e3⟩, hN, hloc, e1, hw, fun _ => hij, e6, fun a oe cls d pn hz hf => ?_⟩
            exact pss_one (ps_set (X := X.suite a ((a, oe) :: pn)) o.nd hNj (.inl hyl') (pe_pair hN hloc hdb.1 hdb.2.1 e4 e5 hz hf) (swaps_not rfl) (.inr hyl'))
        · cases hr
      · rename_i w k1 p2 nm' p3 f p4 k2 p5 p6 h7 h8 h9
        split at hr
        · rename_i hq
          simp only [Bool.and_eq_true, decide_eq_true_eq] at hq
          obtain ⟨⟨rfl, rfl⟩, hw⟩ := hq
          cases hr
          refine ⟨x, nm', q, q', _, k, i, 0, true, w, C, f, rfl, rfl, ⟨g1, g2, .inl e3⟩, hN, hloc, e1, hw, (fun z => by cases z), e6, fun a oe cls d pn hz hf => ?_⟩
          exact pss_one (ps_ret (X := X.suite a ((a, oe) :: pn)) (pe_pair hN hloc hdb.1 hdb.2.1 e4 e5 hz hf))
        · cases hr
      · cases hr
    · cases hh
  · cases hh
/-- all clauses -/
theorem hds_all (o : XOk G c F pf pc n X) (hc : ∀ g k, G.cls.lookup g = some k → isGl c g = true → CatchUse G F.P X k g) {D : Ends} {K : KS} {k : Nat} (wi : Wi F k D K) : ∀ {hs : List ExceptHandler} {l : List Hd}, cHds G c hs = some l →
    ∃ cl, AsOk X hs cl ∧ ∀ env x W σ H cls dd, hdsD l env x K → Rel F.P k F.W0 W F.H0 H env σ → XRep F.P W H x cls dd → wA X.K F.Wx D cl cls dd σ H
  | [], l, h => by
    unfold cHds at h
    cases h
    refine ⟨[], .nil, fun env x W σ H cls dd hx rel xr => ?_⟩
    unfold hdsD at hx
    exact wi.ex env x W σ H cls dd hx rel xr
  | h :: hs, l, hh => by
    unfold cHds at hh
    obtain ⟨hd, h1, hh⟩ := Option.bind_eq_some_iff.mp hh
    obtain ⟨l', h2, rfl⟩ := Option.map_eq_some_iff.mp hh
    obtain ⟨cl, a1, a2⟩ := hds_all o hc wi h2
    obtain ⟨x, nm, q, q', st, kk, i, j, ret, w, C, fld, rfl, rfl, hn, hi, hk, he, hw, hij, hm, hb⟩ := hd_one o h1 hc
    refine ⟨(.ref C, i, tsOf ret j w C fld i) :: cl, .cons hn hi hk hb a1, fun env xv W σ H cls dd hx rel xr => ?_⟩
    have xr0 := xr
    obtain ⟨C', f', dx, v, a, x1, rfl, rfl, x4, x5, x6⟩ := xr
    refine ⟨_, hm _ _ _ x1, fun hbt p hp => ?_, fun hbf => ?_⟩
    · have ec := of_decide_eq_true hbt
      unfold hdsD at hx
      rw [if_pos ec.symm] at hx
      obtain ⟨a', ea, hil, hx⟩ := hx
      rw [x4] at ea
      cases ea
      rw [ec, he] at x1
      cases x1
      cases ret with
      | true =>
        rw [if_pos rfl] at hx
        refine pair_road rel hw hil x5 x6 fun p' hp' rel' r' => ?_
        exact wi.rt _ _ _ W _ _ hx rel' r'
      | false =>
        rw [if_neg (by decide)] at hx
        show tPair w p (.ref C) (some dx) C fld i (σ.set i (some (.ref p))) H fun v' H1 => (goneD i D).nx ((σ.set i (some (.ref p))).set j (some v')) H1
        refine pair_road rel hw hil x5 x6 fun p' hp' rel' r' => ?_
        have rel2 := tup_set (rel'.set j r') i
        have es : ((σ.set i (some (.ref p))).set j (some (.ref p'))).set i none = (σ.set j (some (.ref p'))).set i none := by
          rw [List.set_comm (some (V.ref p)) (some (V.ref p')) (hij rfl), List.set_set]
        show D.nx (((σ.set i (some (.ref p))).set j (some (.ref p'))).set i none) _
        rw [es]
        exact wi.nx _ W _ _ hx rel2
    · have ec := of_decide_eq_false hbf
      unfold hdsD at hx
      rw [if_neg (Ne.symm ec)] at hx
      exact a2 env xv W σ H _ _ hx rel xr0
theorem XOk.try_ {Wx : WX} {pn : List (Addr × Obj)} {xe : Value → Shared → Prop} (o : XOk G c F pf pc n X) (tk : Takes (X.tr pn xe) Wx) : XOk G c { F with Wx := Wx } pf pc n (X.tr pn xe) :=
  ⟨o.N, o.nd, o.sc, o.fn, o.K, o.calm, o.room, tk, fun g k h => ⟨(o.fns g k h).ex⟩, o.cns, o.blt, o.mf, o.mc, o.clo, fun z => ⟨(o.lam z).ex, (o.lam z).fn, (o.lam z).lok⟩⟩
theorem stm_try {c1 : Co} (o : XOk G c F pf pc n X) (sx : Sx X) (hc : ∀ g k, G.cls.lookup g = some k → isGl c g = true → CatchUse G F.P X k g) {body : List Stmt} {h0 : ExceptHandler} {hs : List ExceptHandler} {b : ISs} {l : List Hd} (hh : cHds G c (h0 :: hs) = some l)
    (hb : ∀ (W' : WX) (pn : List (Addr × Obj)) (xe : Value → Shared → Prop), Takes (X.tr pn xe) W' → PassesOwn (model X.prog X.w) X.A X.env xe → PSs (X.tr pn xe) body (tS { F with Wx := W' } c1 (wSs pf pc b))) :
    PS X (.Try body (h0 :: hs) [] [] pos) (tS F c1 (wS pf pc (.tryc b l))) := by
  refine ⟨fun pins s σ H D I ⟨W, env, K, kx, rel, wi, hw⟩ => ?_⟩
  obtain ⟨cl, a1, a2⟩ := hds_all o hc wi hh
  refine (ps_tryA sx.stk sx.frm o.nd o.tk hb a1).run pins s σ H D I ?_
  unfold wS at hw
  exact ⟨W, env, { K with ex := fun env x => hdsD l env x K }, kx, rel, ⟨wi.nx, wi.bk, wi.ct, wi.rt, a2⟩, hw⟩
end
end Dl
namespace Dl
open PySem PySem.Spec PyProof.Rows L2
/-! ### costs of statements -/
section
variable (cf : Nat → Co)
mutual
def coS : IS → Co
  | .expr _ e => coE cf e
  | .asg _ _ e => coE cf e
  | .asgT _ _ e => coE cf e
  | .par _ _ es => coEs cf es
  | .setk _ _ k v => (coE cf v).comp (coE cf k)
  | .app _ _ e => coE cf e
  | .extd _ _ e => coE cf e
  | .aug _ _ e => coE cf e
  | .ret _ e => coE cf e
  | .retN => Co.one
  | .ite _ t a b => (coE cf t).comp ((coSs a).comp (coSs b))
  | .whl _ _ _ => Co.one
  | .for _ _ src b => forCo (coSrc cf src) (coSs b)
  | .rais _ _ e => coE cf e
  | .tryc b _ => coSs b
  | .pass => Co.one
  | .brk => Co.one
  | .cont => Co.one
def coSs : ISs → Co
  | .nil => Co.one
  | .cons s r => (coS s).comp (coSs r)
end
/-! loops without an end in sight draw nothing -/
mutual
def okS : IS → Bool
  | .ite _ _ a b => okSs a && okSs b
  | .whl _ t b => (coE cf t).c == 0 && (coSs cf b).c == 0 && okSs b
  | .for _ _ _ b => okSs b
  | .tryc b _ => okSs b
  | _ => true
def okSs : ISs → Bool
  | .nil => true
  | .cons s r => okS s && okSs r
end
end
section
variable {G : GC} {c : CC} {F : Fx} {pf : PF} {pc : PC} {n : Nat} {X : Cx} {e : Expr} {ie : IE} {pos : Pos}
theorem itNm_of {it : IT} {i : Nat} (h : itNm it = some i) : it = .nm i := by
  cases it <;> cases h
  rfl
theorem itTp_of {it : IT} {ts : List IT} (h : itTp it = some ts) : it = .tp ts := by
  cases it <;> cases h
  rfl
theorem par_of (hG : ∀ x ∈ bltNames, G.fns.lookup x = none) (o : XOk G c F pf pc n X) : ∀ {f : Nat} {es : List Expr} {ies : IEs}, cEs G c f es = some ies → PA X es (tQ F (coEs F.cf ies) pf pc ies) ∧ es.length = ieLen ies
  | 0, es, ies, h => by unfold cEs at h; cases h
  | f + 1, es, ies, h => by
    unfold cEs at h
    split at h
    · cases h
      exact ⟨par_nil o, rfl⟩
    · split at h
      · rename_i hs
        obtain ⟨x, hx, h⟩ := Option.bind_eq_some_iff.mp h
        obtain ⟨xs, hxs, rfl⟩ := Option.map_eq_some_iff.mp h
        obtain ⟨h1, h2⟩ := par_of hG o hxs
        exact ⟨par_cons o hs ((all_e hG f).e o _ x hx) h1, by rw [List.length_cons, h2]; rfl⟩
      · cases h
theorem slots_of (o : XOk G c F pf pc n X) {x : Str} {p : Pos} {r : List Expr} {js : List Nat} (h : slots c (.Name x p :: r) = some js) : ∃ i js', js = i :: js' ∧ X.N[i]? = some x ∧ X.env.scope.names.lookup x = some .local ∧ slots c r = some js' := by
  unfold slots at h
  split at h
  · rename_i hl
    obtain ⟨i, hi, h⟩ := Option.bind_eq_some_iff.mp h
    obtain ⟨is, his, rfl⟩ := Option.map_eq_some_iff.mp h
    exact ⟨i, is, rfl, slot_fact o hi, by rw [o.sc]; exact of_decide_eq_true hl, his⟩
  · cases h
theorem slots_name {t : Expr} {r : List Expr} {js : List Nat} (h : slots c (t :: r) = some js) : ∃ x p, t = .Name x p := by
  cases t <;> first
    | exact ⟨_, _, rfl⟩
    | (unfold slots at h; cases h)
theorem swap_len {sc : Scope} {tl vl : List Expr} {ns : List Str} (h : swapM sc tl vl = some (some ns)) : (tl.length = 2 ∨ tl.length = 3) ∧ vl.length = tl.length ∧ ns = tNames sc tl := by
  unfold swapM at h
  by_cases h1 : (!(tl.length == 2 || tl.length == 3) || vl.length != tl.length) = true
  · rw [if_pos h1] at h; cases h
  rw [if_neg h1] at h
  by_cases h2 : anyStar vl = true
  · rw [if_pos h2] at h; cases h
  rw [if_neg h2] at h
  by_cases h3 : ((tNames sc tl).length != tl.length || (tNames sc tl).eraseDups.length != (tNames sc tl).length) = true
  · rw [if_pos h3] at h; cases h
  rw [if_neg h3] at h
  by_cases h4 : vl.all (foldedForSure 8) = true
  · rw [if_pos h4] at h; cases h
  rw [if_neg h4] at h
  by_cases h5 : vl.all (constantsAlone 8) = true
  · rw [if_pos h5] at h; cases h
  rw [if_neg h5] at h
  cases h
  simp at h1
  exact ⟨by omega, h1.2, rfl⟩
structure IHS (G : GC) (pf : PF) (pc : PC) (n f : Nat) : Prop where
  s : ∀ {c : CC} {F : Fx} {X : Cx}, XOk G c F pf pc n X → Sx X → (∀ pn xe g k, G.cls.lookup g = some k → isGl c g = true → ExcUse F.P (X.tr pn xe) k g) → (∀ g k, G.cls.lookup g = some k → isGl c g = true → CatchUse G F.P X k g) → ∀ s is, cS G c f s = some is → okS F.cf is = true → PS X s (tS F (coS F.cf is) (wS pf pc is))
  ss : ∀ {c : CC} {F : Fx} {X : Cx}, XOk G c F pf pc n X → Sx X → (∀ pn xe g k, G.cls.lookup g = some k → isGl c g = true → ExcUse F.P (X.tr pn xe) k g) → (∀ g k, G.cls.lookup g = some k → isGl c g = true → CatchUse G F.P X k g) → ∀ s is, cSs G c f s = some is → okSs F.cf is = true → PSs X s (tS F (coSs F.cf is) (wSs pf pc is))
theorem lc_parts (hG : ∀ x ∈ bltNames, G.fns.lookup x = none) (o : XOk G c F pf pc n X) {f : Nat} {elt : Expr} {gens : List Comprehension} {scope : Scope} {p : Pos} (h : cE G c (f + 1) (.ListComp elt gens scope p) = some ie) :
    ∃ tg it ifs src t x io, gens = [⟨tg, it, ifs, 0⟩] ∧ ie = .lc x t src io (ownOfT t) ∧ cSrc G c f it = some src ∧ cT ⟨c.N, relS scope c.sc, fun x => scope.names.lookup x == some .cell, false⟩ f tg = some t ∧
      cE G ⟨c.N, relS scope c.sc, fun x => scope.names.lookup x == some .cell, false⟩ f elt = some x ∧ cIfs G ⟨c.N, relS scope c.sc, fun x => scope.names.lookup x == some .cell, false⟩ f ifs = some io ∧
      blkC c.N c.sc scope ((ownOfT t).map fun i => (c.N.getD i "", i)) = true ∧ notSet it = true ∧ tgOk src tg = true := by
  unfold cE at h
  simp only at h
  split at h
  · rename_i tg it ifs
    obtain ⟨src, hsrc, h⟩ := Option.bind_eq_some_iff.mp h
    obtain ⟨t, ht, h⟩ := Option.bind_eq_some_iff.mp h
    obtain ⟨x, hx, h⟩ := Option.bind_eq_some_iff.mp h
    obtain ⟨io, hio, h⟩ := Option.bind_eq_some_iff.mp h
    split at h
    · rename_i hc
      simp only [Bool.and_eq_true] at hc
      obtain ⟨⟨hb, hset⟩, htg⟩ := hc
      cases h
      exact ⟨tg, it, ifs, src, t, x, io, rfl, rfl, hsrc, ht, hx, hio, hb, hset, htg⟩
    · cases h
  · cases h
theorem fold_of {it : Expr} {env : Env} (h : notSet it = true) : ∀ y, foldedSetIterable it env y = pure y := fun y => by
  cases it <;> first
    | rfl
    | cases h
theorem asg_lc (hG : ∀ x ∈ bltNames, G.fns.lookup x = none) (o : XOk G c F pf pc n X) {f i : Nat} {y : Str} {py : Pos} {v : Expr} {sh : List Nat} (hy : cT c 1 (.Name y py) = some (.nm i)) (hv : cE G c f v = some ie) (hsw : lcSwap c y py v = true) : PS X (.Assign [.Name y py] v pos) (tS F (coE F.cf ie) (wS pf pc (.asg sh i ie))) := by
  cases v <;> try cases hsw
  rename_i elt gens scope p
  cases f with
  | zero => unfold cE at hv; cases hv
  | succ f =>
    obtain ⟨tg, it, ifs, src, t, x, io, rfl, rfl, hsrc, ht, hx, hio, hb, hset, htg⟩ := lc_parts hG o hv
    have ih := all_e (pf := pf) (pc := pc) (n := n) hG f
    unfold lcSwap at hsw
    simp only [Bool.and_eq_true, decide_eq_true_eq, Bool.not_eq_true'] at hsw
    obtain ⟨⟨⟨h1, h2⟩, h3⟩, h4⟩ := hsw
    have hk : X.env.scope.kind = .function := by
      rw [o.sc]
      unfold isFun at h1
      cases q : c.sc.kind <;> rw [q] at h1 <;> first
        | rfl
        | exact absurd h1 (by decide)
    have blk : BlkOk X.N X.env.scope scope ((ownOfT t).map fun i => (c.N.getD i "", i)) := by
      rw [o.N, o.sc]
      exact blkOk_by hb
    exact stm_asgLc (fr := fresh x) (cs := coSrc F.cf src) (cc := coO F.cf io) (cx := coE F.cf x) o hy (by rw [o.sc]; exact h2) (sw_true hk (by rw [o.sc]; exact h2) h3 h4) (ih.s o tg it true src hsrc htg) (fun i e => ih.sv o it i (e ▸ hsrc)) blk (by rw [List.map_map]; simp [Function.comp_def])
      (fun H0 s H C cl fp => snd_T (blk_ok o H0) f tg t ht) (fun H0 s H C cl fp => ih.i (blk_ok o H0) ifs io hio) (fun H0 s H C cl fp => ih.e (blk_ok o H0) elt x hx) (fold_of hset)
theorem swap_names {sc : Scope} {tl vl : List Expr} {ns : List Str} (h : swapM sc tl vl = some (some ns)) : (tNames sc tl).length = tl.length := by
  unfold swapM at h
  by_cases h1 : (!(tl.length == 2 || tl.length == 3) || vl.length != tl.length) = true
  · rw [if_pos h1] at h; cases h
  rw [if_neg h1] at h
  by_cases h2 : anyStar vl = true
  · rw [if_pos h2] at h; cases h
  rw [if_neg h2] at h
  by_cases h3 : ((tNames sc tl).length != tl.length || (tNames sc tl).eraseDups.length != (tNames sc tl).length) = true
  · rw [if_pos h3] at h; cases h
  simp at h3
  exact h3.1
/-- names that are all kept, in order -/
theorem names_all {sc : Scope} {l : Nat} : ∀ {xs : List (Str × Pos)}, ((xs.map fun x => Expr.Name x.1 x.2).filterMap (nm1 sc l)).length = xs.length → ((xs.map fun x => Expr.Name x.1 x.2).filterMap (nm1 sc l)) = xs.map (·.1)
  | [], _ => rfl
  | (x, p) :: r, h => by
    rw [List.map_cons] at h ⊢
    by_cases hc : (sc.names.lookup x == some .local && p.line == l) = true
    · have hf : nm1 sc l (.Name x p) = some x := if_pos hc
      rw [List.filterMap_cons_some hf] at h ⊢
      rw [List.map_cons, names_all (by simpa using h)]
    · have hf : nm1 sc l (.Name x p) = none := if_neg hc
      rw [List.filterMap_cons_none hf] at h
      have h2 := List.length_filterMap_le (nm1 sc l) (r.map fun x => Expr.Name x.1 x.2)
      rw [List.length_map] at h2
      rw [List.length_cons] at h
      omega
theorem par_stm (hG : ∀ x ∈ bltNames, G.fns.lookup x = none) (o : XOk G c F pf pc n X) {f : Nat} {tl vl : List Expr} {k k2 : Nat} {p p2 : Pos} {ns : List Str} {js : List Nat} {ies : IEs} {sh : List Nat} (hf : isFun c.sc = true) (hsw : swapM c.sc tl vl = some (some ns)) (hj : slots c tl = some js) (he : cEs G c f vl = some ies)
    (hl : ieLen ies = js.length) (hd : distinct js = true) : PS X (.Assign [.Tuple tl k p] (.Tuple vl k2 p2) pos) (tS F (coEs F.cf ies) (wS pf pc (.par sh js ies))) := by
  obtain ⟨h1, h2, h3⟩ := swap_len hsw
  obtain ⟨hp, hlen⟩ := par_of hG o he
  have sw := swapM_ok (k := k) (k2 := k2) (p := p) (p2 := p2) o.sc hf hsw
  have hn := swap_names hsw
  have lens : tl.length = 2 ∨ tl.length = 3 := h1
  match tl, js, hj, lens with
  | [t1, t2], js, hj, _ =>
    obtain ⟨x1, q1, rfl⟩ := slots_name hj
    obtain ⟨i1, js1, rfl, a1, b1, hj⟩ := slots_of o hj
    obtain ⟨x2, q2, rfl⟩ := slots_name hj
    obtain ⟨i2, js2, rfl, a2, b2, hj⟩ := slots_of o hj
    unfold slots at hj
    cases hj
    have hl2 : vl.length = 2 := h2
    match vl, hl2 with
    | [v1, v2], _ =>
      simp only [distinct, List.contains_cons, List.contains_nil, Bool.or_false, Bool.not_false, Bool.and_true, Bool.not_eq_true', beq_eq_false_iff_ne] at hd
      have en : ns = [x1, x2] := by
        rw [h3]
        exact names_all (xs := [(x1, q1), (x2, q2)]) hn
      rw [en] at sw
      exact stm_par2 o (by rw [hl]; rfl) a1 a2 hd b1 b2 sw hp
  | [t1, t2, t3], js, hj, _ =>
    obtain ⟨x1, q1, rfl⟩ := slots_name hj
    obtain ⟨i1, js1, rfl, a1, b1, hj⟩ := slots_of o hj
    obtain ⟨x2, q2, rfl⟩ := slots_name hj
    obtain ⟨i2, js2, rfl, a2, b2, hj⟩ := slots_of o hj
    obtain ⟨x3, q3, rfl⟩ := slots_name hj
    obtain ⟨i3, js3, rfl, a3, b3, hj⟩ := slots_of o hj
    unfold slots at hj
    cases hj
    have hl2 : vl.length = 3 := h2
    match vl, hl2 with
    | [v1, v2, v3], _ =>
      simp [distinct] at hd
      have en : ns = [x1, x2, x3] := by
        rw [h3]
        exact names_all (xs := [(x1, q1), (x2, q2), (x3, q3)]) hn
      rw [en] at sw
      exact stm_par3 o (by rw [hl]; rfl) a1 a2 a3 hd.1.1 hd.1.2 hd.2 b1 b2 b3 sw hp
  | [], _, _, h => simp at h
  | [_], _, _, h => simp at h
  | _ :: _ :: _ :: _ :: _, _, _, h => simp at h
theorem stmS_zero : IHS G pf pc n 0 where
  s := fun o hp hx hcu s is h _ => by unfold cS at h; cases h
  ss := fun o hp hx hcu s is h _ => by unfold cSs at h; cases h
theorem stmS_succ (hG : ∀ x ∈ bltNames, G.fns.lookup x = none) {f : Nat} (ih : IHS G pf pc n f) : IHS G pf pc n (f + 1) where
  ss := fun {c F X} o hp hx hcu s is h hok => by
    unfold cSs at h
    split at h
    · cases h
      exact stm_nil o
    · obtain ⟨x, hx', h⟩ := Option.bind_eq_some_iff.mp h
      obtain ⟨xs, hxs, rfl⟩ := Option.map_eq_some_iff.mp h
      unfold okSs at hok
      rw [Bool.and_eq_true] at hok
      exact stm_cons o (ih.s o hp hx hcu _ x hx' hok.1) (ih.ss o hp hx hcu _ xs hxs hok.2)
  s := fun {c F X} o hp hx hcu s is h hok => by
    have e := all_e (pf := pf) (pc := pc) (n := n) hG f
    cases s with
    | Expr v p =>
      unfold cS at h
      simp only at h
      split at h
      · rename_i x px m ap a cp
        split at h
        · rename_i hc
          simp only [Bool.and_eq_true, Bool.or_eq_true, decide_eq_true_eq] at hc
          obtain ⟨⟨hl, hs⟩, hm⟩ := hc
          obtain ⟨i, hi, h⟩ := Option.bind_eq_some_iff.mp h
          obtain ⟨ie, hie, rfl⟩ := Option.map_eq_some_iff.mp h
          by_cases hap : m = "append"
          · subst hap
            rw [if_pos rfl]
            exact stm_app o hi hs hl (e.e o _ ie hie)
          · rw [if_neg hap]
            have hm := hm.resolve_left hap
            subst hm
            exact stm_ext o hi hs hl (e.b o _ ie hie)
        · obtain ⟨ie, hie, rfl⟩ := Option.map_eq_some_iff.mp h
          exact stm_expr o (swaps_not rfl) (e.e o _ ie hie)
      · split at h
        · cases h
        · rename_i hc
          obtain ⟨ie, hie, rfl⟩ := Option.map_eq_some_iff.mp h
          exact stm_expr o (swaps_not (Bool.eq_false_iff.mpr hc)) (e.e o _ ie hie)
    | Assign ts v p =>
      unfold cS at h
      simp only at h
      split at h
      · rename_i t
        split at h
        · rename_i y py
          obtain ⟨it, hit, h⟩ := Option.bind_eq_some_iff.mp h
          obtain ⟨i, hi, h⟩ := Option.bind_eq_some_iff.mp h
          obtain ⟨ie, hie, h⟩ := Option.bind_eq_some_iff.mp h
          have hn := itNm_of hi
          rw [hn] at hit
          split at h
          · split at h
            · rename_i hsw
              rw [Bool.and_eq_true] at hsw
              cases h
              exact asg_lc hG o hit hie hsw.1
            · cases h
          · rename_i hc
            cases h
            exact stm_asg o hit (swaps_not (Bool.eq_false_iff.mpr hc)) (e.e o _ ie hie)
        · rename_i tl k pt
          split at h
          · rename_i vl k2 pt2
            split at h
            · rename_i hf
              obtain ⟨sw, hsw, h⟩ := Option.bind_eq_some_iff.mp h
              split at h
              · obtain ⟨js, hj, h⟩ := Option.bind_eq_some_iff.mp h
                obtain ⟨ies, hies, h⟩ := Option.bind_eq_some_iff.mp h
                split at h
                · rename_i hc
                  rw [Bool.and_eq_true, decide_eq_true_eq] at hc
                  cases h
                  exact par_stm hG o hf hsw hj hies hc.1 hc.2
                · cases h
              · obtain ⟨it, hit, h⟩ := Option.bind_eq_some_iff.mp h
                obtain ⟨ts, hts, h⟩ := Option.bind_eq_some_iff.mp h
                obtain ⟨ie, hie, rfl⟩ := Option.map_eq_some_iff.mp h
                have hn := itTp_of hts
                rw [hn] at hit
                exact stm_asgT o (by unfold swapsWithSole; exact swaps_not rfl) (swapM_ok o.sc hf hsw) rfl (snd_T o f _ _ hit) (e.e o _ ie hie)
            · cases h
          · rename_i hv
            split at h
            · cases h
            · rename_i hc
              obtain ⟨it, hit, h⟩ := Option.bind_eq_some_iff.mp h
              obtain ⟨ts, hts, h⟩ := Option.bind_eq_some_iff.mp h
              obtain ⟨ie, hie, rfl⟩ := Option.map_eq_some_iff.mp h
              have hn := itTp_of hts
              rw [hn] at hit
              exact stm_asgT o (by unfold swapsWithSole; exact swaps_not (Bool.eq_false_iff.mpr hc)) (by
                unfold swappedStores
                cases v <;> first
                  | rfl
                  | exact (hv _ _ _ rfl).elim) rfl (snd_T o f _ _ hit) (e.e o _ ie hie)
        · split at h
          · split at h
            · cases h
            · rename_i hc
              simp only [Bool.or_eq_true, not_or, Bool.not_eq_true] at hc
              obtain ⟨i, hi, h⟩ := Option.bind_eq_some_iff.mp h
              obtain ⟨iv, hiv, h⟩ := Option.bind_eq_some_iff.mp h
              obtain ⟨ik, hik, rfl⟩ := Option.map_eq_some_iff.mp h
              exact stm_setk o hi hc.1 hc.2 (e.e o _ iv hiv) (e.b o _ ik hik)
          · cases h
        · cases h
      · cases h
    | AugAssign t op v p =>
      unfold cS at h
      simp only at h
      split at h
      · obtain ⟨it, hit, h⟩ := Option.bind_eq_some_iff.mp h
        obtain ⟨i, hi, h⟩ := Option.bind_eq_some_iff.mp h
        obtain ⟨bo, hbo, h⟩ := Option.bind_eq_some_iff.mp h
        obtain ⟨ie, hie, rfl⟩ := Option.map_eq_some_iff.mp h
        have hn := itNm_of hi
        rw [hn] at hit
        exact stm_aug o hbo hit (e.b o _ ie hie)
      · cases h
    | Return v p =>
      unfold cS at h
      simp only at h
      split at h
      · cases h
        exact stm_retN o
      · obtain ⟨ie, hie, rfl⟩ := Option.map_eq_some_iff.mp h
        exact stm_ret o (e.e o _ ie hie)
    | If t a b p =>
      unfold cS at h
      simp only at h
      obtain ⟨it, hit, h⟩ := Option.bind_eq_some_iff.mp h
      obtain ⟨s, hs, h⟩ := Option.bind_eq_some_iff.mp h
      obtain ⟨r, hr, rfl⟩ := Option.map_eq_some_iff.mp h
      unfold okS at hok
      rw [Bool.and_eq_true] at hok
      exact stm_ite o (e.t o _ it hit) (ih.ss o hp hx hcu _ s hs hok.1) (ih.ss o hp hx hcu _ r hr hok.2)
    | While t b el p =>
      unfold cS at h
      simp only at h
      split at h
      · obtain ⟨it, hit, h⟩ := Option.bind_eq_some_iff.mp h
        obtain ⟨s, hs, rfl⟩ := Option.map_eq_some_iff.mp h
        unfold okS at hok
        simp only [Bool.and_eq_true, beq_iff_eq] at hok
        exact stm_whl o hok.1.1 hok.1.2 hp.pas (e.t o _ it hit) (ih.ss o hp hx hcu _ s hs hok.2)
      · cases h
    | For tg it b el p =>
      unfold cS at h
      simp only at h
      split at h
      · obtain ⟨src, hsrc, h⟩ := Option.bind_eq_some_iff.mp h
        obtain ⟨t, ht, h⟩ := Option.bind_eq_some_iff.mp h
        obtain ⟨s, hs, h⟩ := Option.bind_eq_some_iff.mp h
        split at h
        · rename_i hc
          rw [Bool.and_eq_true] at hc
          cases h
          unfold okS at hok
          exact stm_for o hp.pas (e.s o tg it false src hsrc hc.2) (fun i q => e.sv o it i (q ▸ hsrc)) (fun S => snd_T (F := { F with H0 := S }) o.at_ f tg t ht) (fun S => ih.ss (F := { F with H0 := S }) o.at_ hp hx hcu _ s hs hok) (fold_of hc.1)
        · cases h
      · cases h
    | Raise ex ca p =>
      unfold cS at h
      simp only at h
      split at h
      · split at h
        · rename_i hc
          rw [Bool.and_eq_true] at hc
          obtain ⟨k, hk, h⟩ := Option.bind_eq_some_iff.mp h
          obtain ⟨ie, hie, rfl⟩ := Option.map_eq_some_iff.mp h
          exact stm_rais o (hx X.pn X.xe _ k hk hc.1) hc.2 (e.e o _ ie hie)
        · cases h
      · cases h
    | Try b hds el fin p =>
      unfold cS at h
      simp only at h
      split at h
      · rename_i h0 hs
        obtain ⟨s, hs', h⟩ := Option.bind_eq_some_iff.mp h
        obtain ⟨l, hl, rfl⟩ := Option.map_eq_some_iff.mp h
        unfold okS at hok
        exact stm_try o hp hcu hl fun W' pn xe tk pas => ih.ss (F := { F with Wx := W' }) (o.try_ tk) ⟨pas, hp.stk, hp.frm⟩ (fun pn' xe' g k h1 h2 => hx pn' xe' g k h1 h2) (fun g k h1 h2 => ⟨(hcu g k h1 h2).ex⟩) _ s hs' hok
      · cases h
    | Pass p => unfold cS at h; simp only at h; cases h; exact stm_pass o
    | Break p => unfold cS at h; simp only at h; cases h; exact stm_brk o
    | Continue p => unfold cS at h; simp only at h; cases h; exact stm_cont o
    | _ => (unfold cS at h; first | cases h | (simp only at h; cases h))
theorem all_s (hG : ∀ x ∈ bltNames, G.fns.lookup x = none) : ∀ f, IHS G pf pc n f
  | 0 => stmS_zero
  | f + 1 => stmS_succ hG (all_s hG f)
end
end Dl
namespace Dl
open PySem PySem.Spec PyProof.Rows L2
section
variable {cf : Nat → Co} {P : Par} {pr : Program} {w : World} {mg : Str → Option Value} {base : Heap} {G : GC} {fns : Nat → Option FK} {lms : Nat → Option ILam}
/-- a def of the text with its inner form -/
structure DefOk (cf : Nat → Co) (k : Nat) (G : GC) (P : Par) (f : Addr) (fd : FuncData) (ps : List Str) (F : IFn) : Prop where
  ex : ∃ x qual params body scope N fuel, FunD P.K x qual params body scope [] [] f fd ∧ FnScope N ps scope ∧ cSs G ⟨N, scope, fun _ => true, false⟩ fuel body = some F.body ∧ F.ns = N.length ∧ F.np = ps.length ∧ okSs cf F.body = true ∧ (coSs cf F.body).c ≤ (cf k).c
/-- every def keeps its promise at the level n -/
def AllFn (cf : Nat → Co) (G : GC) (P : Par) (pr : Program) (w : World) (mg : Str → Option Value) (base : Heap) (fns : Nat → Option FK) (lms : Nat → Option ILam) (n : Nat) : Prop :=
  ∀ g k, G.fns.lookup g = some k → ∃ f fd ps, mg g = some (.ref f) ∧ PySem.W.keepIn P.K (.ref f) = true ∧ FnOk pr w P.K mg base (L2.CX pr w) (n + 4) f fd ps (spD P (cf k) (pF fns lms n k)) ∧ L2.Binds P.K fd ps [] ∧
    ∀ e ∈ (G.kws.filter fun e => decide (e.1 = g)).map (·.2), KBindsP P.K fd ps e.1 e.2
/-- every lambda, too -/
abbrev AllClo (cf : Nat → Co) (P : Par) (pr : Program) (w : World) (mg : Str → Option Value) (base : Heap) (fns : Nat → Option FK) (lms : Nat → Option ILam) (n : Nat) : Prop := CloOk P pr w P.K mg base (cf lamK) (pC fns lms n) (n + 4)
/-- what is known of the text -/
structure Glob (cf : Nat → Co) (G : GC) (P : Par) (pr : Program) (w : World) (mg : Str → Option Value) (base : Heap) (fns : Nat → Option FK) (lms : Nat → Option ILam) : Prop where
  hG : ∀ x ∈ bltNames, G.fns.lookup x = none
  blt : ∀ x ∈ bltNames, mg x = none
  cns : ∀ x d, G.cns.lookup x = some d → isCont d = false ∧ ∃ v u, mg x = some u ∧ RelV v u ∧ ∀ W H, Rep P W H d v
  fn : ∀ g k, G.fns.lookup g = some k → ∃ f fd ps, mg g = some (.ref f) ∧ PySem.W.keepIn P.K (.ref f) = true ∧ L2.Binds P.K fd ps [] ∧ (∀ e ∈ (G.kws.filter fun e => decide (e.1 = g)).map (·.2), KBindsP P.K fd ps e.1 e.2) ∧
    ((∃ F, fns k = some (.code F) ∧ DefOk cf k G P f fd ps F) ∨ ∃ m, fns k = some (.spec m) ∧ ∀ n, AllFn cf G P pr w mg base fns lms n → AllClo cf P pr w mg base fns lms n → FnOk pr w P.K mg base (L2.CX pr w) (n + 5) f fd ps (spD P (cf k) (m (pC fns lms n))))
  sm : ∀ k m, fns k = some (.spec m) → SpecMono m
  lok : ∀ k t, P.lok k t → ∃ b, lms k = some ⟨t.fr.length, b⟩ ∧ LamC G t b ∧ (coE cf b).c ≤ (cf lamK).c
  exc : ∀ g k, G.cls.lookup g = some k → ∀ X : Cx, X.prog = pr → X.w = w → X.K = P.K → X.mg = mg → X.base = base → X.calm = true → Room 3 X.A → Gl X g → ExcUse P X k g
  cat : ∀ g k, G.cls.lookup g = some k → ∃ C fld, P.exc k = some (C, fld) ∧ G.flds.lookup k = some fld ∧ mg g = some (.ref C) ∧ XfC P.K C ∧ PySem.W.findIn P.K (.ref C) fld = some none ∧ ∀ i C' f', P.exc i = some (C', f') → PySem.W.exmOne P.K (.ref C') (.ref C) = some (decide (i = k))
theorem XRep.low {W W0 : Addr → Prop} {H : Hp} {x : XV} {cls : Value} {dd : Option Addr} (h : ∀ a, W0 a → W a) (r : XRep P W H x cls dd) : XRep P W0 H x cls dd := by
  obtain ⟨C, f, dx, v, a, h1, h2, h3, h4, h5, h6⟩ := r
  exact ⟨C, f, dx, v, a, h1, h2, h3, h4, h5, Rep.frame (Fr.refl _ _) (Fr.sub h) _ _ h6⟩
theorem rel_start {k : Nat} {W : Addr → Prop} {H : Hp} {ds : List D} {vs : List V} {N : List Str} {ns : Nat} (hn : ns = N.length) (r : RepL P W H ds vs) (hd : ∀ a, W a → NE H a) (ht : ∀ a, P.T a → W a) (hs : P.sok k H) :
    Rel P k W W [((fun _ => False), H)] H (startD ns ds) (L2.start N vs) where
  len := by
    unfold startD L2.start
    rw [List.length_append, List.length_append, List.length_map, List.length_map, List.length_replicate, List.length_replicate, r.len, hn]
  val := fun i d h => by
    unfold startD at h
    unfold L2.start
    by_cases hi : i < ds.length
    · rw [List.getElem?_append_left (by rw [List.length_map]; exact hi), List.getElem?_map] at h
      obtain ⟨d', h1, h2⟩ := Option.map_eq_some_iff.mp h
      cases h2
      obtain ⟨v, hv, q⟩ := r.get h1
      exact ⟨v, by rw [List.getElem?_append_left (by rw [List.length_map, ← r.len]; exact hi), List.getElem?_map, hv]; rfl, q⟩
    · rw [List.getElem?_append_right (by rw [List.length_map]; omega), List.getElem?_replicate] at h
      split at h <;> cases h
  own := fun i d h => by
    unfold startD at h
    by_cases hi : i < ds.length
    · rw [List.getElem?_append_left (by rw [List.length_map]; exact hi), List.getElem?_map] at h
      obtain ⟨d', h1, h2⟩ := Option.map_eq_some_iff.mp h
      cases h2
    · rw [List.getElem?_append_right (by rw [List.length_map]; omega), List.getElem?_replicate] at h
      split at h <;> cases h
  apart := fun i j d d' a h => by
    unfold startD at h
    by_cases hi : i < ds.length
    · rw [List.getElem?_append_left (by rw [List.length_map]; exact hi), List.getElem?_map] at h
      obtain ⟨d', h1, h2⟩ := Option.map_eq_some_iff.mp h
      cases h2
    · rw [List.getElem?_append_right (by rw [List.length_map]; omega), List.getElem?_replicate] at h
      split at h <;> cases h
  w0 := fun a h => h
  w00 := fun a h => ⟨_, List.mem_singleton_self _, fun z => z, (hd a h).some⟩
  wk := hd
  dom0 := fun s hs a h => by
    rw [List.mem_singleton.mp hs] at h
    exact h
  old := fun s hs a o _ _ h => by
    rw [List.mem_singleton.mp hs] at h
    exact h
  sub := fun s hs a h => .inr (.inr h)
  strm := hs
  tw := ht
theorem spD_len {co : Co} {m : List D → DK → EK → Prop} {np : Nat} {ps : List Str} (hp : np = ps.length) (hm : ∀ ds Q E, m ds Q E → ds.length = np) : ∀ vs H Q E, spD P co m vs H Q E → vs.length = ps.length := fun vs H Q E ⟨W, ds, _, r, _, _, _, h⟩ => by
  rw [← r.len, hm _ _ _ h, hp]
theorem fn_code (gl : Glob cf G P pr w mg base fns lms) {n : Nat} (ih : AllFn cf G P pr w mg base fns lms n) (ihc : AllClo cf P pr w mg base fns lms n) {k : Nat} {f : Addr} {fd : FuncData} {ps : List Str} {F : IFn} (hk : fns k = some (.code F)) (d : DefOk cf k G P f fd ps F) :
    FnOk pr w P.K mg base (L2.CX pr w) (n + 5) f fd ps (spD P (cf k) (pF fns lms (n + 1) k)) := by
  obtain ⟨x, qual, params, body, scope, N, fuel, hF, S, hc, hns, hnp, hok, hco⟩ := d.ex
  have un : ∀ ds Q E, pF fns lms (n + 1) k ds Q E → ds.length = F.np ∧ F.np ≤ F.ns ∧ wSs (pF fns lms n) (pC fns lms n) F.body (startD F.ns ds) ⟨fun _ => Q .non, Q, fun _ => False, fun _ => False, fun _ x => E x⟩ := fun ds Q E h => by
    unfold pF at h
    rw [hk] at h
    exact h
  refine hF.ok S (spD_len hnp fun ds Q E h => (un ds Q E h).1) fun cdv A outer s H vs Q E hr ⟨W, ds, kx, r, hd, ht, hs, h⟩ => ?_
  obtain ⟨h1, h2, h3⟩ := un _ _ _ h
  obtain ⟨mf, mc⟩ := pFC_mono (fns := fns) (lms := lms) gl.sm n
  let X := cxOf (L2.CX pr w) pr w P.K mg base N qual scope f cdv A outer s H E
  let Fc : Fx := ⟨P, W, [((fun _ => False), H)], fun cls d _ H' => E cls d H', cf⟩
  have o : XOk G ⟨N, scope, fun _ => true, false⟩ Fc (pF fns lms n) (pC fns lms n) (n + 4) X :=
    { N := rfl, nd := S.nd, sc := rfl, fn := rfl, K := rfl, calm := rfl, room := hr, tk := takes_of rfl rfl rfl rfl
      fns := fun g j hg => by
        obtain ⟨f', fd', ps', a1, a2, a3, a4, a5⟩ := ih g j hg
        exact ⟨f', fd', ps', a1, a2, a3, a4, a5⟩
      cns := gl.cns
      blt := fun y hy _ => gl.blt y hy
      mf := mf, mc := mc, clo := ihc, lam := fun z => nomatch z }
  have hx : ∀ pn xe g j, G.cls.lookup g = some j → isGl ⟨N, scope, fun _ => true, false⟩ g = true → ExcUse Fc.P (X.tr pn xe) j g := fun pn xe g j hg hgl => gl.exc g j hg (X.tr pn xe) rfl rfl rfl rfl rfl rfl (hr.mono (by omega)) (isGl_ok o hgl).1
  have hcu : ∀ g j, G.cls.lookup g = some j → isGl ⟨N, scope, fun _ => true, false⟩ g = true → CatchUse G Fc.P X j g := fun g j hg _ => ⟨gl.cat g j hg⟩
  refine ⟨_, (all_s gl.hG fuel).ss o ⟨passes_of rfl, rfl, rfl⟩ hx hcu _ _ hc hok, W, startD F.ns ds, _, kx, (rel_start hns r hd ht hs).le (by rw [Co.eq, Co.eq]; have q : (coSs Fc.cf F.body).c ≤ (cf k).c := hco; omega), ⟨?_, ?_, ?_, ?_, ?_⟩, h3⟩
  · exact fun env W' σ H' hk rel => hk .non H' (rel.out (List.mem_singleton_self _)) (Rep.non.mpr rfl)
  · exact fun env W' σ H' hk => hk.elim
  · exact fun env W' σ H' hk => hk.elim
  · exact fun d v env W' σ H' hk rel q => hk v H' (rel.out (List.mem_singleton_self _)) (rel.low q)
  · exact fun env x W' σ H' cls dd hk rel q => hk cls dd H' (rel.out (List.mem_singleton_self _)) (XRep.low rel.w0 q)
theorem clo_step (gl : Glob cf G P pr w mg base fns lms) {n : Nat} (ih : AllFn cf G P pr w mg base fns lms n) (ihc : AllClo cf P pr w mg base fns lms n) : AllClo cf P pr w mg base fns lms (n + 1) := by
  refine ⟨fun {A outer s H Q E k cs a vs W kk} hr e0 cp rl hn wk tw hs hw => ?_⟩
  obtain ⟨t, qual, cl, c, L, h1, h2, na, h3, nc, h4, h5, h6, h7, h8⟩ := cp
  obtain ⟨b, hb, ⟨fuel, hp, hsc, hE⟩, hco⟩ := gl.lok k t h1
  have S := NdefX.nscope_by hsc
  have kt : Kept H L := fun b o q => (h5 b o q).2.1
  have nl : ∀ {a}, W a → L.lookup a = none := fun {a} wa => by
    cases q : L.lookup a with
    | none => rfl
    | some o => exact absurd wa (h5 a o q).1
  unfold pC at hw
  simp only [hb] at hw
  obtain ⟨hl, hw⟩ := hw
  obtain ⟨mf, mc⟩ := pFC_mono (fns := fns) (lms := lms) gl.sm n
  refine lam_call (n := n + 4) hr e0 h3 h4 kt h6 h7 h8 h2 S hp fun hr' => ?_
  let E' : XK := fun cls dd H' => Free H' L → E cls dd (lend H' L)
  let X := lx pr w P.K mg base t qual cl c a A outer s (unlend H L) E'
  let Fc : Fx := ⟨P, W, [((fun _ => False), unlend H L)], fun cls d _ H' => E' cls d H', cf⟩
  have o : XOk G ⟨t.fr, t.scope, fun _ => false, false⟩ Fc (pF fns lms n) (pC fns lms n) (n + 4) X :=
    { N := rfl, nd := S.nd, sc := rfl, fn := rfl, K := rfl, calm := rfl, room := hr', tk := takes_of rfl rfl rfl rfl
      fns := fun g j hg => by
        obtain ⟨f', fd', ps', a1, a2, a3, a4, a5⟩ := ih g j hg
        exact ⟨f', fd', ps', a1, a2, a3, a4, a5⟩
      cns := gl.cns
      blt := fun y hy _ => gl.blt y hy
      mf := mf, mc := mc, clo := ihc, lam := fun z => nomatch z }
  refine ⟨_, (all_e gl.hG fuel).e o t.body b hE, ?_⟩
  have cl0 : cs.length = t.fr.length := hl
  have rl0 : RepL P W (unlend H L) cs vs := RepL.unext (rdd_unlend kt) cs vs hn rl
  have wk0 : ∀ a, W a → NE (unlend H L) a := fun a wa => by
    obtain ⟨u, e1, e2⟩ := wk a wa
    exact ⟨u, by rw [unlend_out (nl wa)]; exact e1, e2⟩
  have sok0 : P.sok ((cf lamK).f kk) (unlend H L) := P.sokFr _ H _ (fun a ha => (unlend_out (nl (tw a ha))).symm) (fun c' q e => by
    cases z : L.lookup c' with
    | none => rw [unlend_out z]; exact e
    | some o' =>
      obtain ⟨oc, ws, tk, e1, e2, _⟩ := (e0.hok c' _ e).1
      rw [kt.at_ e0.hok z] at e1
      cases e1
      obtain ⟨_, _, v, hv⟩ := h5 c' _ z
      rw [hv] at e2
      cases e2) hs
  have rel := rel_start (N := t.fr) (ns := t.fr.length) rfl rl0 wk0 tw sok0
  have e1 : startD t.fr.length cs = cs.map Sl.val := by
    unfold startD
    rw [cl0]
    simp
  have e2 : L2.start t.fr vs = vs.map some := by
    unfold L2.start
    rw [h2]
    simp
  rw [e1, e2] at rel
  refine ⟨W, cs.map Sl.val, kk, rel.le (by rw [Co.eq, Co.eq]; have q : (coE Fc.cf b).c ≤ (cf lamK).c := hco; omega), ?_⟩
  have up : ∀ {j : Nat} {H' : Hp}, Ext P j (unlend H L) H' → Free H' L → Ext P j H (lend H' L) ∧ Fr W H' (lend H' L) := fun {j H'} e fr => by
    refine ⟨⟨fun a o nT h => ?_, P.sokFr _ H' _ (fun a ha => (lend_out (nl (tw a ha))).symm) (fun c' q h => fr.lent h) e.strm, fun a ha => ?_⟩, fun a u _ _ h => ?_⟩
    · cases q : L.lookup a with
      | some o' =>
        rw [kt a o' q] at h
        rw [lend_in q]
        exact h
      | none =>
        rw [lend_out q]
        exact e.keep a o nT (by rw [unlend_out q]; exact h)
    · cases q : L.lookup a with
      | some o' => rw [lend_in q]; exact fun z => nomatch z
      | none =>
        rw [lend_out q]
        exact e.dom a (by rw [unlend_out q]; exact ha)
    · cases u <;> first
        | (show lend H' L a = _
           exact fr.lent h)
        | (rcases h with h | ⟨o2, h⟩
           · exact .inl (fr.lent h)
           · exact .inr ⟨o2, fr.lent h⟩)
  refine wE_mono mf mc b _ _ _ _ _ (fun d hd v H' e r _ fr => ?_) (fun x hx cls dd H' e r fr => ?_) hw
  · obtain ⟨u1, u2⟩ := up e fr
    exact hd v _ u1 (Rep.frame u2 (fun a h => .inl h) _ _ r)
  · obtain ⟨u1, u2⟩ := up e fr
    obtain ⟨C, f, dx, v, a', x1, x2, x3, x4, x5, x6⟩ := r
    exact hx cls dd _ u1 ⟨C, f, dx, v, a', x1, x2, x3, x4, fr.lent x5, Rep.frame u2 (fun a h => .inl h) _ _ x6⟩
theorem fn_all (gl : Glob cf G P pr w mg base fns lms) : ∀ n, AllFn cf G P pr w mg base fns lms n ∧ AllClo cf P pr w mg base fns lms n
  | 0 => ⟨fun g k hg => by
    obtain ⟨f, fd, ps, h1, h2, h3, h4, _⟩ := gl.fn g k hg
    have no : ∀ vs H Q E, ¬ spD P (cf k) (pF fns lms 0 k) vs H Q E := fun vs H Q E ⟨W, ds, _, _, _, _, _, h⟩ => by
      unfold pF at h
      exact h
    exact ⟨f, fd, ps, h1, h2, ⟨fun vs H Q E h => (no _ _ _ _ h).elim, fun A outer s H args us vs Q E _ _ _ _ h => (no _ _ _ _ h).elim⟩, h3, h4⟩, ⟨fun _ _ _ _ _ _ _ _ h => by
      unfold pC at h
      exact h.elim⟩⟩
  | n + 1 => by
    obtain ⟨ih, ihc⟩ := fn_all gl n
    refine ⟨fun g k hg => ?_, clo_step gl ih ihc⟩
    obtain ⟨f, fd, ps, h1, h2, h3, h4, h5⟩ := gl.fn g k hg
    rcases h5 with ⟨F, hk, d⟩ | ⟨m, hk, hm⟩
    · exact ⟨f, fd, ps, h1, h2, fn_code gl ih ihc hk d, h3, h4⟩
    · refine ⟨f, fd, ps, h1, h2, (hm n ih ihc).imp fun vs H Q E ⟨W, ds, kx, a, b, c, d, h⟩ => ⟨W, ds, kx, a, b, c, d, ?_⟩, h3, h4⟩
      unfold pF at h
      rw [hk] at h
      exact h
end
end Dl
namespace Dl
open PySem PySem.Spec PyProof.Rows L2
/-! ### the law's own draws: _law_below -/
def bSet (p : Nat → Pos) : Stmt := .Assign (targets := [.Subscript (value := .Name "stream" (p 0)) (slice := .Constant (.int 2) 0 (p 1)) (pos := p 2)]) (value := .BinOp (left := .Subscript (value := .Name "stream" (p 3)) (slice := .Constant (.int 2) 0 (p 4)) (pos := p 5)) (op := .Add) (right := .Constant (.int 1) 0 (p 6)) (pos := p 7)) (pos := p 8)
def bWhile (p : Nat → Pos) : Stmt := .While (test := .BoolOp (op := .And) (values := [.Compare (left := .Subscript (value := .Name "stream" (p 9)) (slice := .Constant (.int 1) 0 (p 10)) (pos := p 11)) (ops := [.Eq]) (comparators := [.Constant (.int 0) 0 (p 12)]) (pos := p 13), .Compare (left := .Subscript (value := .Name "stream" (p 14)) (slice := .Constant (.int 0) 0 (p 15)) (pos := p 16)) (ops := [.NotEq]) (comparators := [.List [] (p 17)]) (pos := p 18)]) (pos := p 19)) (body := [.Assign (targets := [.Name "cell" (p 20)]) (value := .Call (func := .Attribute (value := .Subscript (value := .Name "stream" (p 21)) (slice := .Constant (.int 0) 0 (p 22)) (pos := p 23)) (attr := "pop") (pos := p 24)) (args := [.Constant (.int 0) 0 (p 25)]) (keywords := []) (pos := p 26)) (pos := p 27), .Assign (targets := [.Subscript (value := .Name "stream" (p 28)) (slice := .Constant (.int 3) 0 (p 29)) (pos := p 30)]) (value := .BinOp (left := .Call (func := .Name "int" (p 31)) (args := [.BinOp (left := .BinOp (left := .BinOp (left := .Subscript (value := .Name "stream" (p 32)) (slice := .Constant (.int 3) 0 (p 33)) (pos := p 34)) (op := .Mult) (right := .Constant (.int 69031) 0 (p 35)) (pos := p 36)) (op := .Add) (right := .Name "cell" (p 37)) (pos := p 38)) (op := .Add) (right := .Constant (.int 13) 0 (p 39)) (pos := p 40)]) (keywords := []) (pos := p 41)) (op := .Mod) (right := .Constant (.int 2147483647) 0 (p 42)) (pos := p 43)) (pos := p 44), .Assign (targets := [.Subscript (value := .Name "stream" (p 45)) (slice := .Constant (.int 1) 0 (p 46)) (pos := p 47)]) (value := .IfExp (test := .Compare (left := .Name "cell" (p 48)) (ops := [.GtE]) (comparators := [.BinOp (left := .Constant (.int 10) 0 (p 49)) (op := .Pow) (right := .Constant (.int 18) 0 (p 50)) (pos := p 51)]) (pos := p 52)) (body := .Name "cell" (p 53)) (orelse := .Constant (.int 0) 0 (p 54)) (pos := p 55)) (pos := p 56)]) (orelse := []) (pos := p 57)
def bIf (p : Nat → Pos) : Stmt := .If (test := .Compare (left := .Subscript (value := .Name "stream" (p 58)) (slice := .Constant (.int 1) 0 (p 59)) (pos := p 60)) (ops := [.Gt]) (comparators := [.Constant (.int 0) 0 (p 61)]) (pos := p 62)) (body := [.Assign (targets := [.Name "digit" (p 63)]) (value := .BinOp (left := .Call (func := .Name "int" (p 64)) (args := [.Subscript (value := .Name "stream" (p 65)) (slice := .Constant (.int 1) 0 (p 66)) (pos := p 67)]) (keywords := []) (pos := p 68)) (op := .Mod) (right := .Name "many" (p 69)) (pos := p 70)) (pos := p 71), .Assign (targets := [.Subscript (value := .Name "stream" (p 72)) (slice := .Constant (.int 1) 0 (p 73)) (pos := p 74)]) (value := .BinOp (left := .Subscript (value := .Name "stream" (p 75)) (slice := .Constant (.int 1) 0 (p 76)) (pos := p 77)) (op := .FloorDiv) (right := .Name "many" (p 78)) (pos := p 79)) (pos := p 80), .Return (some (.Name "digit" (p 81))) (p 82)]) (orelse := []) (pos := p 83)
def bMix (p : Nat → Pos) : Stmt := .Assign (targets := [.Name "mixed" (p 84)]) (value := .BinOp (left := .Call (func := .Name "int" (p 85)) (args := [.BinOp (left := .BinOp (left := .BinOp (left := .Subscript (value := .Name "stream" (p 86)) (slice := .Constant (.int 3) 0 (p 87)) (pos := p 88)) (op := .Add) (right := .BinOp (left := .Constant (.int 9049) 0 (p 89)) (op := .Mult) (right := .Subscript (value := .Name "stream" (p 90)) (slice := .Constant (.int 2) 0 (p 91)) (pos := p 92)) (pos := p 93)) (pos := p 94)) (op := .Add) (right := .Constant (.int 130073) 0 (p 95)) (pos := p 96)) (op := .Pow) (right := .Constant (.int 5) 0 (p 97)) (pos := p 98)]) (keywords := []) (pos := p 99)) (op := .Mod) (right := .Constant (.int 2147483629) 0 (p 100)) (pos := p 101)) (pos := p 102)
def bRet (p : Nat → Pos) : Stmt := .Return (value := some (.BinOp (left := .BinOp (left := .Call (func := .Name "int" (p 103)) (args := [.BinOp (left := .BinOp (left := .BinOp (left := .BinOp (left := .Name "mixed" (p 104)) (op := .Mult) (right := .Constant (.int 44089) 0 (p 105)) (pos := p 106)) (op := .Add) (right := .BinOp (left := .Constant (.int 60077) 0 (p 107)) (op := .Mult) (right := .Subscript (value := .Name "stream" (p 108)) (slice := .Constant (.int 2) 0 (p 109)) (pos := p 110)) (pos := p 111)) (pos := p 112)) (op := .Add) (right := .Constant (.int 47) 0 (p 113)) (pos := p 114)) (op := .Pow) (right := .Constant (.int 3) 0 (p 115)) (pos := p 116)]) (keywords := []) (pos := p 117)) (op := .Mod) (right := .Constant (.int 1000000007) 0 (p 118)) (pos := p 119)) (op := .Mod) (right := .Name "many" (p 120)) (pos := p 121))) (pos := p 122)
def belowBody (p : Nat → Pos) : List Stmt := [bSet p, bWhile p, bIf p, bMix p, bRet p]
def belowScope : Scope := { kind := PySem.ScopeKind.function, names := [(PySem.Str.ofString "stream", PySem.NameKind.local), (PySem.Str.ofString "many", PySem.NameKind.local), (PySem.Str.ofString "cell", PySem.NameKind.local), (PySem.Str.ofString "digit", PySem.NameKind.local), (PySem.Str.ofString "mixed", PySem.NameKind.local), (PySem.Str.ofString "int", PySem.NameKind.globalImplicit)], isGenerator := false, isCoroutine := false, more := [] }
/-- what the stream holds, the names -/
structure BP where
  a : Int
  b : Int
  c : Int
  many : Int
  ns : List Int
  x2 : Option V
  x3 : Option V
  x4 : Option V
def BP.lst (La : Addr) (p : BP) : List V := [.ref La, .int p.a, .int p.b, .int p.c]
def bigN : Nat := 2 ^ 1000000
structure BP.Bd (p : BP) : Prop where
  a0 : 0 ≤ p.a
  b0 : 0 ≤ p.b
  b1 : p.b ≤ bigN
  c0 : 0 ≤ p.c
  c1 : p.c < 2147483648
  m0 : 0 < p.many
  m1 : p.many < 1073741824
structure BSh (T1 La : Addr) (p : BP) (σ : L2.St) (H : Hp) : Prop where
  st : σ = [some (.ref T1), some (.int p.many), p.x2, p.x3, p.x4]
  h1 : H T1 = some (.lst (p.lst La))
  h2 : H La = some (.lst (p.ns.map V.int))
  ne : La ≠ T1
  len : p.ns.length ≤ sizeLine
  bd : p.Bd
section
variable {X : Cx} {T1 La : Addr} {C : BP → Prop} {a b e : Expr} {f g : BP → Int} {pos : Pos}
/-- an expression reads an int -/
def EV (X : Cx) (T1 La : Addr) (C : BP → Prop) (e : Expr) (f : BP → Int) : Prop := PE X e (fun σ H Q => ∃ p, BSh T1 La p σ H ∧ C p ∧ Q (.int (f p)) H)
theorem EV.con {i : Int} {j : Nat} : EV X T1 La C (.Constant (.int i) j pos) (fun _ => i) := PE.imp pe_int fun σ H Q ⟨p, s, c, q⟩ => q
theorem EV.bin {op : Operator} {o : BOp} (ho : cBop op = some o) {h : BP → Int} (ha : EV X T1 La C a f) (hb : EV X T1 La C b g) (hr : ∀ p H Q, p.Bd → C p → Q (.int (h p)) H → rBin o (.int (f p)) (.int (g p)) H Q) : EV X T1 La C (.BinOp a op b pos) h :=
  PE.imp (pe_op (op_bin ho) ha hb) fun σ H Q ⟨p, s, c, q⟩ => ⟨p, s, c, p, s, c, hr p H Q s.bd c q⟩
theorem EV.add (ha : EV X T1 La C a f) (hb : EV X T1 La C b g) : EV X T1 La C (.BinOp a .Add b pos) (fun p => f p + g p) := EV.bin (o := .add) rfl ha hb fun p H Q _ _ q => .inl ⟨_, _, rfl, rfl, q⟩
theorem EV.mul (ha : EV X T1 La C a f) (hb : EV X T1 La C b g) (hc : ∀ p, CMul (f p) (g p)) : EV X T1 La C (.BinOp a .Mult b pos) (fun p => f p * g p) := EV.bin (o := .mul) rfl ha hb fun p H Q _ _ q => .inl ⟨_, _, rfl, rfl, hc p, q⟩
theorem EV.mod (ha : EV X T1 La C a f) (hb : EV X T1 La C b g) (hc : ∀ p : BP, p.Bd → 0 < g p) : EV X T1 La C (.BinOp a .Mod b pos) (fun p => f p % g p) := EV.bin (o := .mod) rfl ha hb fun p H Q d _ q => ⟨_, _, rfl, rfl, hc p d, q⟩
theorem EV.fdiv (ha : EV X T1 La C a f) (hb : EV X T1 La C b g) (hc : ∀ p : BP, p.Bd → CDiv (f p) (g p)) : EV X T1 La C (.BinOp a .FloorDiv b pos) (fun p => f p / g p) := EV.bin (o := .fdiv) rfl ha hb fun p H Q d _ q => ⟨_, _, rfl, rfl, hc p d, q⟩
theorem EV.pow (ha : EV X T1 La C a f) (hb : EV X T1 La C b g) (hc : ∀ p : BP, p.Bd → C p → CPw (f p) (g p)) : EV X T1 La C (.BinOp a .Pow b pos) (fun p => f p ^ (g p).toNat) := EV.bin (o := .pow) rfl ha hb fun p H Q d c q => ⟨_, _, rfl, rfl, hc p d c, q⟩
theorem EV.int {p0 : Pos} (hg : Gl X "int") (hm : X.mg "int" = none) (hc : X.calm = true) (ha : EV X T1 La C a f) (hs : notStar a = true) : EV X T1 La C (.Call (.Name "int" p0) [a] [] pos) f := by
  have h := pe_callTy (pos := pos) (p := p0) call_int1 hg hm (by decide +kernel) (pa_cons ha pa_nil (star_of hs)) (he := star_of hs) (hpl := rfl)
  exact PE.imp h fun σ H Q ⟨p, s, c, q⟩ => ⟨p, s, c, .inl ⟨_, rfl, q⟩⟩
theorem EV.name {i : Nat} {x : Str} (hN : X.N[i]? = some x) (hv : Vis X.env.scope x) (hd : (x == ("__debug__" : Str)) = false) (hcd : (x == ("__classdict__" : Str)) = false) (hf : ∀ p : BP, C p → [some (.ref T1), some (.int p.many), p.x2, p.x3, p.x4][i]? = some (some (.int (f p)))) : EV X T1 La C (.Name x pos) f :=
  PE.imp (pe_var hN hv hd hcd) fun σ H Q ⟨p, s, c, q⟩ => ⟨.int (f p), by rw [s.st]; exact hf p c, q⟩
/-- the stream itself -/
theorem st_name (hN : X.N[0]? = some ("stream" : Str)) (hv : Vis X.env.scope "stream") : PE X (.Name "stream" pos) (fun σ H Q => ∃ p, BSh T1 La p σ H ∧ C p ∧ Q (.ref T1) H) :=
  PE.imp (pe_var hN hv (by decide) (by decide)) fun σ H Q ⟨p, s, c, q⟩ => ⟨.ref T1, by rw [s.st]; rfl, q⟩
theorem st_at {i : Int} {j : Nat} {p1 p2 : Pos} {v : BP → V} (hN : X.N[0]? = some ("stream" : Str)) (hv : Vis X.env.scope "stream") (hi : ∀ p : BP, atI (p.lst La) i = some (v p)) : PE X (.Subscript (.Name "stream" p1) (.Constant (.int i) j p2) pos) (fun σ H Q => ∃ p, BSh T1 La p σ H ∧ C p ∧ Q (v p) H) :=
  PE.imp (pe_ix ix_seq (st_name (T1 := T1) (La := La) (C := C) hN hv) pe_int (plain_ix rfl)) fun σ H Q ⟨p, s, c, q⟩ => ⟨p, s, c, .inl ⟨T1, _, i, v p, rfl, rfl, .inl (.inl s.h1), hi p, q⟩⟩
/-- stream[j] = e -/
theorem st_set {i : Int} {j k : Nat} {p1 p2 p3 : Pos} (hN : X.N[0]? = some ("stream" : Str)) (hv : Vis X.env.scope "stream") (hi : ∀ p : BP, ixN (p.lst La).length i = some k) (he : EV X T1 La C e f) (hc : isComp e = false) :
    PS X (.Assign [.Subscript (.Name "stream" p1) (.Constant (.int i) j p2) p3] e pos) (fun D σ H => ∃ p, BSh T1 La p σ H ∧ C p ∧ D.nx σ (upd H T1 (.lst ((p.lst La).set k (.int (f p)))))) :=
  PS.imp (ps_asg he (pg_sub (st_name (T1 := T1) (La := La) (C := C) hN hv) pe_int set_list) (by unfold swapsWithSole; exact swaps_not hc) (by unfold swappedStores; rfl) rfl) fun D σ H ⟨p, s, c, q⟩ =>
    ⟨p, s, c, p, s, c, T1, _, i, k, rfl, rfl, s.h1, hi p, q⟩
/-- name = e -/
theorem st_let {i : Nat} {x : Str} {p1 : Pos} (hnd : X.N.Nodup) (hN : X.N[i]? = some x) (hl : L2.Loc X.env.scope x) (he : EV X T1 La C e f) (hc : isComp e = false) (hf : X.fn x = true ∨ X.env.scope.names.lookup x = some .local) :
    PS X (.Assign [.Name x p1] e pos) (fun D σ H => ∃ p, BSh T1 La p σ H ∧ C p ∧ D.nx (σ.set i (some (.int (f p)))) H) :=
  PS.imp (ps_set hnd hN hl he (swaps_not hc) hf) fun D σ H ⟨p, s, c, q⟩ => ⟨p, s, c, q⟩
/-! shapes behind the stores -/
theorem BSh.setc {p : BP} {σ : L2.St} {H : Hp} (s : BSh T1 La p σ H) {p' : BP} {xs : List V} (hx : xs = p'.lst La) (hm : p'.many = p.many) (h2 : p'.x2 = p.x2) (h3 : p'.x3 = p.x3) (h4 : p'.x4 = p.x4) (hi : p'.ns = p.ns) (bd : p'.Bd) : BSh T1 La p' σ (upd H T1 (.lst xs)) :=
  ⟨by rw [hm, h2, h3, h4]; exact s.st, by rw [upd_same, hx], by rw [upd_ne s.ne, hi]; exact s.h2, s.ne, by rw [hi]; exact s.len, bd⟩
theorem eqv_nil (l : List Int) : PyData.eqv (.list (l.map PyData.int)) (.list []) = decide (l = []) := by
  cases l with
  | nil => rfl
  | cons x r => rfl
end
/-! ### the walk -/
def bN : List Str := ["stream", "many", "cell", "digit", "mixed"]
structure BX (X : Cx) : Prop where
  N : X.N = bN
  sc : X.env.scope = belowScope
  fn : ∀ y, X.fn y = true
  int : X.mg "int" = none
  calm : X.calm = true
  un : X.A.units + 65 < cLine
  pas : PassesOwn (model X.prog X.w) X.A X.env X.xe
section
variable {X : Cx} {T1 La : Addr} {C : BP → Prop} {pos : Pos}
theorem BX.at_ (b : BX X) {i : Nat} {x : Str} (h : bN[i]? = some x) : X.N[i]? = some x := by rw [b.N]; exact h
theorem BX.loc (b : BX X) {x : Str} (h : belowScope.names.lookup x = some .local) : X.env.scope.names.lookup x = some .local := by rw [b.sc]; exact h
theorem BX.vis (b : BX X) {x : Str} (h : belowScope.names.lookup x = some .local) : Vis X.env.scope x := .inl (b.loc h)
theorem BX.nd (b : BX X) : X.N.Nodup := by rw [b.N]; decide
theorem BX.gl (b : BX X) : Gl X "int" := by
  show X.env.scope.names.lookup _ = _
  rw [b.sc]
  rfl
theorem BX.strm (b : BX X) : X.N[0]? = some ("stream" : Str) ∧ Vis X.env.scope "stream" := ⟨b.at_ rfl, b.vis rfl⟩
theorem BX.e (b : BX X) {i : Int} {j : Nat} {p1 p2 : Pos} {f : BP → Int} (h : ∀ p : BP, atI (p.lst La) i = some (.int (f p))) : EV X T1 La C (.Subscript (.Name "stream" p1) (.Constant (.int i) j p2) pos) f := st_at b.strm.1 b.strm.2 h
theorem BX.many (b : BX X) : EV X T1 La C (.Name "many" pos) (fun p => p.many) := EV.name (i := 1) (b.at_ rfl) (b.vis rfl) (by decide) (by decide) fun _ _ => rfl
def isInt (o : Option V) : Int := match o with
  | some (.int z) => z
  | _ => 0
def C2 (p : BP) : Prop := ∃ z, p.x2 = some (.int z)
def C3 (p : BP) : Prop := ∃ z, p.x3 = some (.int z)
def C4 (p : BP) : Prop := ∃ z, p.x4 = some (.int z) ∧ 0 ≤ z ∧ z < 2147483629
theorem BX.cell (b : BX X) : EV X T1 La C2 (.Name "cell" pos) (fun p => isInt p.x2) := EV.name (i := 2) (b.at_ rfl) (b.vis rfl) (by decide) (by decide) fun p ⟨z, h⟩ => by rw [h]; rfl
theorem BX.digit (b : BX X) : EV X T1 La C3 (.Name "digit" pos) (fun p => isInt p.x3) := EV.name (i := 3) (b.at_ rfl) (b.vis rfl) (by decide) (by decide) fun p ⟨z, h⟩ => by rw [h]; rfl
theorem BX.mixed (b : BX X) : EV X T1 La C4 (.Name "mixed" pos) (fun p => isInt p.x4) := EV.name (i := 4) (b.at_ rfl) (b.vis rfl) (by decide) (by decide) fun p ⟨z, h, _⟩ => by rw [h]; rfl
def C0 (_ : BP) : Prop := True
variable {p : Nat → Pos}
theorem w_set (b : BX X) : PS X (bSet p) (fun D σ H => ∃ p, BSh T1 La p σ H ∧ C0 p ∧ D.nx σ (upd H T1 (.lst ((p.lst La).set 2 (.int (p.b + 1)))))) :=
  st_set (k := 2) b.strm.1 b.strm.2 (fun _ => rfl) (EV.add (b.e (f := fun p => p.b) fun _ => rfl) EV.con) rfl
theorem w_test1 (b : BX X) {p1 p2 p3 p4 : Pos} {j k : Nat} : PT X (.Compare (.Subscript (.Name "stream" p1) (.Constant (.int 1) j p2) p3) [.Eq] [.Constant (.int 0) k p4] pos) (fun σ H Q => ∃ p, BSh T1 La p σ H ∧ Q (decide (p.a = 0)) H) :=
  PT.imp (pt_cmp (pc_eqI (b.e (T1 := T1) (La := La) (C := C0) (f := fun p => p.a) fun _ => rfl) pe_int)) fun σ H Q ⟨p, s, q⟩ => ⟨p, s, True.intro, p.a, 0, rfl, rfl, _, rfl, q⟩
theorem int_rep {P : Par} {H : Hp} {l : List Int} : RepL P (fun _ => False) H (l.map D.int) (l.map V.int) := by
  induction l with
  | nil => exact RepL.nil_iff.mpr rfl
  | cons x r ih => exact RepL.mk (Rep.int.mpr rfl) ih
theorem int_py : ∀ l : List Int, toPyL (l.map D.int) = some (l.map PyData.int)
  | [] => rfl
  | x :: r => by
    show toPyL (D.int x :: r.map D.int) = _
    unfold toPyL
    rw [int_py r]
    rfl
def nullP (K : PySem.W.Frag) : Par where
  K := K
  T1 := 0
  T := fun _ => False
  cls := fun _ => none
  exc := fun _ => none
  sok := fun _ _ => True
  sokFr := fun _ _ _ _ _ _ => True.intro
  sokT := fun _ _ _ _ h => h.elim
  sokLe := fun _ _ _ _ _ => True.intro
  lok := fun _ _ => False
theorem int_dp {K : PySem.W.Frag} {H : Hp} {a : Addr} {l : List Int} (h : H a = some (.lst (l.map V.int))) (hz : l.length ≤ sizeLine) : Dp K H (.ref a) (.list (l.map .int)) ∧ PyData.canLay0 (.list (l.map .int)) = true := by
  have r : Rep (nullP K) (fun _ => False) H (.lst (l.map D.int)) (.ref a) := Rep.lst.mpr ⟨a, _, rfl, fun z => z, h, by rw [List.length_map]; exact hz, int_rep⟩
  exact Rep.dp (P := nullP K) _ _ _ r (by unfold D.toPy; rw [int_py]; rfl)
theorem depth_ints (l : List Int) : (PyData.list (l.map PyData.int)).depth ≤ 64 := by
  have h : ∀ l : List Int, PyData.depthAll (l.map PyData.int) ≤ 1 := fun l => by
    induction l with
    | nil => exact Nat.zero_le _
    | cons x r ih =>
      rw [List.map_cons]
      unfold PyData.depthAll
      have : (PyData.int x).depth = 0 := by unfold PyData.depth; rfl
      rw [this]
      omega
  unfold PyData.depth
  have := h l
  omega
theorem w_test2 (b : BX X) {p1 p2 p3 p4 : Pos} {j : Nat} : PT X (.Compare (.Subscript (.Name "stream" p1) (.Constant (.int 0) j p2) p3) [.NotEq] [.List [] p4] pos) (fun σ H Q => ∃ p, BSh T1 La p σ H ∧ ∀ q, H q = none → Q (!decide (p.ns = [])) (upd H q (.lst []))) :=
  PT.imp (pt_cmpR (op_cmp b.un .NotEq) (st_at (T1 := T1) (La := La) (C := C0) (v := fun _ => .ref La) b.strm.1 b.strm.2 fun _ => rfl) (pe_lst pa_nil) rfl) fun σ H Q ⟨p, s, q⟩ => by
    refine ⟨p, s, True.intro, Nat.zero_le _, fun x hx => ?_⟩
    have hne : La ≠ x := fun z => by
      have := s.h2
      rw [z, hx] at this
      cases this
    have d1 := int_dp (K := X.K) (H := upd H x (.lst [])) (l := p.ns) (a := La) (by rw [upd_ne hne]; exact s.h2) s.len
    have d2 := int_dp (K := X.K) (H := upd H x (.lst [])) (l := []) (a := x) upd_same (Nat.zero_le _)
    refine ⟨_, _, d1.1, d2.1, shaped_of d1.2 (depth_ints _), shaped_of d2.2 (depth_ints _), _, rfl, ?_⟩
    show Q (!PyData.eqv (.list (p.ns.map .int)) (.list [])) _
    rw [eqv_nil]
    exact q x hx
theorem w_pop (b : BX X) {p1 p2 p3 p4 p5 p6 p7 : Pos} {j k : Nat} (hl : (p4.endLine == p6.line) = true) : PS X (.Assign [.Name "cell" p7] (.Call (.Attribute (.Subscript (.Name "stream" p1) (.Constant (.int 0) j p2) p3) "pop" p4) [.Constant (.int 0) k p5] [] p6) pos)
    (fun D σ H => ∃ p, BSh T1 La p σ H ∧ ∃ z r, p.ns = z :: r ∧ D.nx (σ.set 2 (some (.int z))) (upd H La (.lst (r.map V.int)))) := by
  have pe := pe_bm (cpos := p6) (apos := p4) PySem.F.plainAttrs_list PySem.F.slot_list_pop PySem.F.type_list_pop mt_popAt (st_at (T1 := T1) (La := La) (C := C0) (j := j) (p1 := p1) (p2 := p2) (pos := p3) (i := 0) (v := fun _ => .ref La) b.strm.1 b.strm.2 fun _ => rfl) (pa_cons (pe_int (j := k) (pos := p5) (i := 0)) pa_nil rfl) rfl (few_of rfl (by simp)) hl rfl rfl
  refine PS.imp (ps_set (i := 2) b.nd (b.at_ rfl) (.inl (b.loc rfl)) pe (swaps_not rfl) (.inl (b.fn _))) fun D σ H ⟨p, s, z, r, hz, q⟩ => ?_
  have h2 := s.h2
  rw [hz] at h2
  exact ⟨p, s, True.intro, .inl ⟨rfl, _, .inl (.inl h2)⟩, La, _, 0, 0, .int z, rfl, rfl, h2, by decide, by decide, by simp [seqIndex?], rfl, q⟩
theorem w_s3 (b : BX X) {p1 p2 p3 : Pos} {j : Nat} {e : Expr} {f : BP → Int} (he : EV X T1 La C2 e f) (hc : isComp e = false) : PS X (.Assign [.Subscript (.Name "stream" p1) (.Constant (.int 3) j p2) p3] e pos) (fun D σ H => ∃ p, BSh T1 La p σ H ∧ C2 p ∧ D.nx σ (upd H T1 (.lst ((p.lst La).set 3 (.int (f p)))))) :=
  st_set (k := 3) b.strm.1 b.strm.2 (fun _ => rfl) he hc
theorem w_s1 (b : BX X) {p1 p2 p3 : Pos} {j : Nat} {e : Expr} {f : BP → Int} (he : EV X T1 La C e f) (hc : isComp e = false) : PS X (.Assign [.Subscript (.Name "stream" p1) (.Constant (.int 1) j p2) p3] e pos) (fun D σ H => ∃ p, BSh T1 La p σ H ∧ C p ∧ D.nx σ (upd H T1 (.lst ((p.lst La).set 1 (.int (f p)))))) :=
  st_set (k := 1) b.strm.1 b.strm.2 (fun _ => rfl) he hc
theorem EV.ite {t a b : Expr} {f g : BP → Int} {d : BP → Bool} (ht : PT X t (fun σ H Q => ∃ p, BSh T1 La p σ H ∧ C p ∧ Q (d p) H)) (ha : EV X T1 La C a f) (hb : EV X T1 La C b g) : EV X T1 La C (.IfExp t a b pos) (fun p => if d p = true then f p else g p) :=
  PE.imp (pe_ifExp ht ha hb) fun σ H Q ⟨p, s, c, q⟩ => ⟨p, s, c, by
    have q : Q (.int (if d p = true then f p else g p)) H := q
    cases h : d p with
    | true => rw [h] at q; exact ⟨p, s, c, q⟩
    | false => rw [h] at q; exact ⟨p, s, c, q⟩⟩
theorem pow_lo {n : Nat} (h : 32 ≤ n) : 4294967296 ≤ 2 ^ n := Nat.le_trans (by decide : 4294967296 ≤ 2 ^ 32) (Nat.pow_le_pow_right (by decide) h)
theorem big_eq : bigN = 2 ^ 1000000 := rfl
theorem big_lo : 4294967296 ≤ bigN := by
  rw [big_eq]
  exact pow_lo (by decide)
theorem bits_gen {n m B : Nat} {x : Int} (hB : B = 2 ^ n) (hm : m = n + 20) (h0 : 0 ≤ x) (h : x < 1048576 * (B : Int)) : Builtin.Int.intBits x ≤ m := by
  refine PySem.intBits_le_iff.mpr ?_
  rw [hm, Nat.pow_add, ← hB]
  have : (2 : Nat) ^ 20 = 1048576 := by decide
  rw [this]
  omega
theorem bits_big {x : Int} (h0 : 0 ≤ x) (h : x < 1048576 * (bigN : Int)) : Builtin.Int.intBits x ≤ 1000020 := bits_gen big_eq (by decide) h0 h
theorem w_while (b : BX X) (hl : ((p 24).endLine == (p 26).line) = true) : ∃ t, PS X (bWhile p) t ∧ ∀ D σ H p0, BSh T1 La p0 σ H → (∀ σ' H' p', BSh T1 La p' σ' H' → p'.b = p0.b → p'.many = p0.many → (∀ x o, x ≠ T1 → x ≠ La → H x = some o → H' x = some o) → D.nx σ' H') → t D σ H := by
  have e3 : EV X T1 La C2 _ _ := EV.mod (pos := p 43) (EV.int (p0 := p 31) (pos := p 41) b.gl b.int b.calm (EV.add (pos := p 40) (EV.add (pos := p 38) (EV.mul (pos := p 36) (b.e (p1 := p 32) (j := 0) (p2 := p 33) (pos := p 34) (i := 3) (f := fun p => p.c) fun _ => rfl) (EV.con (i := 69031) (j := 0) (pos := p 35)) fun _ => .inr (by decide)) (b.cell (pos := p 37))) (EV.con (i := 13) (j := 0) (pos := p 39))) rfl) (EV.con (i := 2147483647) (j := 0) (pos := p 42)) fun _ _ => by decide
  have t4 : PT X (.Compare (.Name "cell" (p 48)) [.GtE] [.BinOp (.Constant (.int 10) 0 (p 49)) .Pow (.Constant (.int 18) 0 (p 50)) (p 51)] (p 52)) (fun σ H Q => ∃ q, BSh T1 La q σ H ∧ C2 q ∧ Q (decide (1000000000000000000 ≤ isInt q.x2)) H) :=
    PT.imp (pt_cmp (pc_ge b.cell (EV.pow (T1 := T1) (La := La) (C := C2) EV.con EV.con fun _ _ _ => ⟨by decide, by decide⟩))) fun σ H Q ⟨q, s, c, h⟩ => ⟨q, s, c, q, s, c, _, _, rfl, rfl, _, rfl, h⟩
  have e4 : EV X T1 La C2 _ _ := EV.ite (pos := p 55) t4 (b.cell (pos := p 53)) (EV.con (i := 0) (j := 0) (pos := p 54))
  have w3 := w_s3 (p1 := p 28) (j := 0) (p2 := p 29) (p3 := p 30) (pos := p 44) b e3 rfl
  have w4 := w_s1 (p1 := p 45) (j := 0) (p2 := p 46) (p3 := p 47) (pos := p 56) b e4 rfl
  have wp := w_pop (T1 := T1) (La := La) (p1 := p 21) (j := 0) (p2 := p 22) (p3 := p 23) (p4 := p 24) (k := 0) (p5 := p 25) (p6 := p 26) (p7 := p 20) (pos := p 27) b hl
  have wt := (pw_and (pos := p 19) (w_test1 (T1 := T1) (La := La) (p1 := p 9) (j := 0) (p2 := p 10) (p3 := p 11) (k := 0) (p4 := p 12) (pos := p 13) b) (pw_and1 (w_test2 (T1 := T1) (La := La) (p1 := p 14) (j := 0) (p2 := p 15) (p3 := p 16) (p4 := p 17) (pos := p 18) b))).pt
  refine ⟨_, ps_while (pos := p 57) b.pas wt (pss_cons wp (pss_cons w3 (pss_one w4))), fun D σ H p0 s0 hD => ?_⟩
  have kp0 : ∀ x o, x ≠ T1 → x ≠ La → H x = some o → H x = some o := fun _ _ _ _ h => h
  refine ⟨fun m σ' H' => ∃ q, BSh T1 La q σ' H' ∧ q.ns.length = m ∧ q.b = p0.b ∧ q.many = p0.many ∧ ∀ x o, x ≠ T1 → x ≠ La → H x = some o → H' x = some o, ⟨_, p0, s0, rfl, rfl, rfl, kp0⟩, fun m σ' H' ⟨q, s, hm, hb, hy, kp⟩ => ?_⟩
  refine ⟨q, s, ?_⟩
  have fin : ∀ {H2 : Hp}, (∀ x o, H' x = some o → H2 x = some o) → D.nx σ' H2 := fun {H2} g => hD σ' H2 q ⟨s.st, g _ _ s.h1, g _ _ s.h2, s.ne, s.len, s.bd⟩ hb hy fun x o n1 n2 h => g x o (kp x o n1 n2 h)
  by_cases ha : q.a = 0
  · rw [decide_eq_true ha]
    refine ⟨q, s, fun x hx => ?_⟩
    have g : ∀ y o, H' y = some o → upd H' x (.lst []) y = some o := fun y o h => by rw [upd_ne (ne_of_none h hx)]; exact h
    by_cases hn : q.ns = []
    · rw [decide_eq_true hn]
      exact fin g
    · rw [decide_eq_false hn]
      obtain ⟨z, r, hzr⟩ := List.exists_cons_of_ne_nil hn
      have hs2 : BSh T1 La q σ' (upd H' x (.lst [])) := ⟨s.st, g _ _ s.h1, g _ _ s.h2, s.ne, s.len, s.bd⟩
      refine ⟨_, fun σ2 H2 h => h, q, hs2, z, r, hzr, ?_⟩
      -- behind the pop
      let q1 : BP := { q with ns := r, x2 := some (.int z) }
      have hs3 : BSh T1 La q1 (σ'.set 2 (some (.int z))) (upd (upd H' x (.lst [])) La (.lst (r.map V.int))) := by
        refine ⟨by rw [s.st]; rfl, by rw [upd_ne (Ne.symm s.ne)]; exact hs2.h1, upd_same, s.ne, ?_, ⟨s.bd.a0, s.bd.b0, s.bd.b1, s.bd.c0, s.bd.c1, s.bd.m0, s.bd.m1⟩⟩
        have := s.len
        rw [hzr] at this
        exact Nat.le_of_succ_le this
      refine ⟨q1, hs3, ⟨z, rfl⟩, ?_⟩
      let q2 : BP := { q1 with c := (q1.c * 69031 + isInt q1.x2 + 13) % 2147483647 }
      have hm0 := Int.emod_nonneg (q1.c * 69031 + isInt q1.x2 + 13) (show (2147483647 : Int) ≠ 0 by decide)
      have hm1 := Int.emod_lt_of_pos (q1.c * 69031 + isInt q1.x2 + 13) (show (0 : Int) < 2147483647 by decide)
      have bd2 : q2.Bd := ⟨hs3.bd.a0, hs3.bd.b0, hs3.bd.b1, hm0, Int.lt_trans hm1 (by decide), hs3.bd.m0, hs3.bd.m1⟩
      have hs4 := hs3.setc (p' := q2) (xs := (q1.lst La).set 3 (.int q2.c)) rfl rfl rfl rfl rfl rfl bd2
      refine ⟨q2, hs4, ⟨z, rfl⟩, ?_⟩
      let q3 : BP := { q2 with a := if decide (1000000000000000000 ≤ isInt q2.x2) = true then isInt q2.x2 else 0 }
      have bd3 : q3.Bd := ⟨by
        show 0 ≤ (if decide (1000000000000000000 ≤ isInt q2.x2) = true then isInt q2.x2 else 0)
        split
        · rename_i h
          have := of_decide_eq_true h
          omega
        · exact Int.le_refl _, bd2.b0, bd2.b1, bd2.c0, bd2.c1, bd2.m0, bd2.m1⟩
      have hs5 := hs4.setc (p' := q3) (xs := (q2.lst La).set 1 (.int q3.a)) rfl rfl rfl rfl rfl rfl bd3
      refine ⟨r.length, by rw [← hm, hzr]; exact Nat.lt_succ_self _, q3, hs5, rfl, hb, hy, fun y o n1 n2 h => ?_⟩
      rw [upd_ne n1, upd_ne n1, upd_ne n2]
      exact g y o (kp y o n1 n2 h)
  · rw [decide_eq_false ha]
    exact fin fun _ _ h => h
theorem w_if (b : BX X) : ∃ t, PS X (bIf p) t ∧ ∀ D σ H q, BSh T1 La q σ H → (∀ r H', 0 ≤ r → r < q.many → (∃ σ' q', BSh T1 La q' σ' H' ∧ q'.b = q.b) → (∀ x o, x ≠ T1 → x ≠ La → H x = some o → H' x = some o) → D.rt (.int r) H') → D.nx σ H → t D σ H := by
  have tt : PT X (.Compare (.Subscript (.Name "stream" (p 58)) (.Constant (.int 1) 0 (p 59)) (p 60)) [.Gt] [.Constant (.int 0) 0 (p 61)] (p 62)) (fun σ H Q => ∃ q, BSh T1 La q σ H ∧ Q (decide (0 < q.a)) H) :=
    PT.imp (pt_cmp (pc_gt (b.e (T1 := T1) (La := La) (C := C0) (f := fun p => p.a) fun _ => rfl) pe_int)) fun σ H Q ⟨q, s, h⟩ => ⟨q, s, True.intro, _, _, rfl, rfl, _, rfl, h⟩
  have e1 : EV X T1 La C0 _ _ := EV.mod (pos := p 70) (EV.int (p0 := p 64) (pos := p 68) b.gl b.int b.calm (b.e (p1 := p 65) (j := 0) (p2 := p 66) (pos := p 67) (i := 1) (f := fun p => p.a) fun _ => rfl) rfl) (b.many (pos := p 69)) fun q h => h.m0
  have e2 : EV X T1 La C3 _ _ := EV.fdiv (pos := p 79) (b.e (p1 := p 75) (j := 0) (p2 := p 76) (pos := p 77) (i := 1) (f := fun p => p.a) fun _ => rfl) (b.many (pos := p 78)) fun q h => ⟨h.m0, h.m1⟩
  have s1 := st_let (i := 3) (p1 := p 63) (pos := p 71) (x := "digit") b.nd (b.at_ rfl) (.inl (b.loc rfl)) e1 rfl (.inl (b.fn _))
  have s2 := w_s1 (p1 := p 72) (j := 0) (p2 := p 73) (p3 := p 74) (pos := p 80) b e2 rfl
  have s3 := ps_ret (pos := p 82) (b.digit (T1 := T1) (La := La) (pos := p 81))
  refine ⟨_, ps_if (pos := p 83) tt (pss_cons s1 (pss_cons s2 (pss_one s3))) pss_nil, fun D σ H q s hr hn => ⟨q, s, ?_⟩⟩
  by_cases h : 0 < q.a
  · rw [decide_eq_true h]
    refine ⟨q, s, True.intro, ?_⟩
    let q1 : BP := { q with x3 := some (.int (q.a % q.many)) }
    have hs1 : BSh T1 La q1 (σ.set 3 (some (.int (q.a % q.many)))) H := ⟨by rw [s.st]; rfl, s.h1, s.h2, s.ne, s.len, s.bd.a0, s.bd.b0, s.bd.b1, s.bd.c0, s.bd.c1, s.bd.m0, s.bd.m1⟩
    refine ⟨q1, hs1, ⟨_, rfl⟩, ?_⟩
    let q2 : BP := { q1 with a := q.a / q.many }
    have bd2 : q2.Bd := ⟨Int.ediv_nonneg s.bd.a0 (Int.le_of_lt s.bd.m0), s.bd.b0, s.bd.b1, s.bd.c0, s.bd.c1, s.bd.m0, s.bd.m1⟩
    have hs2 := hs1.setc (p' := q2) (xs := (q1.lst La).set 1 (.int q2.a)) rfl rfl rfl rfl rfl rfl bd2
    refine ⟨q2, hs2, ⟨_, rfl⟩, ?_⟩
    exact hr _ _ (Int.emod_nonneg _ (Int.ne_of_gt s.bd.m0)) (Int.emod_lt_of_pos _ s.bd.m0) ⟨_, q2, hs2, rfl⟩ fun x o n1 n2 e => by rw [upd_ne n1]; exact e
  · rw [decide_eq_false h]
    exact hn
theorem pw_ok {x : Int} {j : Int} (h0 : 0 ≤ x) (h : x < 1048576 * (bigN : Int)) (hj : 0 ≤ j) (hj2 : j ≤ 100) : CPw x j := by
  refine ⟨hj, ?_⟩
  have h1 := bits_big h0 h
  have : (Builtin.Int.intBits x : Int) * j ≤ 1000020 * 100 := Int.mul_le_mul (by omega) hj2 hj (by decide)
  have e : (2 : Int) ^ 27 = 134217728 := by decide
  rw [e]
  omega
theorem w_end (b : BX X) : ∃ t, PSs X [bMix p, bRet p] t ∧ ∀ D σ H q, BSh T1 La q σ H → (∀ r, 0 ≤ r → r < q.many → D.rt (.int r) H) → t D σ H := by
  have e1 : EV X T1 La C0 _ _ := EV.mod (pos := p 101) (EV.int (p0 := p 85) (pos := p 99) b.gl b.int b.calm (EV.pow (pos := p 98) (EV.add (pos := p 96) (EV.add (pos := p 94) (b.e (p1 := p 86) (j := 0) (p2 := p 87) (pos := p 88) (i := 3) (f := fun p => p.c) fun _ => rfl) (EV.mul (pos := p 93) (EV.con (i := 9049) (j := 0) (pos := p 89)) (b.e (p1 := p 90) (j := 0) (p2 := p 91) (pos := p 92) (i := 2) (f := fun p => p.b) fun _ => rfl) fun _ => .inl (by decide))) (EV.con (i := 130073) (j := 0) (pos := p 95))) (EV.con (i := 5) (j := 0) (pos := p 97))
      fun q h _ => pw_ok (by have := h.b0; have := h.c0; omega) (by have := h.b1; have := h.c1; have := big_lo; omega) (by decide) (by decide)) rfl) (EV.con (i := 2147483629) (j := 0) (pos := p 100)) fun _ _ => by decide
  have e2 : EV X T1 La C4 _ _ := EV.mod (pos := p 121) (EV.mod (pos := p 119) (EV.int (p0 := p 103) (pos := p 117) b.gl b.int b.calm (EV.pow (pos := p 116) (EV.add (pos := p 114) (EV.add (pos := p 112) (EV.mul (pos := p 106) (b.mixed (pos := p 104)) (EV.con (i := 44089) (j := 0) (pos := p 105)) fun _ => .inr (by decide)) (EV.mul (pos := p 111) (EV.con (i := 60077) (j := 0) (pos := p 107)) (b.e (p1 := p 108) (j := 0) (p2 := p 109) (pos := p 110) (i := 2) (f := fun p => p.b) fun _ => rfl) fun _ => .inl (by decide))) (EV.con (i := 47) (j := 0) (pos := p 113))) (EV.con (i := 3) (j := 0) (pos := p 115))
      fun q h ⟨z, hz, h0, h1⟩ => by
        have e : isInt q.x4 = z := by rw [hz]; rfl
        rw [e]
        exact pw_ok (by have := h.b0; omega) (by have := h.b1; have := big_lo; omega) (by decide) (by decide)) rfl) (EV.con (i := 1000000007) (j := 0) (pos := p 118)) fun _ _ => by decide) (b.many (pos := p 120)) fun q h => h.m0
  have s1 := st_let (i := 4) (p1 := p 84) (pos := p 102) (x := "mixed") b.nd (b.at_ rfl) (.inl (b.loc rfl)) e1 rfl (.inl (b.fn _))
  have s2 := ps_ret (pos := p 122) e2
  refine ⟨_, pss_cons s1 (pss_one s2), fun D σ H q s hr => ?_⟩
  refine ⟨q, s, True.intro, ?_⟩
  generalize hz : (_ : Int) % 2147483629 = z
  have hz0 : 0 ≤ z := by rw [← hz]; exact Int.emod_nonneg _ (by decide)
  have hz1 : z < 2147483629 := by rw [← hz]; exact Int.emod_lt_of_pos _ (by decide)
  let q1 : BP := { q with x4 := some (.int z) }
  have hs1 : BSh T1 La q1 (σ.set 4 (some (.int z))) H := ⟨by rw [s.st]; rfl, s.h1, s.h2, s.ne, s.len, s.bd.a0, s.bd.b0, s.bd.b1, s.bd.c0, s.bd.c1, s.bd.m0, s.bd.m1⟩
  exact ⟨q1, hs1, ⟨z, rfl, hz0, hz1⟩, hr _ (Int.emod_nonneg _ (Int.ne_of_gt s.bd.m0)) (Int.emod_lt_of_pos _ s.bd.m0)⟩
/-- the whole body -/
theorem below_walk (b : BX X) (hl : ((p 24).endLine == (p 26).line) = true) : ∃ t, PSs X (belowBody p) t ∧ ∀ D σ H q, BSh T1 La q σ H → q.b + 1 ≤ bigN →
    (∀ r H', 0 ≤ r → r < q.many → (∃ σ' q', BSh T1 La q' σ' H' ∧ q'.b = q.b + 1) → (∀ x o, x ≠ T1 → x ≠ La → H x = some o → H' x = some o) → D.rt (.int r) H') → t D σ H := by
  obtain ⟨t2, h2, g2⟩ := w_while (T1 := T1) (La := La) b hl
  obtain ⟨t3, h3, g3⟩ := w_if (T1 := T1) (La := La) (p := p) b
  obtain ⟨t4, h4, g4⟩ := w_end (T1 := T1) (La := La) (p := p) b
  refine ⟨_, pss_cons (w_set (T1 := T1) (La := La) b) (pss_cons h2 (pss_cons h3 h4)), fun D σ H q s hb hr => ⟨q, s, True.intro, ?_⟩⟩
  let q1 : BP := { q with b := q.b + 1 }
  have bd1 : q1.Bd := ⟨s.bd.a0, by have := s.bd.b0; show 0 ≤ q.b + 1; omega, hb, s.bd.c0, s.bd.c1, s.bd.m0, s.bd.m1⟩
  have hs1 := s.setc (p' := q1) (xs := (q.lst La).set 2 (.int q1.b)) rfl rfl rfl rfl rfl rfl bd1
  have k1 : ∀ x o, x ≠ T1 → x ≠ La → H x = some o → upd H T1 (.lst ((q.lst La).set 2 (.int q1.b))) x = some o := fun x o n1 n2 e => by rw [upd_ne n1]; exact e
  refine g2 _ σ _ q1 hs1 fun σ2 H2 q2 s2 e1 e2 k2 => ?_
  have k12 : ∀ x o, x ≠ T1 → x ≠ La → H x = some o → H2 x = some o := fun x o n1 n2 e => k2 x o n1 n2 (k1 x o n1 n2 e)
  refine g3 _ σ2 H2 q2 s2 (fun r H3 r0 r1 ⟨σ3, q3, s3, e3⟩ k3 => hr r H3 r0 (by rw [e2] at r1; exact r1) ⟨σ3, q3, s3, by rw [e3, e1]⟩ fun x o n1 n2 e => k3 x o n1 n2 (k12 x o n1 n2 e)) ?_
  exact g4 _ σ2 H2 q2 s2 fun r r0 r1 => hr r H2 r0 (by rw [e2] at r1; exact r1) ⟨σ2, q2, s2, e1⟩ k12
end
end Dl
namespace Dl
open PySem PySem.Spec PyProof.Rows L2 LamX
/-! ### what is fixed while a law runs -/
structure LP where
  K : PySem.W.Frag
  T1 : Addr
  La : Addr
  tabs : List (Addr × Str)
  cls : Nat → Option (Addr × List Str)
  exc : Nat → Option (Addr × Str)
  lok : Nat → LamT → Prop
def LP.T (l : LP) (a : Addr) : Prop := a = l.T1 ∨ a = l.La ∨ ∃ p ∈ l.tabs, a = p.1
structure LP.Strm (l : LP) (k : Nat) (H : Hp) (ns : List Int) (a b c : Int) : Prop where
  ne : l.La ≠ l.T1
  tb : ∀ p ∈ l.tabs, p.1 ≠ l.T1 ∧ p.1 ≠ l.La
  h1 : H l.T1 = some (.lst [.ref l.La, .int a, .int b, .int c])
  h2 : H l.La = some (.lst (ns.map V.int))
  len : ns.length ≤ sizeLine
  a0 : 0 ≤ a
  b0 : 0 ≤ b
  b1 : b + k ≤ bigN
  c0 : 0 ≤ c
  c1 : c < 2147483648
def LP.sok (l : LP) (k : Nat) (H : Hp) : Prop := (∃ ns a b c, l.Strm k H ns a b c) ∧ Tabs l.tabs H
theorem TabS.to {H H' : Hp} {P : Addr} {q : Str} (t : TabS H P q) (h : H P = H' P) (hc : ∀ c q, H c = some (CodeO c q) → H' c = some (CodeO c q)) : TabS H' P q := by
  obtain ⟨ps, h1, h2, h3⟩ := t
  refine ⟨ps, by rw [← h]; exact h1, h2, fun pos cv e => ?_⟩
  obtain ⟨c, e1, e2⟩ := h3 pos cv e
  exact ⟨c, e1, hc _ _ e2⟩
def LP.par (l : LP) : Par where
  K := l.K
  T1 := l.T1
  T := l.T
  cls := l.cls
  exc := l.exc
  sok := l.sok
  sokFr := fun k H H' hT hc ⟨⟨ns, a, b, c, s⟩, ht⟩ =>
    ⟨⟨ns, a, b, c, s.ne, s.tb, by rw [← hT _ (.inl rfl)]; exact s.h1, by rw [← hT _ (.inr (.inl rfl))]; exact s.h2, s.len, s.a0, s.b0, s.b1, s.c0, s.c1⟩, fun p hp => TabS.to (ht p hp) (hT _ (.inr (.inr ⟨p, hp, rfl⟩))) hc⟩
  sokT := fun k H a ⟨⟨ns, x, b, c, s⟩, ht⟩ h => by
    rcases h with rfl | rfl | ⟨p, hp, rfl⟩
    · exact ⟨_, s.h1, fun _ z => nomatch z⟩
    · exact ⟨_, s.h2, fun _ z => nomatch z⟩
    · obtain ⟨ps, e, _⟩ := ht p hp
      exact ⟨_, e, fun _ z => nomatch z⟩
  sokLe := fun k k' H h ⟨⟨ns, a, b, c, s⟩, ht⟩ => ⟨⟨ns, a, b, c, s.ne, s.tb, s.h1, s.h2, s.len, s.a0, s.b0, by have := s.b1; omega, s.c0, s.c1⟩, ht⟩
  lok := l.lok
/-- a draw: any number there may be -/
def mBelow (ds : List D) (Q : DK) : Prop := ∃ many : Int, ds = [.strm, .int many] ∧ 0 < many ∧ many < 1073741824 ∧ ∀ r : Int, 0 ≤ r → r < many → Q (.int r)
theorem below_fn {l : LP} {pr : Program} {w : World} {mg : Str → Option Value} {base : Heap} {x qual : Str} {params : Arguments} {f : Addr} {fd : FuncData} {k : Nat} {p : Nat → Pos} (hF : FunD l.K x qual params (belowBody p) belowScope [] [] f fd)
    (hl : ((p 24).endLine == (p 26).line) = true) (hint : mg "int" = none) : FnOk pr w l.K mg base (L2.CX pr w) (k + 1) f fd ["stream", "many"] (spD l.par (Co.of 1) fun ds Q _ => mBelow ds Q) := by
  have S : FnScope bN ["stream", "many"] belowScope := ⟨rfl, rfl, rfl, by decide, rfl, by decide, by decide⟩
  refine hF.ok S (fun vs H Q E ⟨W, ds, kx, r, _, _, _, many, e, _⟩ => by rw [← r.len, e]; rfl) fun cdv A outer s H vs Q E hr ⟨W, ds, kx, r, wk, tw, ⟨⟨ns, a, b, c, hs⟩, ht⟩, many, e, m0, m1, hq⟩ => ?_
  subst e
  obtain ⟨v1, r1, rfl, q1, r2⟩ := RepL.cons_iff.mp r
  obtain ⟨v2, r3, rfl, q2, r4⟩ := RepL.cons_iff.mp r2
  obtain rfl := RepL.nil_iff.mp r4
  have e2 := Rep.int.mp q2
  have e1 : v1 = .ref l.T1 := by
    have q1 := q1
    unfold Rep at q1
    exact q1
  subst e1 e2
  have bx : BX (cxOf (L2.CX pr w) pr w l.K mg base bN qual belowScope f cdv A outer s H E) := ⟨rfl, rfl, fun _ => rfl, hint, rfl, by have := hr.un; show (A.deeper _).units + 65 < cLine; omega, passes_of rfl⟩
  obtain ⟨t, h1, h2⟩ := below_walk (T1 := l.T1) (La := l.La) (p := p) bx hl
  refine ⟨t, h1, ?_⟩
  have s0 : BSh l.T1 l.La ⟨a, b, c, many, ns, none, none, none⟩ (L2.start bN [.ref l.T1, .int many]) H := ⟨rfl, hs.h1, hs.h2, hs.ne, hs.len, hs.a0, hs.b0, by have := hs.b1; show b ≤ bigN; omega, hs.c0, hs.c1, m0, m1⟩
  refine h2 _ _ H _ s0 (by have := hs.b1; have e : (Co.of 1).f kx = 1 + kx := rfl; rw [e] at this; show b + 1 ≤ bigN; omega) fun r H' r0 r1 ⟨σ', q', s', e'⟩ kp => ?_
  refine hq r r0 r1 _ H' ⟨fun x o nT h => kp x o (fun z => nT (.inl z)) (fun z => nT (.inr (.inl z))) h, ⟨⟨q'.ns, q'.a, q'.b, q'.c, hs.ne, hs.tb, s'.h1, s'.h2, s'.len, s'.bd.a0, s'.bd.b0, ?_, s'.bd.c0, s'.bd.c1⟩, fun p hp => ?_⟩, fun x hx => ?_⟩ (Rep.int.mpr rfl)
  · have := hs.b1
    have e : (Co.of 1).f kx = 1 + kx := rfl
    rw [e] at this
    rw [e']
    show b + 1 + kx ≤ bigN
    omega
  · obtain ⟨n1, n2⟩ := hs.tb p hp
    obtain ⟨ps, t1, t2, t3⟩ := ht p hp
    refine ⟨ps, kp _ _ n1 n2 t1, t2, fun pos cv z => ?_⟩
    obtain ⟨c', z1, z2⟩ := t3 pos cv z
    refine ⟨c', z1, kp _ _ (fun z => ?_) (fun z => ?_) z2⟩
    · rw [z, hs.h1] at z2
      cases z2
    · rw [z, hs.h2] at z2
      cases z2
  · by_cases n1 : x = l.T1
    · rw [n1, s'.h1]; exact fun z => nomatch z
    · by_cases n2 : x = l.La
      · rw [n2, s'.h2]; exact fun z => nomatch z
      · cases z : H x with
        | none => exact absurd z hx
        | some o => rw [kp x o n1 n2 z]; exact fun z => nomatch z
theorem mBelow_mono {ds : List D} {Q Q' : DK} (h : ∀ d, Q d → Q' d) (m : mBelow ds Q) : mBelow ds Q' := by
  obtain ⟨many, e, h1, h2, h3⟩ := m
  exact ⟨many, e, h1, h2, fun r a b => h _ (h3 r a b)⟩
end Dl
namespace Dl
open PySem PySem.Spec PyProof.Rows L2 LamX
/-! ### the law's own mixing: _law_mixed -/
def mixScopeC : Scope := { kind := PySem.ScopeKind.function, names := [(PySem.Str.ofString ".0", PySem.NameKind.local), (PySem.Str.ofString "k", PySem.NameKind.local), (PySem.Str.ofString "_law_below", PySem.NameKind.globalImplicit), (PySem.Str.ofString "len", PySem.NameKind.globalImplicit), (PySem.Str.ofString "left", PySem.NameKind.free), (PySem.Str.ofString "stream", PySem.NameKind.free)], isGenerator := false, isCoroutine := false, more := [] }
def mixScope : Scope := { kind := PySem.ScopeKind.function, names := [(PySem.Str.ofString "stream", PySem.NameKind.cell), (PySem.Str.ofString "some", PySem.NameKind.local), (PySem.Str.ofString "left", PySem.NameKind.cell), (PySem.Str.ofString "list", PySem.NameKind.globalImplicit), (PySem.Str.ofString "range", PySem.NameKind.globalImplicit), (PySem.Str.ofString "len", PySem.NameKind.globalImplicit)], isGenerator := false, isCoroutine := false, more := [(PySem.Str.ofString "fast", .str "stream"), (PySem.Str.ofString "fast", .str "some"), (PySem.Str.ofString "fast", .str "left"), (PySem.Str.ofString "fast", .str "k")] }
def mixSet (p : Nat → Pos) : Stmt := .Assign (targets := [.Name "left" (p 0)]) (value := .Call (func := .Name "list" (p 1)) (args := [.Name "some" (p 2)]) (keywords := []) (pos := p 3)) (pos := p 4)
def mixElt (p : Nat → Pos) : Expr := .Call (func := .Attribute (.Name "left" (p 5)) "pop" (p 6)) (args := [.Call (func := .Name "_law_below" (p 7)) (args := [.Name "stream" (p 8), .Call (func := .Name "len" (p 9)) (args := [.Name "left" (p 10)]) (keywords := []) (pos := p 11)]) (keywords := []) (pos := p 12)]) (keywords := []) (pos := p 13)
def mixIter (p : Nat → Pos) : Expr := .Call (func := .Name "range" (p 15)) (args := [.Call (func := .Name "len" (p 16)) (args := [.Name "left" (p 17)]) (keywords := []) (pos := p 18)]) (keywords := []) (pos := p 19)
def mixBody (p : Nat → Pos) : List Stmt := [mixSet p, .Return (some (.ListComp (mixElt p) [⟨.Name "k" (p 14), mixIter p, [], 0⟩] mixScopeC (p 20))) (p 21)]
def mN : List Str := ["stream", "some", "left", "k"]
def mG : GC := ⟨[("_law_below", 0)], [], [], [], []⟩
def mC : CC := ⟨mN, mixScope, fun _ => true, false⟩
def mCb : CC := ⟨mN, relS mixScopeC mixScope, fun x => mixScopeC.names.lookup x == some .cell, false⟩
def pf1 : PF := fun k ds Q _ => k = 0 ∧ mBelow ds Q
def pc0 : PC := ⟨fun _ _ _ _ => False, fun _ _ _ => False⟩
def cf1 : Nat → Co := fun k => if k = 0 then Co.of 1 else Co.one
theorem pf1_m : PFM pf1 pf1 := fun k ds Q Q' E E' hQ hE ⟨h1, h2⟩ => ⟨h1, mBelow_mono hQ h2⟩
theorem pc0_m : PCM pc0 pc0 := ⟨fun _ _ _ _ _ _ _ _ h => h.elim, fun _ _ _ h => h⟩
theorem RepL.erase {P : Par} {W : Addr → Prop} {H : Hp} : ∀ {ds : List D} {vs : List V} (k : Nat), RepL P W H ds vs → RepL P W H (ds.eraseIdx k) (vs.eraseIdx k)
  | [], vs, k, h => by
    rw [RepL.nil_iff.mp h]
    exact RepL.nil_iff.mpr rfl
  | d :: ds, vs, 0, h => by
    obtain ⟨x, r, rfl, h1, h2⟩ := RepL.cons_iff.mp h
    exact h2
  | d :: ds, vs, k + 1, h => by
    obtain ⟨x, r, rfl, h1, h2⟩ := RepL.cons_iff.mp h
    exact RepL.mk h1 (RepL.erase k h2)
theorem perm_erase {α : Type} : ∀ {l : List α} {j : Nat} {d : α}, l[j]? = some d → (d :: l.eraseIdx j).Perm l
  | [], j, d, h => by simp at h
  | x :: r, 0, d, h => by
    simp at h
    subst h
    exact List.Perm.refl _
  | x :: r, j + 1, d, h => by
    have ih := perm_erase (l := r) (j := j) (d := d) (by simpa using h)
    rw [List.eraseIdx_cons_succ]
    exact (List.Perm.swap x d _).trans (ih.cons x)
theorem seqIx {r : Int} {n : Nat} (h0 : 0 ≤ r) (h1 : r < n) : seqIndex? r n = some r.toNat := by
  have h : ¬ r < 0 := by omega
  simp [seqIndex?, h, h0, h1]
section
variable {F : Fx} {n : Nat} {X : Cx} {p : Nat → Pos}
/-- left.pop(_law_below(stream, len(left))) -/
def teMix (F : Fx) : TE := fun σ H Q => ∃ S W env kk rest, Rel F.P ((Co.of 1).f kk) F.W0 W S H env σ ∧ env[0]? = some (.val .strm) ∧ env[2]? = some (.own (.lst rest)) ∧ rest ≠ [] ∧ rest.length ≤ 100000 ∧
  ∀ (j : Nat) (d : D) (v : V) (H' : Hp) (Lf : Addr), rest[j]? = some d → σ[2]? = some (some (.ref Lf)) → W Lf → Rel F.P kk F.W0 W S H' (env.set 2 (.own (.lst (rest.eraseIdx j)))) σ → (∀ a o, a ≠ Lf → ¬ F.P.T a → H a = some o → H' a = some o) → (∀ a, H a ≠ none → H' a ≠ none) → Rep F.P W H' d v → Q v H'
theorem mix_elt (h0 : F.cf 0 = Co.of 1) (hl : ((p 6).endLine == (p 13).line) = true) (o : ∀ S, XOk mG mCb (noX F S) pf1 pc0 n X) : PE X (mixElt p) (teMix F) := by
  have hG : ∀ x ∈ bltNames, mG.fns.lookup x = none := by decide
  refine ⟨fun pins s σ H Q I ⟨S, W, env, kk, rest, rel, e0, e2, hne, hlen, hq⟩ => ?_⟩
  have ob := o S
  have hc : cE mG mCb 10 (.Call (func := .Name "_law_below" (p 7)) (args := [.Name "stream" (p 8), .Call (func := .Name "len" (p 9)) (args := [.Name "left" (p 10)]) (keywords := []) (pos := p 11)]) (keywords := []) (pos := p 12)) = some (.call 0 (.cons (.slot 0) (.cons (.bi .len (.cons (.slot 2) .nil)) .nil))) := rfl
  have hcall := (all_e (pf := pf1) (pc := pc0) (n := n) hG 10).e ob _ _ hc
  have hx : cName mCb "left" = some 2 := rfl
  have pe := pe_bm (cpos := p 13) (apos := p 6) PySem.F.plainAttrs_list PySem.F.slot_list_pop PySem.F.type_list_pop mt_popAt (var_facts (p := p 5) ob hx) (pa_cons hcall pa_nil rfl) rfl (few_of rfl (by simp)) hl rfl rfl
  refine pe.run pins s σ H Q I ?_
  obtain ⟨Lf, hs2, wL, nL, xs, hxs, hz, rl⟩ := rel.own 2 _ e2
  refine ⟨.ref Lf, hs2, .inl ⟨rfl, xs, .inl (.inl hxs)⟩, ?_⟩
  refine ⟨W, env, kk, by
    have e : coE (noX F S).cf (.call 0 (.cons (.slot 0) (.cons (.bi .len (.cons (.slot 2) .nil)) .nil))) = F.cf 0 := by
      show (Co.one.comp ((Co.one.comp Co.one).comp Co.one)).comp (F.cf 0) = F.cf 0
      rw [h0]
      rfl
    rw [e, h0]
    exact rel, ?_⟩
  unfold wE wEs
  unfold wE
  rw [e0]
  unfold wEs
  unfold wE wBs wBs bor
  simp only [e2]
  unfold biD wEs
  simp only
  have hpos : 0 < rest.length := List.length_pos_iff.mpr hne
  refine ⟨rfl, rest.length, rfl, by omega, by omega, fun r r0 r1 v H' e rv _ => ?_⟩
  have ev := Rep.int.mp rv
  subst ev
  have rel1 := rel.ext e
  have h1 : H' Lf = some (.lst xs) := e.keep Lf _ nL.1 hxs
  have rl1 := rl.keep rel e
  have hlt : r.toNat < rest.length := by omega
  obtain ⟨v, hv, rd⟩ := rl1.get (List.getElem?_eq_getElem hlt)
  have hxl : xs.length = rest.length := rl.len.symm
  refine ⟨Lf, xs, r, r.toNat, v, rfl, rfl, h1, by omega, by omega, seqIx r0 (by rw [hxl]; exact r1), hv, ?_⟩
  have hw := Rel.write (F := { F with H0 := S }) (H := H') h1 (fun _ z => nomatch z) (ob := .lst (xs.eraseIdx r.toNat)) (fun _ z => nomatch z) rel1 e2 hs2 nL wL (d' := .lst (rest.eraseIdx r.toNat)) ⟨_, upd_same, by
    have := List.length_eraseIdx_le xs r.toNat
    omega, RepL.frame (frW wL) (fun a h => .inl h) _ _ (rl1.erase r.toNat)⟩
  refine hq r.toNat _ v _ Lf (List.getElem?_eq_getElem hlt) hs2 wL hw (fun a ob ne nT h => ?_) (fun a ha => ?_) (Rep.frame (frW wL) (fun a h => .inl h) _ _ rd)
  · rw [upd_ne ne]
    exact e.keep a ob nT h
  · exact dom_upd a (e.dom a ha)
/-- all parts of it -/
theorem mix_run {J : It} {W : Addr → Prop} {H1 : Hp} {σ : L2.St} {Q : VK} {xs ks : List D} {kx : Nat} {e1 : Sl} {env : DEnv} (henv : env = [.val .strm, e1, .own (.lst xs), .un]) (hks : ks.length = xs.length) (hlen : xs.length ≤ 100000) (rel : Rel F.P (xs.length + kx) F.W0 W F.H0 H1 env σ)
    (src : Src F.P W W H1 J ks) (hq : ∀ (acc : List D) accV L H' env' W' σ', acc.Perm xs → Rel F.P kx F.W0 W' F.H0 H' env' σ' → H1 L = none → H' L = some (.lst accV) → ¬ F.W0 L → accV.length ≤ sizeLine → RepL F.P F.W0 H' acc accV → Q (.ref L) H') :
    ∀ L, H1 L = none → ∃ Wt : Nat → Nat → Hp → Prop, (∃ m, Wt 0 m (upd H1 L (.lst []))) ∧ ∀ i m H, Wt i m H →
      (J.stop i H ∧ Q (.ref L) H) ∨ (J.go i H ∧ ∃ Nx : Hp → Prop, (∀ H', Nx H' → ∃ m', m' < m ∧ Wt (i + 1) m' H') ∧ ∀ v H', J.yld i H v H' → gE F (.nm 3) v (wipe σ [3]) H' fun σ2 H2 => wipe σ2 [3] = wipe σ [3] ∧ tYes σ2 H2 fun b H3 =>
        if b = true then teMix F σ2 H3 fun y H4 => ∃ acc, H4 L = some (.lst acc) ∧ acc.length < sizeLine ∧ Nx (upd H4 L (.lst (acc ++ [y]))) else Nx H3) := by
  subst henv
  intro L hL
  have nW : ¬ W L := rel.newW hL
  have h0L : New F.P F.H0 L := rel.newN hL
  have nT : ¬ F.P.T L := h0L.1
  obtain ⟨Lf, hsf, wLf, nLf, _⟩ := rel.own 2 _ rfl
  have nLL : Lf ≠ L := fun z => nW (z ▸ wLf)
  have hσ3 : ∀ x, (wipe (σ.set 3 x) [3]) = wipe σ [3] := fun x => by
    unfold wipe wipe
    rw [List.set_set]
  have hw2 : (wipe σ [3])[2]? = some (some (.ref Lf)) := by rw [wipe_out (by decide)]; exact hsf
  -- the walk's state
  let S : Nat → Nat → Hp → Prop := fun i m H => m = xs.length - i ∧ i ≤ xs.length ∧ ∃ acc accV rest, (acc ++ rest).Perm xs ∧ acc.length = i ∧ Rel F.P (rest.length + kx) F.W0 (fun a => W a ∨ a = L) F.H0 H [.val .strm, e1, .own (.lst rest), .un] (wipe σ [3]) ∧ Keep W H1 H ∧ (∀ a, H1 a ≠ none → H a ≠ none) ∧
    H L = some (.lst accV) ∧ accV.length = i ∧ RepL F.P (fun a => W a ∨ a = L) H acc accV
  have kp0 : Keep W H1 (upd H1 L (.lst [])) := fun a o _ h => by rw [upd_ne (ne_of_none h hL)]; exact h
  refine ⟨S, ⟨xs.length, by simp, Nat.zero_le _, [], [], xs, List.Perm.refl _, rfl, (rel.wipe [3]).more hL (rel.extNew hL) ⟨_, upd_same, fun _ z => nomatch z⟩, kp0, fun a h => dom_upd a h, upd_same, rfl, RepL.nil_iff.mpr rfl⟩, ?_⟩
  rintro i m H ⟨rfl, hi, acc, accV, rest, hperm, hai, relH, kp, dm, hLv, hlen2, racc⟩
  have hrl : rest.length = xs.length - i := by
    have := hperm.length_eq
    rw [List.length_append] at this
    omega
  by_cases hlt : i < xs.length
  · have hk : ∃ d, ks[i]? = some d := ⟨ks[i]'(by rw [hks]; exact hlt), List.getElem?_eq_getElem _⟩
    obtain ⟨kd, hkd⟩ := hk
    obtain ⟨go, yld⟩ := src.turn i kd H hkd kp
    refine .inr ⟨go, fun H' => S (i + 1) (xs.length - (i + 1)) H', fun H' s => ⟨_, by omega, s⟩, fun v H' hy => ?_⟩
    obtain ⟨hH', hrep⟩ := yld v H' hy
    have eH' : Ext F.P (rest.length + kx) H H' := by
      rcases hH' with e | ⟨q, ob, hp, e⟩
      · rw [e]; exact Ext.refl relH.strm
      · rw [e]; exact relH.extNew' hp
    have frH : Fr W H1 H := fun a u nn ok hh => by
      have k : ∀ o, H1 a = some o → H a = some o := fun o q => kp a o nn q
      cases u <;> first
        | exact k _ hh
        | (rcases hh with hh | ⟨w, hh⟩
           · exact .inl (k _ hh)
           · exact .inr ⟨w, k _ hh⟩)
    have rv : Rep F.P (fun a => W a ∨ a = L) H' kd v := hrep _ frH fun a ha => ha.elim (fun w => ⟨.inl w, dm a (rel.dom a w)⟩) fun e => ⟨.inr (e ▸ hL), by rw [e, hLv]; exact fun z => nomatch z⟩
    have relH' := relH.ext eH'
    refine ⟨F.H0, _, [.val .strm, e1, .own (.lst rest), .un], _, kd, [.val .strm, e1, .own (.lst rest), .val kd], relH', rv, rfl, fun σ2 rel2 s2 => ⟨?_, ?_⟩⟩
    · have := s2.wipe
      rw [show ownOfT (.nm 3) = [3] from rfl] at this
      rw [this]
      apply List.ext_getElem?
      intro jj
      by_cases hjj : jj ∈ [3]
      · rw [wipe_in hjj, wipe_in hjj, wipe_length]
      · rw [wipe_out hjj]
    · have h2 : σ2[2]? = some (some (.ref Lf)) := by rw [s2.2 2 (by decide)]; exact hw2
      unfold tYes
      simp only [if_true]
      have hr0 : rest ≠ [] := fun z => by
        rw [z] at hrl
        simp at hrl
        omega
      refine ⟨F.H0, _, _, (rest.length - 1) + kx, rest, rel2.le (by show 1 + ((rest.length - 1) + kx) ≤ rest.length + kx; omega), rfl, rfl, hr0, by omega, fun j d v' H4 Lf' hj hs' wf relw k4 d4 r4 => ?_⟩
      have : Lf' = Lf := by
        rw [h2] at hs'
        cases hs'
        rfl
      subst this
      have hL4 : H4 L = some (.lst accV) := k4 L _ (Ne.symm nLL) nT (eH'.keep L _ nT hLv)
      refine ⟨accV, hL4, by rw [hlen2, sizeLine_eq]; omega, ?_⟩
      have hjl : j < rest.length := (List.getElem?_eq_some_iff.mp hj).1
      have hslot : ∀ (i' : Nat) (d' : D), [Sl.val .strm, e1, .own (.lst (rest.eraseIdx j)), .un][i']? = some (.own d') → (wipe σ [3])[i']? ≠ some (some (.ref L)) := fun i' d' h z => by
        have hx : ∃ a, (wipe σ [3])[i']? = some (some (.ref a)) ∧ W a := by
          match i', h with
          | 0, h => simp at h
          | 1, h =>
            have h : e1 = .own d' := by simpa using h
            obtain ⟨a, ha, wa, _, _⟩ := rel.own 1 d' (by rw [← h]; rfl)
            exact ⟨a, by rw [wipe_out (by decide)]; exact ha, wa⟩
          | 2, h => exact ⟨Lf', hw2, wLf⟩
          | 3, h => simp at h
          | (i' + 4), h => simp at h
        obtain ⟨a, ha, wa⟩ := hx
        rw [ha] at z
        cases z
        exact nW wa
      -- the name k is wiped again
      have relw2 := (Rel.wipe relw [3])
      have hwe : wipeD ((([Sl.val .strm, e1, .own (.lst rest), .val kd]).set 2 (.own (.lst (rest.eraseIdx j))))) [3] = [Sl.val .strm, e1, .own (.lst (rest.eraseIdx j)), .un] := rfl
      have hws : wipe σ2 [3] = wipe σ [3] := by
        have := s2.wipe
        rw [show ownOfT (.nm 3) = [3] from rfl] at this
        rw [this]
        apply List.ext_getElem?
        intro jj
        by_cases hjj : jj ∈ [3]
        · rw [wipe_in hjj, wipe_in hjj, wipe_length]
        · rw [wipe_out hjj]
      rw [hws] at relw2
      have relw3 : Rel F.P (rest.length - 1 + kx) F.W0 (fun a => W a ∨ a = L) F.H0 H4 [Sl.val .strm, e1, .own (.lst (rest.eraseIdx j)), .un] (wipe σ [3]) := relw2
      have relp := relw3.poke (L := L) (o := .lst (accV ++ [v'])) hL4 (fun _ z => nomatch z) (fun _ z => nomatch z) (.inr rfl) h0L hslot
      have fr3 : Fr (fun a => W a ∨ a = L) H4 (upd H4 L (.lst (accV ++ [v']))) := frW (.inr rfl)
      have fr1 : Fr (fun a => W a ∨ a = L) H H4 := fun a u nn ok hh => by
        have n1 : ¬ F.P.T a := fun z => nn (.inl (rel.w0 a (rel.tw a z)))
        have n2 : a ≠ Lf' := fun z => nn (.inl (z ▸ wLf))
        have k : ∀ o, H a = some o → H4 a = some o := fun o q => k4 a o n2 n1 (eH'.keep a o n1 q)
        cases u <;> first
          | exact k _ hh
          | (rcases hh with hh | ⟨w, hh⟩
             · exact .inl (k _ hh)
             · exact .inr ⟨w, k _ hh⟩)
      have racc4 := RepL.frame fr1 (W' := fun a => W a ∨ a = L) (fun a h => .inl h) _ _ racc
      refine ⟨rfl, hlt, acc ++ [d], accV ++ [v'], rest.eraseIdx j, ?_, by rw [List.length_append, hai]; rfl, ?_, fun a ob nn h => ?_, fun a h => dom_upd a (d4 a (eH'.dom a (dm a h))), upd_same, by rw [List.length_append, hlen2]; rfl, ?_⟩
      · refine List.Perm.trans ?_ hperm
        rw [List.append_assoc]
        refine List.Perm.append_left acc ?_
        exact perm_erase hj
      · rw [List.length_eraseIdx_of_lt hjl]
        exact relp
      · have nL2 : a ≠ L := fun z => by rw [z, hL] at h; cases h
        rw [upd_ne nL2]
        have n1 : ¬ F.P.T a := fun z => nn (rel.w0 a (rel.tw a z))
        exact k4 a ob (fun z => nn (z ▸ wLf)) n1 (eH'.keep a ob n1 (kp a ob nn h))
      · exact RepL.frame fr3 (fun a h => .inl h) _ _ (RepL.app racc4 (RepL.one r4))
  · have ei : i = xs.length := by omega
    have hst := src.stop H kp
    rw [hks, ← ei] at hst
    refine .inl ⟨hst, ?_⟩
    have hr0 : rest = [] := by
      cases rest with
      | nil => rfl
      | cons x r => simp at hrl; omega
    subst hr0
    rw [List.append_nil] at hperm
    refine hq acc accV L H _ _ _ hperm (relH.le (Nat.le_add_left _ _)) hL hLv (fun z => nW (rel.w0 L z)) (by rw [hlen2, sizeLine_eq]; omega) ?_
    exact RepL.frame (Fr.refl _ _) (fun a h => .inl (.inl (rel.w0 a h))) _ _ racc
end
/-- mixed: any order there may be -/
def mMixed (ds : List D) (Q : DK) : Prop := ∃ d xs, ds = [.strm, d] ∧ (d = .lst xs ∨ d = .tup xs) ∧ xs.length ≤ 100000 ∧ ∀ ys : List D, ys.Perm xs → Q (.lst ys)
theorem mMixed_mono {ds : List D} {Q Q' : DK} (h : ∀ d, Q d → Q' d) (m : mMixed ds Q) : mMixed ds Q' := by
  obtain ⟨d, xs, e, h1, h2, h3⟩ := m
  exact ⟨d, xs, e, h1, h2, fun ys hp => h _ (h3 ys hp)⟩
def isMixSet : IS := .asg [] 2 (.bi .list (.cons (.slot 1) .nil))
theorem mixed_fn {P : Par} {pr : Program} {w : World} {mg : Str → Option Value} {base : Heap} {x qual : Str} {params : Arguments} {f fb : Addr} {fd fdb : FuncData} {k : Nat} {p : Nat → Pos} (hF : FunD P.K x qual params (mixBody p) mixScope [] [] f fd)
    (hl : ((p 6).endLine == (p 13).line) = true) (hblt : ∀ x ∈ bltNames, mg x = none) (hm : mg "_law_below" = some (.ref fb)) (hk : PySem.W.keepIn P.K (.ref fb) = true) (hbd : L2.Binds P.K fdb ["stream", "many"] [])
    (hbel : FnOk pr w P.K mg base (L2.CX pr w) k fb fdb ["stream", "many"] (spD P (Co.of 1) fun ds Q _ => mBelow ds Q)) : FnOk pr w P.K mg base (L2.CX pr w) (k + 1) f fd ["stream", "some"] (spD P (Co.of 100000) fun ds Q _ => mMixed ds Q) := by
  have hG : ∀ x ∈ bltNames, mG.fns.lookup x = none := by decide
  have S : FnScope mN ["stream", "some"] mixScope := ⟨rfl, rfl, rfl, by decide, rfl, by decide, by decide⟩
  refine hF.ok S (fun vs H Q E ⟨W, ds, kx, r, _, _, _, d, xs, e, _⟩ => by rw [← r.len, e]; rfl) fun cdv A outer s H vs Q E hr ⟨W, ds, kx, r, wk, tw, hs, d, xs, e, hd, hx, hq⟩ => ?_
  subst e
  let X := cxOf (L2.CX pr w) pr w P.K mg base mN qual mixScope f cdv A outer s H E
  let Fc : Fx := ⟨P, W, [((fun _ => False), H)], fun cls d _ H' => E cls d H', cf1⟩
  have o : XOk mG mC Fc pf1 pc0 k X :=
    { N := rfl, nd := S.nd, sc := rfl, fn := rfl, K := rfl, calm := rfl, room := hr, tk := takes_of rfl rfl rfl rfl
      fns := fun g j hg => by
        have hg : ([("_law_below", 0)] : List (Str × Nat)).lookup g = some j := hg
        rw [List.lookup_cons] at hg
        split at hg
        · rename_i hgq
          cases hg
          have hgq := eq_of_beq hgq
          subst hgq
          refine ⟨fb, fdb, _, hm, hk, ?_, hbd, fun e he => by cases he⟩
          exact hbel.imp fun vs H Q E ⟨W, ds, kk, a1, a2, a3, a4, _, a6⟩ => ⟨W, ds, kk, a1, a2, a3, a4, a6⟩
        · cases hg
      cns := fun x d h => by cases h
      blt := fun y hy _ => hblt y hy
      mf := pf1_m, mc := pc0_m, clo := ⟨fun _ _ _ _ _ _ _ _ h => h.elim⟩, lam := fun z => nomatch z }
  have h1 := (all_s (pf := pf1) (pc := pc0) (n := k) hG 10).s o ⟨passes_of rfl, rfl, rfl⟩ (fun _ _ g j h _ => by cases h) (fun g j h _ => by cases h) (mixSet p) isMixSet rfl rfl
  have hsrc : cSrc mG mC 10 (mixIter p) = some (.rng (.cn (.int 0)) (.bi .len (.cons (.slot 2) .nil)) 1) := rfl
  have hi := (all_e (pf := pf1) (pc := pc0) (n := k) hG 10).s o (.Name "k" (p 14)) (mixIter p) false _ hsrc rfl
  have blk : BlkOk X.N X.env.scope mixScopeC [("k", 3)] := by
    rw [o.N, o.sc]
    exact blkOk_by (by decide +kernel)
  have g : ∀ (s : Shared) (H : Hp) (C : Addr) (cl : List (Str × Addr)) (fp : List Addr), PG (X.blk s H mixScopeC (compEnvC mixScopeC cl C X.env) fp) (.Name "k" (p 14)) (gE Fc (.nm 3)) := fun s H C cl fp => ⟨fun pins s' σ H' v u Q I r ⟨H0, hw⟩ => (snd_T (blk_ok o H0) 1 (.Name "k" (p 14)) (.nm 3) rfl).run pins s' σ H' v u Q I r hw⟩
  have w' : ∀ (s : Shared) (H : Hp) (C : Addr) (cl : List (Str × Addr)) (fp : List Addr), PE (X.blk s H mixScopeC (compEnvC mixScopeC cl C X.env) fp) (mixElt p) (teMix Fc) := fun s H C cl fp => mix_elt rfl hl fun S => blk_ok o S
  have hlc := pe_lc (pos := p 20) o.calm o.nd hi blk g (fun _ _ _ _ _ => pts_nil) w' (fun _ => rfl)
  refine ⟨_, pss_cons h1 (pss_one (ps_ret hlc)), ?_⟩
  have rel0 := rel_start (N := mN) (ns := 4) rfl r wk tw hs
  have rel0 := rel0.le (show 100000 + kx ≤ (Co.of 100000).f kx from Nat.le_refl _)
  have rel0 := rel0.le (show xs.length + kx ≤ 100000 + kx by omega)
  refine ⟨W, [.val .strm, .val d, .un, .un], ⟨fun env => env = [.val .strm, .val d, .own (.lst xs), .un], fun _ => False, fun _ => False, fun _ => False, fun _ _ => False⟩, xs.length + kx, rel0, ⟨?_, fun _ _ _ _ h => h.elim, fun _ _ _ _ h => h.elim, fun _ _ _ _ _ _ h => h.elim, fun _ _ _ _ _ _ _ h => h.elim⟩, ?_⟩
  · rintro env W1 σ1 H1 rfl rel1
    refine ⟨W1, _, xs.length + kx, rel1, ?_⟩
    simp only [wSrc, bor, wE, wBs, biD, onInt, List.getElem?_cons_succ, List.getElem?_cons_zero]
    refine ⟨.inl True.intro, ⟨by decide, by decide⟩, ⟨by omega, by omega⟩, by omega, fun J H2 e2 src => ?_⟩
    have rel2 := rel1.ext e2
    have hks : (rangeD 0 (xs.length : Nat) 1).length = xs.length := by
      unfold rangeD
      rw [List.length_map, List.length_range, rangeSize_nat, Int.toNat_natCast]
      omega
    refine mix_run (F := Fc) rfl hks hx rel2 src fun acc accV L H' env' W' σ' hp rel' hL hL' nWL hz racc => ?_
    refine hq acc hp (.ref L) H' (rel'.out (List.mem_singleton_self _)) ?_
    exact Rep.lst.mpr ⟨L, accV, rfl, nWL, hL', hz, racc⟩
  · simp only [isMixSet, wS, shr, bor, wE, wBs, List.getElem?_cons_succ, List.getElem?_cons_zero]
    rcases hd with rfl | rfl
    · rfl
    · rfl
end Dl
namespace Dl
open PySem PySem.Spec PyProof.Rows L2
/-! ### the package's errors: class E(..): def __init__(self, f): self.f = f -/
def clsB (K : PySem.W.Frag) (C : Addr) : Bool := match K.lookup C with
  | some ⟨.type "type", _, .cls cd, sl⟩ => (match cd.mro, sl.toList with
    | .ref C' :: bm, [_, _, _, _, some (.builtin n), _] => C' == C && n == "ValueError.__new__" && cd.hasDict && !cd.hasDel && PySem.HandSPX.refsVE bm
    | _, _ => false)
  | _ => false
theorem clsB_ok {K : PySem.W.Frag} {C : Addr} (h : clsB K C = true) : ∃ nm q N bs bm sn sub ab col dd k0 k1 k2 k3 k5, K.lookup C = some (excClassObj nm q C N bs bm true sn sub ab col dd k0 k1 k2 k3 k5 "ValueError.__new__") ∧ PySem.HandSPX.refsVE bm = true := by
  unfold clsB at h
  split at h
  · rename_i dd cd sl ho
    split at h
    · rename_i C' bm k0 k1 k2 k3 n k5 hm hs
      simp only [Bool.and_eq_true, beq_iff_eq, Bool.not_eq_true'] at h
      obtain ⟨⟨⟨⟨rfl, rfl⟩, hd⟩, hdel⟩, hr⟩ := h
      obtain ⟨nm, bs, mro, ns, qn, hasDict, sn, sb, ab, col, del⟩ := cd
      dsimp only at hm hd hdel
      subst hm hd hdel
      refine ⟨nm, qn, ns, bs, bm, sn, sb, ab, col, dd, k0, k1, k2, k3, k5, ?_, hr⟩
      rw [ho]
      congr 2
      exact Array.toList_inj.mp hs
    · cases h
  · cases h
def oexB (K : PySem.W.Frag) (C : Addr) : Bool := clsB K C && decide (PySem.W.findIn K (.ref C) "__setattr__" = some (some (.builtin "object.__setattr__"))) && decide (PySem.W.subIn K (.ref C) (.type "BaseException") = some true) && decide (PySem.W.typeIn K (.ref C) = some (.type "type")) && PySem.W.keepIn K (.ref C)
theorem oexB_ok {K : PySem.W.Frag} {C : Addr} (h : oexB K C = true) : OexC K C := by
  unfold oexB at h
  simp only [Bool.and_eq_true, decide_eq_true_eq] at h
  obtain ⟨⟨⟨⟨h1, h2⟩, h3⟩, h4⟩, h5⟩ := h
  exact ⟨clsB_ok h1, h2, h3, h4, h5⟩
def initBody (fld : Str) (p : Nat → Pos) : List Stmt := [.Assign [.Attribute (.Name "self" (p 0)) fld (p 1)] (.Name fld (p 2)) (p 3)]
def initScope (fld : Str) : Scope := { kind := .function, names := [("self", .local), (fld, .local)], isGenerator := false, isCoroutine := false, more := [] }
def spInit (C : Addr) (fld : Str) : Sp := fun vs H Q _ => ∃ a v, vs = [.ref a, v] ∧ H a = some (exo a C none) ∧ ∀ dx, H dx = none → dx ≠ a → Q .non (upd (upd H dx (exd dx [(fld, v)])) a (exo a C (some dx)))
theorem init_ok {P : Program} {w : World} {K : PySem.W.Frag} {mg : Str → Option Value} {base : Heap} {C fI : Addr} {fld qual x : Str} {params : Arguments} {fd : FuncData} {p : Nat → Pos} {k : Nat} (hF : FunD K x qual params (initBody fld p) (initScope fld) [] [] fI fd) (T : OexC K C)
    (hno : PySem.W.findIn K (.ref C) fld = some none) (hs : fld ≠ "self") (h1 : (fld == ("__debug__" : Str)) = false) (h2 : (fld == ("__classdict__" : Str)) = false) : FnOk P w K mg base CX0 (k + 1) fI fd ["self", fld] (spInit C fld) := by
  have hs' : (fld == ("self" : Str)) = false := by simpa using hs
  have look : (initScope fld).names.lookup fld = some .local := by
    show List.lookup fld [(("self" : Str), NameKind.local), (fld, NameKind.local)] = _
    rw [List.lookup_cons, hs', List.lookup_cons, beq_self_eq_true]
  have S : FnScope ["self", fld] ["self", fld] (initScope fld) := ⟨rfl, rfl, rfl, by simp [Ne.symm hs], rfl, fun y hy => by
    rcases List.mem_cons.mp hy with rfl | hy
    · exact .inl rfl
    · rw [List.mem_singleton.mp hy]
      exact .inl look, fun y hy => by
    rcases List.mem_cons.mp hy with rfl | hy
    · exact fun z => nomatch z
    · rw [List.mem_singleton.mp hy]
      exact fun z => nomatch z⟩
  refine hF.ok S (fun vs H Q E ⟨a, v, e, _⟩ => by rw [e]; rfl) fun cdv A outer s H vs Q E hr ⟨a, v, e, ha, hq⟩ => ?_
  subst e
  let X := cxOf CX0 P w K mg base ["self", fld] qual (initScope fld) fI cdv A outer s H E
  have v0 : PE X (.Name "self" (p 0)) (tVar 0) := pe_var rfl (.inl rfl) (by decide) (by decide)
  have v1 : PE X (.Name fld (p 2)) (tVar 1) := pe_var rfl (.inl look) h1 h2
  refine ⟨_, pss_one (ps_ost v0 v1 (swaps_not rfl)), ?_⟩
  exact ⟨v, rfl, .ref a, rfl, a, C, rfl, T, hno, .inl ⟨ha, fun dx hn hne => hq dx hn hne⟩⟩
theorem exc_use {P : Par} {X : Cx} {k : Nat} {g fld : Str} {C fI : Addr} {fd : FuncData} {n : Nat} (he : P.exc k = some (C, fld)) (T : OexC X.K C) (iC : PySem.W.findIn X.K (.ref C) "__init__" = some (some (.ref fI))) (tI : PySem.W.typeIn X.K (.ref fI) = some (.type "function"))
    (F1 : FnOk X.prog X.w X.K X.mg X.base CX0 n fI fd ["self", fld] (spInit C fld)) (hr : Room (n + 1) X.A) (hb : L2.Binds X.K fd ["self", fld] []) (hg : Gl X g) (hm : X.mg g = some (.ref C)) (hdb : (g == ("__debug__" : Str)) = false) : ExcUse P X k g := by
  refine ⟨C, fld, he, fun {e te p pos} hpe hs pins s σ H Q I hq => ?_⟩
  have hpe' : PE X e (fun σ H Q => ∃ K : VK, te σ H K ∧ ∀ v H1, K v H1 → Q v H1) := ⟨fun pins s σ H Q I ⟨K, h, m⟩ => thn (hpe.run pins s σ H K I h) fun u s' ⟨v, H1, J, r, q⟩ => ⟨v, H1, J, r, m v H1 q⟩⟩
  have pm := pmk_oex (pos := pos) (p := p) T iC tI F1 hr hb .nil pass0 hg hm (pa_cons hpe' pa_nil (star_of hs)) hdb (star_of hs) rfl
  refine pm pins s σ H Q I ?_
  have key : ∀ v H1, (∀ dx H2, (∀ a o, H1 a = some o → H2 a = some o) → H2 dx = some (.xd [(fld, v)]) → Q (.ref C) (some dx) H2) → ([v] : List V).length ≤ 1000 ∧ ∀ a, H1 a = none → spInit C fld (.ref a :: ([v] ++ [])) (upd H1 a (exo a C none))
      (fun v H2 => v = .non ∧ ∃ (d : Addr) (fs : List (Str × V)), H2 a = some (exo a C (some d)) ∧ H2 d = some (exd d fs) ∧ H1 d = none ∧ Q (.ref C) (some d) (upd (del H2 a) d (.xd fs))) (fun _ _ _ => False) := fun v H1 hv => by
    refine ⟨show 1 ≤ 1000 by decide, fun a ha => ⟨a, v, rfl, upd_same, fun dx hdx hne => ⟨rfl, dx, _, upd_same, by rw [upd_ne hne, upd_same], ?_, ?_⟩⟩⟩
    · rw [upd_ne hne] at hdx
      exact hdx
    · rw [upd_ne hne] at hdx
      refine hv dx _ (fun b o e => ?_) upd_same
      have n1 : b ≠ dx := ne_of_none e hdx
      have n2 : b ≠ a := ne_of_none e ha
      rw [upd_ne n1, del_ne n2, upd_ne n2, upd_ne n1, upd_ne n2]
      exact e
  exact ⟨_, hq, key⟩
end Dl
namespace Dl
open PySem PySem.Spec PyProof.Rows L2 LamX
/-! ### the stream's start -/
def startBody (p : Nat → Pos) : List Stmt := [.Return (value := some (.List (elts := [.Call (func := .Name "list" (p 0)) (args := [.Name "script" (p 1)]) (keywords := []) (pos := p 2), .Constant (.int 0) 0 (p 3), .Constant (.int 0) 0 (p 4), .Constant (.int 43) 0 (p 5)]) (pos := p 6))) (pos := p 7)]
def startScope : Scope := { kind := PySem.ScopeKind.function, names := [(PySem.Str.ofString "script", PySem.NameKind.local), (PySem.Str.ofString "list", PySem.NameKind.globalImplicit)], isGenerator := false, isCoroutine := false, more := [] }
def spStart (K : PySem.W.Frag) : Sp := fun vs H Q _ => ∃ (a : Addr) (ns : List Int), vs = [.ref a] ∧ SqL K H a (ns.map V.int) ∧ ∀ La T1, H La = none → T1 ≠ La → H T1 = none → Q (.ref T1) (upd (upd H La (.lst (ns.map V.int))) T1 (.lst [.ref La, .int 0, .int 0, .int 43]))
theorem start_fn {pr : Program} {w : World} {K : PySem.W.Frag} {mg : Str → Option Value} {base : Heap} {x qual : Str} {params : Arguments} {f : Addr} {fd : FuncData} {k : Nat} {p : Nat → Pos} (hF : FunD K x qual params (startBody p) startScope [] [] f fd) (hm : mg "list" = none) :
    FnOk pr w K mg base CX0 (k + 1) f fd ["script"] (spStart K) := by
  have S : FnScope ["script"] ["script"] startScope := ⟨rfl, rfl, rfl, by decide, rfl, by decide, by decide⟩
  refine hF.ok S (fun vs H Q E ⟨a, ns, e, _⟩ => by rw [e]; rfl) fun cdv A outer s H vs Q E hr ⟨a, ns, e, hs, hq⟩ => ?_
  subst e
  let X := cxOf CX0 pr w K mg base ["script"] qual startScope f cdv A outer s H E
  have v0 : PE X (.Name "script" (p 1)) (tVar 0) := pe_var rfl (.inl rfl) (by decide) (by decide)
  have hl : PE X _ _ := pe_callTy (X := X) (x := "list") (p := p 0) (pos := p 2) call_list_of rfl hm (by decide +kernel) (pa_cons v0 pa_nil)
  refine ⟨_, pss_one (ps_ret (pos := p 7) (pe_lst (pos := p 6) (pa_cons hl (pa_cons (pe_int (j := 0) (pos := p 3)) (pa_cons (pe_int (j := 0) (pos := p 4)) (pa_cons (pe_int (j := 0) (pos := p 5)) pa_nil)))))), ?_⟩
  refine ⟨_, rfl, a, ns.map V.int, rfl, .inl hs, fun La hLa => ⟨show 4 ≤ sizeLine by decide, fun T1 hT => ?_⟩⟩
  have ne : T1 ≠ La := fun z => by rw [z, upd_same] at hT; cases hT
  rw [upd_ne ne] at hT
  exact hq La T1 hLa ne hT
/-! ### the law's def -/
theorem PSs.any {ι : Type} {X : Cx} {b : List Stmt} {t : ι → TS} (h : ∀ i, PSs X b (t i)) : PSs X b (fun D σ H => ∃ i, t i D σ H) :=
  ⟨fun pins s σ H D I ⟨i, q⟩ => (h i).run pins s σ H D I q⟩
def lokOf (G : GC) (cf : Nat → Co) (lms : Nat → Option ILam) : Nat → LamT → Prop := fun k t => ∃ b, lms k = some ⟨t.fr.length, b⟩ ∧ LamC G t b ∧ (coE cf b).c ≤ (cf lamK).c
/-- the parameters of this law's run -/
def lpOf (K : PySem.W.Frag) (cls : Nat → Option (Addr × List Str)) (exc : Nat → Option (Addr × Str)) (lok : Nat → LamT → Prop) (P' : Addr) (q : Str) (T1 La : Addr) : LP := ⟨K, T1, La, [(P', q)], cls, exc, lok⟩
def lawQ (qual : Str) : Str := (envOfC qual startScope 0 0 .none).qual ++ "<lambda>"
def spLaw (K : PySem.W.Frag) (cs : List (Addr × Addr)) : Sp := fun vs H Q _ => ∃ (a : Addr) (ns : List Int), vs = [.ref a] ∧ ns.length ≤ sizeLine ∧ SqL K H a (ns.map V.int) ∧ (∀ p ∈ cs, H p.2 = some (.tbl #[])) ∧ ∀ H', Q (.bl true) H'
section
variable {pr : Program} {w : World} {K : PySem.W.Frag} {mg : Str → Option Value} {base : Heap} {G : GC} {cf : Nat → Co} {fns : Nat → Option FK} {lms : Nat → Option ILam}
theorem pC_lam {n k j : Nat} {b : IE} (h : (pC fns lms n).lam k j b) : lms k = some ⟨j, b⟩ := by
  cases n with
  | zero => unfold pC at h; exact h
  | succ n => unfold pC at h; exact h
theorem law_fn {cls : Nat → Option (Addr × List Str)} {exc : Nat → Option (Addr × Str)} {x qual : Str} {params : Arguments} {scope : Scope} {f : Addr} {fd : FuncData} {p0 p1 p2 p3 p4 : Pos} {rest : List Stmt} {N : List Str} {fuel n : Nat} {Bd : ISs} {fS : Addr} {fdS : FuncData} {ns : Nat}
    (hF : FunD K x qual params (.Assign [.Name "stream" p0] (.Call (.Name "_law_start" p1) [.Name "script" p2] [] p3) p4 :: rest) scope [] [] f fd)
    (S : FnScope N ["script"] scope) (hN : ∃ N', N = ("script" : Str) :: ("stream" : Str) :: N') (hs0 : scope.names.lookup ("script" : Str) = some .local) (hs1 : scope.names.lookup ("stream" : Str) = some .local ∨ scope.names.lookup ("stream" : Str) = some .cell) (hgS : scope.names.lookup ("_law_start" : Str) = some .globalImplicit)
    (hc : cSs G ⟨N, scope, fun _ => true, true⟩ fuel rest = some Bd) (hok : okSs cf Bd = true) (hco : (coSs cf Bd).c ≤ bigN) (hlc : ∀ k l, lms k = some l → (coE cf l.body).c ≤ (cf lamK).c)
    (TB : TabB base mg (He.codeOf K ("law", none)) (He.tabOf K (He.codeOf K ("law", none)))) (hf : f = He.fAd K ("law", none))
    (hmS : mg "_law_start" = some (.ref fS)) (kpS : PySem.W.keepIn K (.ref fS) = true) (bS : L2.Binds K fdS ["script"] []) (FS : FnOk pr w K mg base CX0 (n + 4) fS fdS ["script"] (spStart K))
    (gl : ∀ T1 La, Glob cf G (lpOf K cls exc (lokOf G cf lms) (He.tabOf K (He.codeOf K ("law", none))) (lawQ qual) T1 La).par pr w mg base fns lms)
    (hns : N.length = ns + 2)
    (hw : wSs (pF fns lms n) (pC fns lms n) Bd (.un :: .val .strm :: List.replicate ns .un) ⟨fun _ => False, fun d => d = .bl true, fun _ => False, fun _ => False, fun _ _ => False⟩) :
    FnOk pr w K mg base (L2.CX pr w) (n + 5) f fd ["script"] (spLaw K [He.cT K ("law", none)]) := by
  obtain ⟨N', rfl⟩ := hN
  obtain ⟨oc, od, dV, kV, doc, pm, an, cdv, ct, osl, rfl, lk, hcd, _, _⟩ := hF.ex
  obtain ⟨cc, rfl⟩ := He.codeIn_ref hcd
  have ec : He.codeOf K ("law", none) = cc := He.codeOf_eq (by rw [← hf]; exact lk) rfl
  have ec2 : (He.cT K ("law", none)).2 = He.tabOf K cc := by rw [← ec]; rfl
  rw [ec] at TB gl
  generalize hP' : He.tabOf K cc = P' at TB gl ec2
  refine ⟨fun vs H Q E ⟨a, ns, e, _⟩ => by rw [e]; rfl, fun A outer s H args us vs Q E hr e0 hb r ⟨a, zs, e, hz, hs, ht, hq⟩ => ?_⟩
  subst e
  refine run_ofS (N := "script" :: "stream" :: N') lk hcd S hr e0 hb r rfl fun hr' => ?_
  let X := cxOf (L2.CX pr w) pr w K mg base ("script" :: "stream" :: N') qual scope f (.ref cc) A outer s H E
  let Pi : Addr × Addr → Par := fun i => (lpOf K cls exc (lokOf G cf lms) P' (lawQ qual) i.1 i.2).par
  let Fi : (Addr × Addr) × Hp → Fx := fun i => ⟨Pi i.1, (Pi i.1).T, [((fun _ => False), i.2)], fun cls d _ H' => E cls d H', cf⟩
  have oi : ∀ i, XOk G ⟨"script" :: "stream" :: N', scope, fun _ => true, true⟩ (Fi i) (pF fns lms n) (pC fns lms n) (n + 4) X := fun i => by
    have g := gl i.1.1 i.1.2
    obtain ⟨ih, ihc⟩ := fn_all g n
    obtain ⟨mf, mc⟩ := pFC_mono (fns := fns) (lms := lms) g.sm n
    exact { N := rfl, nd := S.nd, sc := rfl, fn := rfl, K := rfl, calm := rfl, room := hr', tk := takes_of rfl rfl rfl rfl
            fns := fun g' j hg => by
              obtain ⟨f', fd', ps', a1, a2, a3, a4, a5⟩ := ih g' j hg
              exact ⟨f', fd', ps', a1, a2, a3, a4, a5⟩
            cns := g.cns
            blt := fun y hy _ => g.blt y hy
            mf := mf, mc := mc, clo := ihc
            lam := fun _ => ⟨⟨cc, P', TB, rfl, .inr (.inr ⟨(P', lawQ qual), List.mem_singleton_self _, rfl⟩), fun k H h => h.2 _ (List.mem_singleton_self _), fun k H H1 h kp t => by
                obtain ⟨⟨ns, a, b, c, s⟩, _⟩ := h
                obtain ⟨n1, n2⟩ := s.tb (P', lawQ qual) (List.mem_singleton_self _)
                refine ⟨⟨ns, a, b, c, s.ne, s.tb, kp _ _ (Ne.symm n1) s.h1, kp _ _ (Ne.symm n2) s.h2, s.len, s.a0, s.b0, s.b1, s.c0, s.c1⟩, fun p hp => ?_⟩
                rw [List.mem_singleton.mp hp]
                exact t⟩, fun y => rfl, fun k t b h1 h2 => ⟨b, pC_lam h1, h2, hlc k _ (pC_lam h1)⟩⟩ }
  have hx : ∀ i pn xe g' j, G.cls.lookup g' = some j → isGl ⟨"script" :: "stream" :: N', scope, fun _ => true, true⟩ g' = true → ExcUse (Fi i).P (X.tr pn xe) j g' := fun i pn xe g' j hg hgl => (gl i.1.1 i.1.2).exc g' j hg (X.tr pn xe) rfl rfl rfl rfl rfl rfl (hr'.mono (by omega)) (isGl_ok (oi i) hgl).1
  have hcu : ∀ i g' j, G.cls.lookup g' = some j → isGl ⟨"script" :: "stream" :: N', scope, fun _ => true, true⟩ g' = true → CatchUse G (Fi i).P X j g' := fun i g' j hg _ => ⟨(gl i.1.1 i.1.2).cat g' j hg⟩
  have body := PSs.any fun i => (all_s (gl i.1.1 i.1.2).hG fuel).ss (oi i) ⟨passes_of rfl, rfl, rfl⟩ (hx i) (hcu i) _ _ hc hok
  have v0 : PE X (.Name "script" p2) (tVar 0) := pe_var rfl (.inl hs0) (by decide) (by decide)
  have s1 : PS X _ _ := ps_set (i := 1) (pos' := p0) (pos := p4) S.nd rfl hs1 (pe_call (p := p1) (pos := p3) FS hr' hgS hmS kpS bS .nil pass0 (pa_cons v0 pa_nil))
  refine ⟨_, pss_cons s1 body, ?_⟩
  refine ⟨_, rfl, a, zs, rfl, hs, fun La T1 hLa ne hT => ?_⟩
  let H1 := upd (upd H La (.lst (zs.map V.int))) T1 (.lst [.ref La, .int 0, .int 0, .int 43])
  have hP : H P' = some (.tbl #[]) := by
    have := ht _ (List.mem_singleton_self _)
    rw [ec2] at this
    exact this
  have nP1 : P' ≠ T1 := fun z => by rw [z, hT] at hP; cases hP
  have nP2 : P' ≠ La := fun z => by rw [z, hLa] at hP; cases hP
  have hP1 : H1 P' = some (.tbl #[]) := by show upd (upd H La _) T1 _ P' = _; rw [upd_ne nP1, upd_ne nP2]; exact hP
  have hsok : ∀ k : Nat, k ≤ bigN → (Pi (T1, La)).sok k H1 := fun k hk =>
    ⟨⟨zs, 0, 0, 43, Ne.symm ne, fun p hp => by rw [List.mem_singleton.mp hp]; exact ⟨nP1, nP2⟩, upd_same, by show upd (upd H La _) T1 _ La = _; rw [upd_ne (Ne.symm ne), upd_same], hz, by decide, by decide, by omega, by decide, by decide⟩, fun p hp => by
      rw [List.mem_singleton.mp hp]
      exact ⟨#[], hP1, by first | exact .nil | trivial | decide, fun pos cv e => by first | cases e | (exact nomatch e)⟩⟩
  have tk : ∀ k (b : Addr), k ≤ bigN → (Pi (T1, La)).T b → NE H1 b := fun k b hk hb => (Pi (T1, La)).sokT k H1 b (hsok k hk) hb
  have hlen : ((.un :: .val .strm :: List.replicate ns .un : DEnv)).length = (("script" : Str) :: ("stream" : Str) :: N').length := by
    rw [hns]
    simp
  have σe : (L2.start (("script" : Str) :: ("stream" : Str) :: N') [V.ref a]).set 1 (some (.ref T1)) = some (.ref a) :: some (.ref T1) :: List.replicate N'.length none := by
    unfold L2.start
    simp [List.replicate_succ]
  have rel : Rel (Pi (T1, La)) bigN (Pi (T1, La)).T (Pi (T1, La)).T [((fun _ => False), H1)] H1 (.un :: .val .strm :: List.replicate ns .un) (some (.ref a) :: some (.ref T1) :: List.replicate N'.length none) :=
    { len := by
        have : N'.length = ns := by have := hns; simp at this; omega
        simp [this]
      val := fun i d h => by
        match i with
        | 0 => cases h
        | 1 =>
          cases h
          exact ⟨_, rfl, by unfold Rep; rfl⟩
        | i + 2 =>
          have h : (List.replicate ns Sl.un)[i]? = some (.val d) := h
          rw [List.getElem?_replicate] at h
          split at h <;> cases h
      own := fun i d h => by
        match i with
        | 0 => cases h
        | 1 => cases h
        | i + 2 =>
          have h : (List.replicate ns Sl.un)[i]? = some (.own d) := h
          rw [List.getElem?_replicate] at h
          split at h <;> cases h
      apart := fun i j d d' a h => by
        match i with
        | 0 => cases h
        | 1 => cases h
        | i + 2 =>
          have h : (List.replicate ns Sl.un)[i]? = some (.own d) := h
          rw [List.getElem?_replicate] at h
          split at h <;> cases h
      w0 := fun a h => h
      w00 := fun a h => ⟨_, List.mem_singleton_self _, fun z => z, (tk 0 a (Nat.zero_le _) h).some⟩
      wk := fun a h => tk 0 a (Nat.zero_le _) h
      dom0 := fun s hs a h => by
        rw [List.mem_singleton.mp hs] at h
        exact h
      old := fun s hs a o _ _ h => by
        rw [List.mem_singleton.mp hs] at h
        exact h
      sub := fun s hs a h => .inr (.inr h)
      strm := hsok _ (Nat.le_refl _)
      tw := fun a h => h }
  refine ⟨((T1, La), H1), (Pi (T1, La)).T, _, _, 0, ?_, ?_, hw⟩
  · show Rel (Pi (T1, La)) ((coSs cf Bd).f 0) (Pi (T1, La)).T (Pi (T1, La)).T [((fun _ => False), H1)] H1 _ _
    rw [σe]
    exact rel.le (by rw [Co.eq]; omega)
  · exact ⟨fun env W' σ H' hk => hk.elim, fun env W' σ H' hk => hk.elim, fun env W' σ H' hk => hk.elim, fun d v env W' σ H' hk rel q => by
      rw [hk] at q
      rw [Rep.bl.mp q]
      exact hq H', fun env x W' σ H' cls dd hk => hk.elim⟩
end
end Dl
namespace Dl
open PySem PySem.Spec PyProof.Rows L2 LamX
/-! ### the errors' classes, by name and field -/
abbrev CL : Type := List (Str × Str)
def exOf (K : PySem.W.Frag) (cs : CL) : Nat → Option (Addr × Str) := fun i => (cs[i]?).map fun c => (He.ga K c.1, c.2)
def clsOf (cs : CL) : List (Str × Nat) := cs.zipIdx.map fun c => (c.1.1, c.2)
def fldsOf (cs : CL) : List (Nat × Str) := cs.zipIdx.map fun c => (c.2, c.1.2)
def exB1 (K : PySem.W.Frag) (c : Str × Str) : Bool := oexB K (He.ga K c.1) && xfB K (He.ga K c.1) && decide (PySem.W.findIn K (.ref (He.ga K c.1)) c.2 = some none) && decide (PySem.W.findIn K (.ref (He.ga K c.1)) "__init__" = some (some (.ref (He.ma K (He.ga K c.1) "__init__")))) &&
  decide (PySem.W.typeIn K (.ref (He.ma K (He.ga K c.1) "__init__")) = some (.type "function"))
def exB (cs : CL) (K : PySem.W.Frag) : Bool := cs.all (exB1 K) && cs.zipIdx.all fun p => cs.zipIdx.all fun q => decide (PySem.W.exmOne K (.ref (He.ga K q.1.1)) (.ref (He.ga K p.1.1)) = some (decide (q.2 = p.2)))
theorem clsOf_get {cs : CL} {g : Str} {k : Nat} (h : (clsOf cs).lookup g = some k) : ∃ fld, cs[k]? = some (g, fld) := by
  obtain ⟨⟨⟨a, b⟩, c⟩, h1, h2⟩ := List.mem_map.mp (PySem.mem_of_lookup h)
  cases h2
  exact ⟨b, List.mem_zipIdx_iff_getElem?.mp h1⟩
theorem fldsOf_get {cs : CL} {k : Nat} {g fld : Str} (h : cs[k]? = some (g, fld)) : (fldsOf cs).lookup k = some fld := by
  have key : ∀ (l : CL) (n j : Nat), l[j]? = some (g, fld) → ((l.zipIdx n).map fun c => (c.2, c.1.2)).lookup (n + j) = some fld := by
    intro l
    induction l with
    | nil => intro n j e; cases e
    | cons c l ih =>
      intro n j e
      rw [List.zipIdx_cons, List.map_cons, List.lookup_cons]
      cases j with
      | zero =>
        cases e
        simp
      | succ j =>
        have e1 : (n + (j + 1) == n) = false := by
          rw [beq_eq_false_iff_ne]
          omega
        rw [e1]
        have := ih (n + 1) j e
        rw [show n + 1 + j = n + (j + 1) by omega] at this
        exact this
  have := key cs 0 k h
  rw [Nat.zero_add] at this
  exact this
structure IniD (K : PySem.W.Frag) (c : Str × Str) : Prop where
  ex : ∃ fd x qual params p, FunD K x qual params (initBody c.2 p) (initScope c.2) [] [] (He.ma K (He.ga K c.1) "__init__") fd ∧ L2.Binds K fd ["self", c.2] []
def goodN (c : Str × Str) : Bool := decide (c.2 ≠ "self") && !(c.2 == ("__debug__" : Str)) && !(c.2 == ("__classdict__" : Str)) && !(c.1 == ("__debug__" : Str))
section
variable {P : Par} {pr : Program} {w : World} {mg : Str → Option Value} {base : Heap} {G : GC} {cs : CL}
theorem exB_at (h : exB cs P.K = true) {k : Nat} {c : Str × Str} (e : cs[k]? = some c) : exB1 P.K c = true := by
  unfold exB at h
  exact List.all_eq_true.mp (Bool.and_eq_true_iff.mp h).1 _ (List.mem_of_getElem? e)
theorem exB_two (h : exB cs P.K = true) {i k : Nat} {c d : Str × Str} (e : cs[k]? = some c) (e2 : cs[i]? = some d) : PySem.W.exmOne P.K (.ref (He.ga P.K d.1)) (.ref (He.ga P.K c.1)) = some (decide (i = k)) := by
  unfold exB at h
  have h2 := List.all_eq_true.mp (List.all_eq_true.mp (Bool.and_eq_true_iff.mp h).2 (c, k) (List.mem_zipIdx_iff_getElem?.mpr e)) (d, i) (List.mem_zipIdx_iff_getElem?.mpr e2)
  exact of_decide_eq_true h2
theorem glob_exc (hP : P.exc = exOf P.K cs) (hc : G.cls = clsOf cs) (hB : exB cs P.K = true) (hg : ∀ c ∈ cs, mg c.1 = some (.ref (He.ga P.K c.1))) (hi : ∀ c ∈ cs, IniD P.K c) (hn : cs.all goodN = true) :
    ∀ g k, G.cls.lookup g = some k → ∀ X : Cx, X.prog = pr → X.w = w → X.K = P.K → X.mg = mg → X.base = base → X.calm = true → Room 3 X.A → Gl X g → ExcUse P X k g := by
  intro g k hk X e1 e2 e3 e4 e5 e6 hr hgl
  rw [hc] at hk
  obtain ⟨fld, e⟩ := clsOf_get hk
  have hm := List.mem_of_getElem? e
  have hb := exB_at hB e
  unfold exB1 at hb
  simp only [Bool.and_eq_true, decide_eq_true_eq] at hb
  obtain ⟨⟨⟨⟨h1, h2⟩, h3⟩, h4⟩, h5⟩ := hb
  obtain ⟨fd, x, qual, params, p, F, b⟩ := (hi _ hm).ex
  have n0 := List.all_eq_true.mp hn _ hm
  unfold goodN at n0
  simp only [Bool.and_eq_true, decide_eq_true_eq, Bool.not_eq_true'] at n0
  obtain ⟨⟨⟨n1, n2⟩, n3⟩, n4⟩ := n0
  rw [← e3] at h1 h3 h4 h5 F b
  refine exc_use (n := 2) (by rw [hP, e3]; unfold exOf; rw [e]; rfl) (by rw [e3]; rw [e3] at h1; exact oexB_ok h1) ?_ ?_ (init_ok (k := 1) F (oexB_ok h1) h3 n1 n2 n3) hr b hgl ?_ n4
  · rw [e3] at h4 ⊢; exact h4
  · rw [e3] at h5 ⊢; exact h5
  · rw [e4, e3]; exact hg _ hm
theorem glob_cat (hP : P.exc = exOf P.K cs) (hc : G.cls = clsOf cs) (hf : G.flds = fldsOf cs) (hB : exB cs P.K = true) (hg : ∀ c ∈ cs, mg c.1 = some (.ref (He.ga P.K c.1))) :
    ∀ g k, G.cls.lookup g = some k → ∃ C fld, P.exc k = some (C, fld) ∧ G.flds.lookup k = some fld ∧ mg g = some (.ref C) ∧ XfC P.K C ∧ PySem.W.findIn P.K (.ref C) fld = some none ∧ ∀ i C' f', P.exc i = some (C', f') → PySem.W.exmOne P.K (.ref C') (.ref C) = some (decide (i = k)) := by
  intro g k hk
  rw [hc] at hk
  obtain ⟨fld, e⟩ := clsOf_get hk
  have hm := List.mem_of_getElem? e
  have hb := exB_at hB e
  unfold exB1 at hb
  simp only [Bool.and_eq_true, decide_eq_true_eq] at hb
  obtain ⟨⟨⟨⟨h1, h2⟩, h3⟩, h4⟩, h5⟩ := hb
  refine ⟨He.ga P.K g, fld, by rw [hP]; unfold exOf; rw [e]; rfl, by rw [hf]; exact fldsOf_get e, hg _ hm, xfB_ok h2, h3, fun i C' f' h => ?_⟩
  rw [hP] at h
  unfold exOf at h
  obtain ⟨d, d1, d2⟩ := Option.map_eq_some_iff.mp h
  cases d2
  exact exB_two hB e d1
end
/-! ### all of a list of pairs -/
def AllL {α β : Type} (R : α → β → Prop) : List (α × β) → Prop
  | [] => True
  | p :: r => R p.1 p.2 ∧ AllL R r
theorem AllL.get {α β : Type} [BEq α] [LawfulBEq α] {R : α → β → Prop} : ∀ {l : List (α × β)}, AllL R l → ∀ g k, l.lookup g = some k → R g k
  | [], _, g, k, h => by cases h
  | p :: r, ⟨h1, h2⟩, g, k, h => by
    rw [List.lookup_cons] at h
    split at h
    · rename_i e
      cases h
      rw [eq_of_beq e]
      exact h1
    · exact AllL.get h2 g k h
theorem AllL.all {α β : Type} {R : α → β → Prop} : ∀ {l : List (α × β)}, AllL R l → ∀ p ∈ l, R p.1 p.2
  | p :: r, ⟨h1, h2⟩, q, h => by
    rcases List.mem_cons.mp h with rfl | h
    · exact h1
    · exact h2.all q h
theorem lookN_mem {β : Type} {k : Nat} {b : β} : ∀ {l : List (Nat × β)}, l.lookup k = some b → (k, b) ∈ l
  | [], h => nomatch h
  | p :: r, h => by
    rw [List.lookup_cons] at h
    split at h
    · rename_i e
      cases h
      rw [eq_of_beq e]
      exact List.mem_cons_self
    · exact List.mem_cons_of_mem _ (lookN_mem h)
/-- plain parameters -/
abbrev prm (l : List (Str × Pos)) : Arguments := { posonlyargs := [], args := l.map fun x => { arg := x.1, annotation := none, pos := x.2 }, vararg := none, kwonlyargs := [], kw_defaults := [], kwarg := none, defaults := [] }
theorem kbindsP_of {K : PySem.W.Frag} {x qual : Str} {params : Arguments} {body : List Stmt} {scope : Scope} {f : Addr} {fd : FuncData} {ps ks : List Str} {perm : List Nat} (F : FunD K x qual params body scope [] [] f fd)
    (h : ∀ (kV doc pm : Value) (an : Option Addr) (cdv ct : Value) (us : List Value), us.length = ks.length → bindArgs (PySem.W.fnOf x qual params body scope .none kV doc pm an cdv ct) ⟨[], ks.zip us⟩ = pure (ps.zip (permA Value.none perm us))) : KBindsP K fd ps ks perm := by
  obtain ⟨oc, od, dV, kV, doc, pm, an, cdv, ct, osl, rfl, lk, hcd, hD, hK⟩ := F.ex
  rcases hD with ⟨_, rfl⟩ | ⟨e, _⟩
  · exact fun s us _ hl => .of_eq (h kV doc pm an cdv ct us hl)
  · exact absurd rfl e
/-- what is known of the def g -/
def FnAt (cf : Nat → Co) (G : GC) (P : Par) (pr : Program) (w : World) (mg : Str → Option Value) (base : Heap) (fns : Nat → Option FK) (lms : Nat → Option ILam) (g : Str) (k : Nat) : Prop :=
  ∃ f fd ps, mg g = some (.ref f) ∧ PySem.W.keepIn P.K (.ref f) = true ∧ L2.Binds P.K fd ps [] ∧ (∀ e ∈ (G.kws.filter fun e => decide (e.1 = g)).map (·.2), KBindsP P.K fd ps e.1 e.2) ∧
    ((∃ F, fns k = some (.code F) ∧ DefOk cf k G P f fd ps F) ∨ ∃ m, fns k = some (.spec m) ∧ ∀ n, AllFn cf G P pr w mg base fns lms n → AllClo cf P pr w mg base fns lms n → FnOk pr w P.K mg base (L2.CX pr w) (n + 5) f fd ps (spD P (cf k) (m (pC fns lms n))))
theorem kws_none {K : PySem.W.Frag} {fd : FuncData} {ps : List Str} {l : List (List Str × List Nat)} (e : l = []) : ∀ q ∈ l, KBindsP K fd ps q.1 q.2 := by
  rw [e]
  exact fun q h => nomatch h
theorem kws_of {K : PySem.W.Frag} {fd : FuncData} {ps : List Str} {l l' : List (List Str × List Nat)} (e : l = l') (h : AllL (fun a b => KBindsP K fd ps a b) l') : ∀ q ∈ l, KBindsP K fd ps q.1 q.2 := by
  rw [e]
  exact h.all
def sokB2 (s : Str) : Bool := decide (s.length ≤ sizeLine) && s.cps.toList.all fun c => decide (c < 0x110000)
theorem sokB2_ok {s : Str} (h : sokB2 s = true) : SOk s := by
  unfold sokB2 at h
  obtain ⟨h1, h2⟩ := Bool.and_eq_true_iff.mp h
  exact ⟨of_decide_eq_true h1, fun c hc => of_decide_eq_true (List.all_eq_true.mp h2 c hc)⟩
theorem cns_str {P : Par} {mg : Str → Option Value} {x z : Str} (h : ∃ t, mg x = some (.str z t)) (hz : sokB2 z = true) : isCont (.str z) = false ∧ ∃ v u, mg x = some u ∧ RelV v u ∧ ∀ W H, Rep P W H (.str z) v := by
  obtain ⟨t, e⟩ := h
  exact ⟨rfl, .str z, _, e, ⟨_, rfl⟩, fun W H => Rep.str.mpr ⟨rfl, sokB2_ok hz⟩⟩
theorem cns_int {P : Par} {mg : Str → Option Value} {x : Str} {i : Int} (h : ∃ t, mg x = some (.int i t)) : isCont (.int i) = false ∧ ∃ v u, mg x = some u ∧ RelV v u ∧ ∀ W H, Rep P W H (.int i) v := by
  obtain ⟨t, e⟩ := h
  exact ⟨rfl, .int i, _, e, ⟨_, rfl⟩, fun W H => Rep.int.mpr rfl⟩
theorem sm_below : SpecMono fun _ ds Q _ => mBelow ds Q := fun _ _ _ _ _ _ _ hQ _ h => mBelow_mono hQ h
theorem sm_mixed : SpecMono fun _ ds Q _ => mMixed ds Q := fun _ _ _ _ _ _ _ hQ _ h => mMixed_mono hQ h
/-- how a def that has its inner form is known -/
theorem defOk_of {cf : Nat → Co} {k : Nat} {G : GC} {P : Par} {f : Addr} {fd : FuncData} {ps : List Str} {F : IFn} {x qual : Str} {params : Arguments} {body : List Stmt} {scope : Scope} {N : List Str} {fuel : Nat} (hF : FunD P.K x qual params body scope [] [] f fd) (S : FnScope N ps scope)
    (h1 : cSs G ⟨N, scope, fun _ => true, false⟩ fuel body = some F.body) (h2 : (decide (F.ns = N.length) && decide (F.np = ps.length) && okSs cf F.body && decide ((coSs cf F.body).c ≤ (cf k).c)) = true) : DefOk cf k G P f fd ps F := by
  simp only [Bool.and_eq_true, decide_eq_true_eq] at h2
  obtain ⟨⟨⟨a, b⟩, c⟩, d⟩ := h2
  exact ⟨x, qual, params, body, scope, N, fuel, hF, S, h1, a, b, c, d⟩
end Dl
namespace Dl
open PySem PySem.Spec PyProof.Rows
open L2 hiding wE wT
section
variable {fns : Nat → Option FK} {lms : Nat → Option ILam}
theorem pF_code {n k : Nat} {f : IFn} {ds : List D} {Q : DK} {E : EK} (h : fns k = some (.code f)) (w : ds.length = f.np ∧ f.np ≤ f.ns ∧ wSs (pF fns lms n) (pC fns lms n) f.body (startD f.ns ds) ⟨fun _ => Q .non, Q, fun _ => False, fun _ => False, fun _ x => E x⟩) : pF fns lms (n + 1) k ds Q E := by
  have e : pF fns lms (n + 1) k ds Q E = (match fns k with
    | some (.code f) => ds.length = f.np ∧ f.np ≤ f.ns ∧ wSs (pF fns lms n) (pC fns lms n) f.body (startD f.ns ds) ⟨fun _ => Q .non, Q, fun _ => False, fun _ => False, fun _ x => E x⟩
    | some (.spec m) => m (pC fns lms n) ds Q E
    | none => False) := by
    rw [pF.eq_def] <;> rfl
  rw [e, h]
  exact w
theorem pF_spec {n k : Nat} {m : PC → List D → DK → EK → Prop} {ds : List D} {Q : DK} {E : EK} (h : fns k = some (.spec m)) (w : m (pC fns lms n) ds Q E) : pF fns lms (n + 1) k ds Q E := by
  have e : pF fns lms (n + 1) k ds Q E = (match fns k with
    | some (.code f) => ds.length = f.np ∧ f.np ≤ f.ns ∧ wSs (pF fns lms n) (pC fns lms n) f.body (startD f.ns ds) ⟨fun _ => Q .non, Q, fun _ => False, fun _ => False, fun _ x => E x⟩
    | some (.spec m) => m (pC fns lms n) ds Q E
    | none => False) := by
    rw [pF.eq_def] <;> rfl
  rw [e, h]
  exact w
theorem pC_run {n k : Nat} {l : ILam} {cs : List D} {Q : DK} {E : EK} (h : lms k = some l) (w : cs.length = l.nc ∧ wE (pF fns lms n) (pC fns lms n) l.body (cs.map Sl.val) Q E) : (pC fns lms (n + 1)).run k cs Q E := by
  rw [pC.eq_def]
  show (match lms k with
    | some l => cs.length = l.nc ∧ wE (pF fns lms n) (pC fns lms n) l.body (cs.map Sl.val) Q E
    | none => False)
  rw [h]
  exact w
theorem pC_lam2 {n k j : Nat} {b : IE} (h : lms k = some ⟨j, b⟩) : (pC fns lms n).lam k j b := by
  cases n <;> (rw [pC.eq_def]; exact h)
end
/-! ### loops -/
theorem lcLoop_det {g : D → DEnv → Option DEnv} {c : DEnv → (Bool → Prop) → Prop} {f : DEnv → DK → Prop} {env : DEnv} {K : DK} {p : D → Bool} {h : D → D} : ∀ (ds acc : List D), (∀ d ∈ ds, ∃ e1, g d env = some e1 ∧ (∀ k : Bool → Prop, k (p d) → c e1 k) ∧ (p d = true → ∀ k : DK, k (h d) → f e1 k)) → K (.lst (acc ++ (ds.filter p).map h)) → lcLoop g c f env K ds acc
  | [], acc, _, hK => by
    unfold lcLoop
    simpa using hK
  | d :: r, acc, H, hK => by
    obtain ⟨e1, h1, h2, h3⟩ := H d List.mem_cons_self
    have hr : ∀ d ∈ r, _ := fun d hd => H d (List.mem_cons_of_mem _ hd)
    unfold lcLoop
    refine ⟨e1, h1, h2 _ ?_⟩
    cases hp : p d with
    | true =>
      rw [if_pos rfl]
      refine h3 hp _ (lcLoop_det r _ hr ?_)
      rw [List.filter_cons_of_pos hp, List.map_cons] at hK
      rw [List.append_assoc]
      exact hK
    | false =>
      rw [if_neg (by decide)]
      refine lcLoop_det r _ hr ?_
      rw [List.filter_cons_of_neg (by rw [hp]; decide)] at hK
      exact hK
theorem lcLoop_any {g : D → DEnv → Option DEnv} {c : DEnv → (Bool → Prop) → Prop} {f : DEnv → DK → Prop} {env : DEnv} {K : DK} {R : D → Prop} : ∀ (ds acc : List D), (∀ d ∈ ds, ∃ e1, g d env = some e1 ∧ (∀ k : Bool → Prop, k true → c e1 k) ∧ (∀ k : DK, (∀ y, R y → k y) → f e1 k)) → (∀ ys : List D, ys.length = ds.length → (∀ y ∈ ys, R y) → K (.lst (acc ++ ys))) → lcLoop g c f env K ds acc
  | [], acc, _, hK => by
    unfold lcLoop
    simpa using hK [] rfl (fun _ h => nomatch h)
  | d :: r, acc, H, hK => by
    obtain ⟨e1, h1, h2, h3⟩ := H d List.mem_cons_self
    unfold lcLoop
    refine ⟨e1, h1, h2 _ ?_⟩
    rw [if_pos rfl]
    refine h3 _ fun y hy => lcLoop_any r _ (fun d hd => H d (List.mem_cons_of_mem _ hd)) fun ys hl hys => ?_
    rw [List.append_assoc]
    exact hK (y :: ys) (by simp [hl]) fun z hz => by
      rcases List.mem_cons.mp hz with rfl | hz
      · exact hy
      · exact hys z hz
theorem forLoop_inv {g : D → DEnv → Option DEnv} {b : DEnv → KS → Prop} {K : KS} (I : List D → DEnv → Prop) (h0 : ∀ env, I [] env → K.nx env) (hs : ∀ d r env, I (d :: r) env → ∃ env1, g d env = some env1 ∧ ∀ K' : KS, K'.rt = K.rt → K'.ex = K.ex → (∀ e, I r e → K'.nx e) → b env1 K') :
    ∀ ds env, I ds env → forLoop g b K ds env
  | [], env, h => by
    unfold forLoop
    exact h0 env h
  | d :: r, env, h => by
    obtain ⟨env1, e1, e2⟩ := hs d r env h
    unfold forLoop
    exact ⟨env1, e1, e2 _ rfl rfl fun e he => forLoop_inv I h0 hs r e he⟩
/-! ### texts by their signs -/
def T (l : List Nat) : Str := ⟨l.toArray⟩
theorem T_len (l : List Nat) : (T l).length = l.length := by show l.toArray.size = _; simp
theorem T_app (a b : List Nat) : T a ++ T b = T (a ++ b) := by
  show (⟨a.toArray ++ b.toArray⟩ : Str) = _
  simp [T]
theorem T_inj {a b : List Nat} (h : T a = T b) : a = b := by
  have := congrArg (fun s : Str => s.cps.toList) h
  simpa [T] using this
theorem T_eq (s : Str) : T s.cps.toList = s := by
  show (⟨s.cps.toList.toArray⟩ : Str) = s
  simp
theorem T_list (l : List Nat) : (T l).cps.toList = l := by simp [T]
abbrev tx (l : List Nat) : D := .str (T l)
theorem signs_T (l : List Nat) : signs (T l) = l.map fun c => tx [c] := by
  unfold signs
  rw [T_list]
  rfl
theorem T_cut (l : List Nat) (lo hi : Option Int) : cutS (T l) lo hi = T (cutA l lo hi) := by
  unfold cutS cutA
  rw [T_list, T_len]
  rfl
theorem T_rep (l : List Nat) (n : Nat) : strRep (T l) n = T (List.replicate n l).flatten := by
  unfold strRep
  rw [T_list]
  rfl
theorem eqD_int {i j : Int} {K : Bool → Prop} (h : K (decide (i = j))) : eqD (.int i) (.int j) K := by
  unfold eqD
  refine ⟨by simp [PyData.depth], by simp [PyData.depth], ?_⟩
  have : PyData.eqv (.int i) (.int j) = decide (i = j) := by
    unfold PyData.eqv
    by_cases e : i = j <;> simp [e]
  rw [this]
  exact h
theorem eqD_str {i j : Str} {K : Bool → Prop} (h : K (decide (i = j))) : eqD (.str i) (.str j) K := by
  unfold eqD
  refine ⟨by simp [PyData.depth], by simp [PyData.depth], ?_⟩
  have : PyData.eqv (.str i) (.str j) = decide (i = j) := by
    unfold PyData.eqv
    by_cases e : i = j <;> simp [e]
  rw [this]
  exact h
theorem eqD_bl {i j : Bool} {K : Bool → Prop} (h : K (i == j)) : eqD (.bl i) (.bl j) K := by
  unfold eqD
  exact ⟨by simp [PyData.depth], by simp [PyData.depth], h⟩
theorem eqD_T {a b : List Nat} {K : Bool → Prop} (h : K (decide (a = b))) : eqD (tx a) (tx b) K := by
  refine eqD_str ?_
  have : decide (T a = T b) = decide (a = b) := by
    by_cases e : a = b
    · simp [e]
    · have : T a ≠ T b := fun h => e (T_inj h)
      simp [e, this]
  rw [this]
  exact h
theorem rangeD_up (a : Int) (m : Nat) : rangeD a (a + m) 1 = (List.range m).map fun i => .int (a + (i : Nat)) := by
  have e : (Builtin.Range.rangeSize a (a + m) 1).toNat = m := by
    unfold Builtin.Range.rangeSize
    rw [if_pos (by decide)]
    split
    · rw [Int.ediv_one]; omega
    · omega
  unfold rangeD
  rw [e]
  refine List.map_congr_left fun i _ => ?_
  rw [Int.mul_one]
/-- m - 1, .., 0 -/
def downD : Nat → List D
  | 0 => []
  | m + 1 => .int m :: downD m
theorem downD_eq (m : Nat) : downD m = (List.range m).map fun i => .int ((m : Int) - 1 - (i : Nat)) := by
  induction m with
  | zero => rfl
  | succ m ih =>
    rw [List.range_succ_eq_map, List.map_cons, List.map_map, downD, ih]
    refine congr (congrArg _ ?_) (List.map_congr_left fun i _ => ?_)
    · congr 1; omega
    · show D.int _ = D.int _
      congr 1
      show _ = ((m + 1 : Nat) : Int) - 1 - ((i + 1 : Nat) : Int)
      omega
theorem rangeD_down (m : Nat) : rangeD ((m : Int) - 1) (-1) (-1) = downD m := by
  have e : (Builtin.Range.rangeSize ((m : Int) - 1) (-1) (-1)).toNat = m := by
    unfold Builtin.Range.rangeSize
    rw [if_neg (by decide)]
    split
    · rw [show (-(-1 : Int)) = 1 by decide, Int.ediv_one]; omega
    · omega
  unfold rangeD
  rw [e, downD_eq]
  refine List.map_congr_left fun i _ => ?_
  congr 1
  omega
theorem atI_nat {α : Type} (xs : List α) (i : Nat) : atI xs (i : Int) = xs[i]? := by
  unfold atI ixN
  rw [if_pos (by omega)]
  by_cases h : i < xs.length
  · rw [if_pos (by omega)]; simp
  · rw [if_neg (by omega)]; simp; omega
theorem atI_last {α : Type} (xs : List α) (x : α) : atI (xs ++ [x]) (-1) = some x := by
  unfold atI ixN
  rw [if_neg (by decide), if_pos (by simp; omega)]
  have : ((-1 : Int) + ((xs ++ [x]).length : Nat)).toNat = xs.length := by simp; omega
  rw [Option.bind_some, this]
  simp
theorem atI_zero {α : Type} (x : α) (xs : List α) : atI (x :: xs) 0 = some x := atI_nat (x :: xs) 0
end Dl
namespace Dl
/-! ### how many mends: the least over all alignments -/
def lev : List Nat → List Nat → Nat
  | [], b => b.length
  | x :: a, [] => a.length + 1
  | x :: a, y :: b => min (min (lev a b + if x = y then 0 else 1) (lev (x :: a) b + 1)) (lev a (y :: b) + 1)
termination_by a b => a.length + b.length
inductive Al : Nat → List Nat → List Nat → Prop
  | nil : Al 0 [] []
  | keep {n a b} (x : Nat) : Al n a b → Al n (x :: a) (x :: b)
  | sub {n a b} (x y : Nat) : Al n a b → Al (n + 1) (x :: a) (y :: b)
  | del {n a b} (x : Nat) : Al n a b → Al (n + 1) (x :: a) b
  | ins {n a b} (y : Nat) : Al n a b → Al (n + 1) a (y :: b)
theorem lev_nil (b : List Nat) : lev [] b = b.length := by unfold lev; rfl
theorem lev_nil2 (a : List Nat) : lev a [] = a.length := by cases a <;> (unfold lev; rfl)
theorem lev_cons (x y : Nat) (a b : List Nat) : lev (x :: a) (y :: b) = min (min (lev a b + if x = y then 0 else 1) (lev (x :: a) b + 1)) (lev a (y :: b) + 1) := by rw [lev]
theorem Al.insAll : ∀ b, Al b.length [] b
  | [] => .nil
  | y :: b => .ins y (Al.insAll b)
theorem Al.delAll : ∀ a, Al a.length a []
  | [] => .nil
  | x :: a => .del x (Al.delAll a)
theorem al_lev : ∀ a b, Al (lev a b) a b
  | [], b => by rw [lev_nil]; exact Al.insAll b
  | x :: a, [] => by rw [lev_nil2]; exact Al.delAll _
  | x :: a, y :: b => by
    rw [lev_cons]
    have h1 := al_lev a b
    have h2 := al_lev (x :: a) b
    have h3 := al_lev a (y :: b)
    rcases Nat.le_total (min (lev a b + if x = y then 0 else 1) (lev (x :: a) b + 1)) (lev a (y :: b) + 1) with q | q
    · rw [Nat.min_eq_left q]
      rcases Nat.le_total (lev a b + if x = y then 0 else 1) (lev (x :: a) b + 1) with p | p
      · rw [Nat.min_eq_left p]
        by_cases e : x = y
        · rw [if_pos e, e]; exact .keep y h1
        · rw [if_neg e]; exact .sub x y h1
      · rw [Nat.min_eq_right p]; exact .ins y h2
    · rw [Nat.min_eq_right q]; exact .del x h3
termination_by a b => a.length + b.length
theorem lev_step1 (x : Nat) (a b : List Nat) : lev (x :: a) b ≤ lev a b + 1 := by
  cases b with
  | nil => rw [lev_nil2, lev_nil2]; simp
  | cons y b => rw [lev_cons]; exact Nat.min_le_right _ _
theorem lev_step2 (y : Nat) (a b : List Nat) : lev a (y :: b) ≤ lev a b + 1 := by
  cases a with
  | nil => rw [lev_nil, lev_nil]; simp
  | cons x a => rw [lev_cons]; exact Nat.le_trans (Nat.min_le_left _ _) (Nat.min_le_right _ _)
theorem lev_le {n : Nat} {a b : List Nat} (h : Al n a b) : lev a b ≤ n := by
  induction h with
  | nil => rw [lev_nil]; simp
  | keep x h ih => rw [lev_cons, if_pos rfl]; exact Nat.le_trans (Nat.min_le_left _ _) (Nat.le_trans (Nat.min_le_left _ _) ih)
  | sub x y h ih =>
    rw [lev_cons]
    refine Nat.le_trans (Nat.min_le_left _ _) (Nat.le_trans (Nat.min_le_left _ _) ?_)
    split <;> omega
  | del x h ih => exact Nat.le_trans (lev_step1 _ _ _) (Nat.succ_le_succ ih)
  | ins y h ih => exact Nat.le_trans (lev_step2 _ _ _) (Nat.succ_le_succ ih)
theorem Al.app {n m : Nat} {a b c d : List Nat} (h : Al n a b) (g : Al m c d) : Al (n + m) (a ++ c) (b ++ d) := by
  induction h with
  | nil => rw [Nat.zero_add]; exact g
  | keep x h ih => exact .keep x ih
  | sub x y h ih => rw [Nat.add_right_comm]; exact .sub x y ih
  | del x h ih => rw [Nat.add_right_comm]; exact .del x ih
  | ins y h ih => rw [Nat.add_right_comm]; exact .ins y ih
theorem Al.rev {n : Nat} {a b : List Nat} (h : Al n a b) : Al n a.reverse b.reverse := by
  induction h with
  | nil => exact .nil
  | keep x h ih => rw [List.reverse_cons, List.reverse_cons]; exact ih.app (.keep x .nil)
  | sub x y h ih => rw [List.reverse_cons, List.reverse_cons]; exact ih.app (.sub x y .nil)
  | del x h ih => rw [List.reverse_cons]; have := ih.app (.del x .nil); rwa [List.append_nil] at this
  | ins y h ih => rw [List.reverse_cons]; have := ih.app (.ins y .nil); rwa [List.append_nil] at this
theorem Al.symm {n : Nat} {a b : List Nat} (h : Al n a b) : Al n b a := by
  induction h with
  | nil => exact .nil
  | keep x h ih => exact .keep x ih
  | sub x y h ih => exact .sub y x ih
  | del x h ih => exact .ins x ih
  | ins y h ih => exact .del y ih
theorem lev_symm (a b : List Nat) : lev a b = lev b a := Nat.le_antisymm (lev_le (al_lev b a).symm) (lev_le (al_lev a b).symm)
theorem lev_rev (a b : List Nat) : lev a.reverse b.reverse = lev a b := by
  refine Nat.le_antisymm (lev_le (al_lev a b).rev) ?_
  have := (al_lev a.reverse b.reverse).rev
  rw [List.reverse_reverse, List.reverse_reverse] at this
  exact lev_le this
theorem Al.refl : ∀ a, Al 0 a a
  | [] => .nil
  | x :: a => .keep x (Al.refl a)
/-- by way of a third word -/
theorem Al.trans {n m : Nat} {a b c : List Nat} (h : Al n a b) (g : Al m b c) : ∃ k, k ≤ n + m ∧ Al k a c := by
  induction h generalizing m c with
  | nil => exact ⟨m, by omega, g⟩
  | @keep n a b x h ih =>
    generalize e : x :: b = b' at g
    induction g with
    | nil => cases e
    | keep y g _ => cases e; obtain ⟨k, h1, h2⟩ := ih g; exact ⟨k, h1, .keep _ h2⟩
    | sub y z g _ => cases e; obtain ⟨k, h1, h2⟩ := ih g; exact ⟨k + 1, by omega, .sub _ _ h2⟩
    | del y g _ => cases e; obtain ⟨k, h1, h2⟩ := ih g; exact ⟨k + 1, by omega, .del _ h2⟩
    | ins y g ih2 => obtain ⟨k, h1, h2⟩ := ih2 e; exact ⟨k + 1, by omega, .ins _ h2⟩
  | @sub n a b x y h ih =>
    generalize e : y :: b = b' at g
    induction g with
    | nil => cases e
    | keep z g _ => cases e; obtain ⟨k, h1, h2⟩ := ih g; exact ⟨k + 1, by omega, .sub _ _ h2⟩
    | sub z u g _ => cases e; obtain ⟨k, h1, h2⟩ := ih g; exact ⟨k + 1, by omega, .sub _ _ h2⟩
    | del z g _ => cases e; obtain ⟨k, h1, h2⟩ := ih g; exact ⟨k + 1, by omega, .del _ h2⟩
    | ins z g ih2 => obtain ⟨k, h1, h2⟩ := ih2 e; exact ⟨k + 1, by omega, .ins _ h2⟩
  | del x h ih => obtain ⟨k, h1, h2⟩ := ih g; exact ⟨k + 1, by omega, .del _ h2⟩
  | @ins n a b y h ih =>
    generalize e : y :: b = b' at g
    induction g with
    | nil => cases e
    | keep z g _ => cases e; obtain ⟨k, h1, h2⟩ := ih g; exact ⟨k + 1, by omega, .ins _ h2⟩
    | sub z u g _ => cases e; obtain ⟨k, h1, h2⟩ := ih g; exact ⟨k + 1, by omega, .ins _ h2⟩
    | del z g _ => cases e; obtain ⟨k, h1, h2⟩ := ih g; exact ⟨k, by omega, h2⟩
    | ins z g ih2 => obtain ⟨k, h1, h2⟩ := ih2 e; exact ⟨k + 1, by omega, .ins _ h2⟩
theorem lev_tri (a b c : List Nat) : lev a c ≤ lev a b + lev b c := by
  obtain ⟨k, h1, h2⟩ := (al_lev a b).trans (al_lev b c)
  exact Nat.le_trans (lev_le h2) h1
end Dl
namespace Dl
open PySem PySem.Spec PyProof.Rows
open L2 hiding wE wT
section
variable {pf : PF} {pc : PC} {env : DEnv} {K : KS} {Q : DK} {E : EK}
theorem i_nil  (h : K.nx env) : wSs pf pc .nil env K := by
  unfold wSs
  exact h
theorem i_cons {s : IS} {r : ISs} (h : wS pf pc s env { K with nx := fun env => wSs pf pc r env K }) : wSs pf pc (.cons s r) env K := by
  unfold wSs
  exact h
theorem i_expr {sh : List Nat} {e : IE} (h : wE pf pc e (shr env sh) (fun _ => K.nx (shr env sh)) (K.ex (shr env sh))) : wS pf pc (.expr sh e) env K := by
  unfold wS
  exact h
theorem i_asg {sh : List Nat} {i : Nat} {e : IE} (h : wE pf pc e (shr env sh) (fun d => K.nx ((shr env sh).set i (mkOwn e d))) (K.ex (shr env sh))) : wS pf pc (.asg sh i e) env K := by
  unfold wS
  exact h
theorem i_asgT {sh : List Nat} {ts : List IT} {e : IE} (h : wE pf pc e (shr env sh) (fun d => ∃ env2, asg (.tp ts) d (shr env sh) = some env2 ∧ K.nx env2) (K.ex (shr env sh))) : wS pf pc (.asgT sh ts e) env K := by
  unfold wS
  exact h
theorem i_par {sh js : List Nat} {es : IEs} (h : wEs pf pc es (shr env sh) (fun ds => ∃ env2, parSet js es ds (shr env sh) = some env2 ∧ K.nx env2) (K.ex (shr env sh))) : wS pf pc (.par sh js es) env K := by
  unfold wS
  exact h
theorem i_setk {sh : List Nat} {i : Nat} {k v : IE} (h : onOwn (shr env sh)[i]? fun x => wE pf pc v (shr env sh) (fun y => wB pf pc k (shr env sh) (fun z => setD x z y fun x' => K.nx ((shr env sh).set i (.own x'))) (K.ex (shr env sh))) (K.ex (shr env sh))) : wS pf pc (.setk sh i k v) env K := by
  unfold wS
  exact h
theorem i_app {sh : List Nat} {i : Nat} {e : IE} (h : onOwn (shr env sh)[i]? fun x => onLst x fun xs => wE pf pc e (shr env sh) (fun y => xs.length < sizeLine ∧ K.nx ((shr env sh).set i (.own (.lst (xs ++ [y]))))) (K.ex (shr env sh))) : wS pf pc (.app sh i e) env K := by
  unfold wS
  exact h
theorem i_extd {sh : List Nat} {i : Nat} {e : IE} (h : onOwn (shr env sh)[i]? fun x => onLst x fun xs => wB pf pc e (shr env sh) (fun y => onLst y fun ys => xs.length + ys.length ≤ sizeLine ∧ K.nx ((shr env sh).set i (.own (.lst (xs ++ ys))))) (K.ex (shr env sh))) : wS pf pc (.extd sh i e) env K := by
  unfold wS
  exact h
theorem i_ret {sh : List Nat} {e : IE} (h : wE pf pc e (shr env sh) K.rt (K.ex (shr env sh))) : wS pf pc (.ret sh e) env K := by
  unfold wS
  exact h
theorem i_ite {sh : List Nat} {t : IE} {a b : ISs} (h : wT pf pc t (shr env sh) (fun t => if t = true then wSs pf pc a (shr env sh) K else wSs pf pc b (shr env sh) K) (K.ex (shr env sh))) : wS pf pc (.ite sh t a b) env K := by
  unfold wS
  exact h
theorem i_rais {sh : List Nat} {c : Nat} {e : IE} (h : wE pf pc e (shr env sh) (fun d => K.ex (shr env sh) ⟨c, some d⟩) (K.ex (shr env sh))) : wS pf pc (.rais sh c e) env K := by
  unfold wS
  exact h
theorem i_tryc {b : ISs} {hs : List Hd} (h : wSs pf pc b env { K with ex := fun env x => hdsD hs env x K }) : wS pf pc (.tryc b hs) env K := by
  unfold wS
  exact h
theorem e_cn {d : D} (h : Q d) : wE pf pc (.cn d) env Q E := by
  unfold wE
  exact h
theorem e_bin {op : BOp} {a b : IE} (h : bor a (wE pf pc a) env (fun x => bor b (wE pf pc b) env (fun y => binD op x y Q) E) E) : wE pf pc (.bin op a b) env Q E := by
  unfold wE
  exact h
theorem e_neg {a : IE} (h : bor a (wE pf pc a) env (fun x => onInt x fun i => Q (.int (-i))) E) : wE pf pc (.neg a) env Q E := by
  unfold wE
  exact h
theorem e_cmp {op : COp} {a b : IE} (h : bor a (wE pf pc a) env (fun x => bor b (wE pf pc b) env (fun y => cmpD op x y Q) E) E) : wE pf pc (.cmp op a b) env Q E := by
  unfold wE
  exact h
theorem e_and {a b : IE} (h : wE pf pc a env (fun x => onTru x fun t => if t = true then wE pf pc b env Q E else Q x) E) : wE pf pc (.and a b) env Q E := by
  unfold wE
  exact h
theorem e_or {a b : IE} (h : wE pf pc a env (fun x => onTru x fun t => if t = true then Q x else wE pf pc b env Q E) E) : wE pf pc (.or a b) env Q E := by
  unfold wE
  exact h
theorem e_not {a : IE} (h : bor a (wE pf pc a) env (fun x => onTru x fun t => Q (.bl (!t))) E) : wE pf pc (.not a) env Q E := by
  unfold wE
  exact h
theorem e_ite {t a b : IE} (h : wT pf pc t env (fun t => if t = true then wE pf pc a env Q E else wE pf pc b env Q E) E) : wE pf pc (.ite t a b) env Q E := by
  unfold wE
  exact h
theorem e_tup {es : IEs} (h : wEs pf pc es env (fun ds => Q (.tup ds)) E) : wE pf pc (.tup es) env Q E := by
  unfold wE
  exact h
theorem e_lst {es : IEs} (h : wEs pf pc es env (fun ds => Q (.lst ds)) E) : wE pf pc (.lst es) env Q E := by
  unfold wE
  exact h
theorem e_dic {ps : IPs} (h : wPs pf pc ps env (fun ps => dicD ps Q) E) : wE pf pc (.dic ps) env Q E := by
  unfold wE
  exact h
theorem e_idx {a b : IE} (h : bor a (wE pf pc a) env (fun x => bor b (wE pf pc b) env (fun y => idxD x y Q) E) E) : wE pf pc (.idx a b) env Q E := by
  unfold wE
  exact h
theorem e_slc {a : IE} {lo hi : IO} (h : bor a (wE pf pc a) env (fun x => wO pf pc lo env (fun l => wO pf pc hi env (fun h => slcD x l h Q) E) E) E) : wE pf pc (.slc a lo hi) env Q E := by
  unfold wE
  exact h
theorem e_rev {a : IE} (h : bor a (wE pf pc a) env (fun x => revD x Q) E) : wE pf pc (.rev a) env Q E := by
  unfold wE
  exact h
theorem e_call {f : Nat} {es : IEs} (h : wEs pf pc es env (fun ds => pf f ds Q E) E) : wE pf pc (.call f es) env Q E := by
  unfold wE
  exact h
theorem e_callk {f : Nat} {es : IEs} {perm : List Nat} (h : wEs pf pc es env (fun ds => pf f (permA .non perm ds) Q E) E) : wE pf pc (.callk f es perm) env Q E := by
  unfold wE
  exact h
theorem e_bi {b : BI} {es : IEs} (h : wBs pf pc es env (fun ds => biD b ds Q) E) : wE pf pc (.bi b es) env Q E := by
  unfold wE
  exact h
theorem e_mt {m : Mt} {a : IE} {es : IEs} (h : bor a (wE pf pc a) env (fun x => mtT m x = true ∧ wBs pf pc es env (fun ds => mtD m x ds Q) E) E) : wE pf pc (.mt m a es) env Q E := by
  unfold wE
  exact h
theorem e_isi {a : IE} {ts : List Ty} (h : bor a (wE pf pc a) env (fun x => ∃ bs : List Bool, ts.map (fun t => tyD t x) = bs.map some ∧ Q (.bl (bs.any id))) E) : wE pf pc (.isi a ts) env Q E := by
  unfold wE
  exact h
theorem bor_slot_imp {i : Nat} {w : DEnv → DK → EK → Prop} {P P' : DK} (k : ∀ x, P x → P' x) (h : bor (.slot i) w env P E) : bor (.slot i) w env P' E := by
  have h : (match env[i]? with | some (.val d) => P d | some (.own d) => P d | _ => False) := h
  show (match env[i]? with | some (.val d) => P' d | some (.own d) => P' d | _ => False)
  cases e : env[i]? with
  | none => rw [e] at h; exact h.elim
  | some s =>
    rw [e] at h
    cases s <;> first
      | exact k _ h
      | exact h.elim
theorem e_isi1 {i : Nat} {t : Ty} (h : bor (.slot i) (wE pf pc (.slot i)) env (fun x => ∃ b, tyD t x = some b ∧ Q (.bl b)) E) : wE pf pc (.isi (.slot i) [t]) env Q E := by
  have key : ∀ x, (∃ b, tyD t x = some b ∧ Q (.bl b)) → ∃ bs : List Bool, [t].map (fun t => tyD t x) = bs.map some ∧ Q (.bl (bs.any id)) := fun x ⟨b, e, h⟩ => ⟨[b], by rw [List.map_cons, e]; rfl, by cases b <;> exact h⟩
  exact e_isi (bor_slot_imp key h)
theorem e_isi2 {i : Nat} {t u : Ty} (h : bor (.slot i) (wE pf pc (.slot i)) env (fun x => ∃ b c, tyD t x = some b ∧ tyD u x = some c ∧ Q (.bl (b || c))) E) : wE pf pc (.isi (.slot i) [t, u]) env Q E := by
  have key : ∀ x, (∃ b c, tyD t x = some b ∧ tyD u x = some c ∧ Q (.bl (b || c))) → ∃ bs : List Bool, [t, u].map (fun t => tyD t x) = bs.map some ∧ Q (.bl (bs.any id)) := fun x ⟨b, c, e, e2, h⟩ => ⟨[b, c], by rw [List.map_cons, List.map_cons, e, e2]; rfl, by cases b <;> cases c <;> exact h⟩
  exact e_isi (bor_slot_imp key h)
theorem i_trueX {b : Bool} {p q : Prop} (e : b = true) (h : p) : if b = true then p else q := by rw [if_pos e]; exact h
theorem i_falseX {b : Bool} {p q : Prop} (e : b = false) (h : q) : if b = true then p else q := by rw [if_neg (by rw [e]; decide)]; exact h
theorem e_lrg {a b c : IE} (h : bor a (wE pf pc a) env (fun x => bor b (wE pf pc b) env (fun y => bor c (wE pf pc c) env (fun z => onInt x fun i => onInt y fun j => onInt z fun k => (k = 1 ∨ k = -1) ∧ small i ∧ small j ∧ (i - j).natAbs ≤ 100000 ∧ Q (.lst (rangeD i j k))) E) E) E) : wE pf pc (.lrg a b c) env Q E := by
  unfold wE
  exact h
theorem e_items {a : IE} (h : bor a (wE pf pc a) env (fun x => itD x Q) E) : wE pf pc (.items a) env Q E := by
  unfold wE
  exact h
theorem e_calls {i : Nat} (h : onClo env[i]? fun k caps => pc.run k caps Q E) : wE pf pc (.calls i) env Q E := by
  unfold wE
  exact h
theorem e_callL {f : Nat} {es : IEs} (h : wEs pf pc es env (fun ds => pf f ds (fun d => noClo d = true ∧ Q d) (fun x => noCloX x = true ∧ E x)) E) : wE pf pc (.callL f es) env Q E := by
  unfold wE
  exact h
theorem s_nil {Q : List D → Prop} (h : Q []) : wEs pf pc .nil env Q E := by
  unfold wEs
  exact h
theorem s_cons {e : IE} {r : IEs} {Q : List D → Prop} (h : wE pf pc e env (fun x => wEs pf pc r env (fun xs => Q (x :: xs)) E) E) : wEs pf pc (.cons e r) env Q E := by
  unfold wEs
  exact h
theorem s_lam {k : Nat} {b : IE} {caps : List Nat} {r : IEs} {Q : List D → Prop} (h : pc.lam k caps.length b ∧ ∃ cs, capsD env caps = some cs ∧ noCloL cs = true ∧ wEs pf pc r env (fun xs => Q (.clo k cs :: xs)) E) : wEs pf pc (.lam k b caps r) env Q E := by
  unfold wEs
  exact h
theorem b_nil {Q : List D → Prop} (h : Q []) : wBs pf pc .nil env Q E := by
  unfold wBs
  exact h
theorem b_cons {e : IE} {r : IEs} {Q : List D → Prop} (h : bor e (wE pf pc e) env (fun x => wBs pf pc r env (fun xs => Q (x :: xs)) E) E) : wBs pf pc (.cons e r) env Q E := by
  unfold wBs
  exact h
theorem p_nil {Q : List (D × D) → Prop} (h : Q []) : wPs pf pc .nil env Q E := by
  unfold wPs
  exact h
theorem p_cons {k v : IE} {r : IPs} {Q : List (D × D) → Prop} (h : wE pf pc k env (fun x => wE pf pc v env (fun y => wPs pf pc r env (fun r => Q ((x, y) :: r)) E) E) E) : wPs pf pc (.cons k v r) env Q E := by
  unfold wPs
  exact h
theorem o_none {Q : Option Int → Prop} (h : Q none) : wO pf pc .none env Q E := by
  unfold wO
  exact h
theorem o_some {e : IE} {Q : Option Int → Prop} (h : bor e (wE pf pc e) env (fun x => onInt x fun i => Q (some i)) E) : wO pf pc (.some e) env Q E := by
  unfold wO
  exact h
theorem c_none {Q : Bool → Prop} (h : Q true) : wC pf pc .none env Q := by
  unfold wC
  exact h
theorem c_some {e : IE} {Q : Bool → Prop} (h : wT pf pc e env Q fun _ => False) : wC pf pc (.some e) env Q := by
  unfold wC
  exact h
theorem t_and {a b : IE} {Q : Bool → Prop} (h : wT pf pc a env (fun t => if t = true then wT pf pc b env Q E else Q false) E) : wT pf pc (.and a b) env Q E := by
  unfold wT
  exact h
theorem t_or {a b : IE} {Q : Bool → Prop} (h : wT pf pc a env (fun t => if t = true then Q true else wT pf pc b env Q E) E) : wT pf pc (.or a b) env Q E := by
  unfold wT
  exact h
theorem t_not {a : IE} {Q : Bool → Prop} (h : wT pf pc a env (fun t => Q (!t)) E) : wT pf pc (.not a) env Q E := by
  unfold wT
  exact h
theorem t_cmp {op : COp} {a b : IE} {Q : Bool → Prop} (h : bor (.cmp op a b) (wE pf pc (.cmp op a b)) env (fun x => onTru x Q) E) : wT pf pc (.cmp op a b) env Q E := by
  unfold wT
  exact h
theorem t_call {f : Nat} {es : IEs} {Q : Bool → Prop} (h : bor (.call f es) (wE pf pc (.call f es)) env (fun x => onTru x Q) E) : wT pf pc (.call f es) env Q E := by
  unfold wT
  exact h
theorem t_callL {f : Nat} {es : IEs} {Q : Bool → Prop} (h : bor (.callL f es) (wE pf pc (.callL f es)) env (fun x => onTru x Q) E) : wT pf pc (.callL f es) env Q E := by
  unfold wT
  exact h
theorem t_isi {a : IE} {ts : List Ty} {Q : Bool → Prop} (h : bor (.isi a ts) (wE pf pc (.isi a ts)) env (fun x => onTru x Q) E) : wT pf pc (.isi a ts) env Q E := by
  unfold wT
  exact h
theorem t_bi {b : BI} {es : IEs} {Q : Bool → Prop} (h : bor (.bi b es) (wE pf pc (.bi b es)) env (fun x => onTru x Q) E) : wT pf pc (.bi b es) env Q E := by
  unfold wT
  exact h
theorem t_slot {i : Nat} {Q : Bool → Prop} (h : bor (.slot i) (wE pf pc (.slot i)) env (fun x => onTru x Q) E) : wT pf pc (.slot i) env Q E := by
  unfold wT
  exact h
theorem t_idx {a b : IE} {Q : Bool → Prop} (h : bor (.idx a b) (wE pf pc (.idx a b)) env (fun x => onTru x Q) E) : wT pf pc (.idx a b) env Q E := by
  unfold wT
  exact h
theorem e_slot {i : Nat} {d : D} (e : env[i]? = some (.val d)) (h : Q d) : wE pf pc (.slot i) env Q E := by
  unfold wE
  rw [e]
  exact h
theorem r_val {i : Nat} {w : DEnv → DK → EK → Prop} {d : D} (e : env[i]? = some (.val d)) (h : Q d) : bor (.slot i) w env Q E := by
  show (match env[i]? with | some (.val d) => Q d | some (.own d) => Q d | _ => False)
  rw [e]
  exact h
theorem r_own {i : Nat} {w : DEnv → DK → EK → Prop} {d : D} (e : env[i]? = some (.own d)) (h : Q d) : bor (.slot i) w env Q E := by
  show (match env[i]? with | some (.val d) => Q d | some (.own d) => Q d | _ => False)
  rw [e]
  exact h
theorem r_e {e : IE} (hn : (match e with | .slot _ => true | _ => false) = false) (h : wE pf pc e env Q E) : bor e (wE pf pc e) env Q E := by
  cases e <;> try exact h
  unfold wE at h
  unfold bor
  split at h <;> first
    | (rename_i e; simp only [e]; exact h)
    | exact h.elim
theorem r_any {i : Nat} {w : DEnv → DK → EK → Prop} {s : Sl} {d : D} (hs : s = .val d ∨ s = .own d) (e : env[i]? = some s) (h : Q d) : bor (.slot i) w env Q E := by
  rcases hs with rfl | rfl
  · exact r_val e h
  · exact r_own e h
theorem forLoop_ix {g : D → DEnv → Option DEnv} {b : DEnv → KS → Prop} {ds : List D} (I : Nat → DEnv → Prop) (h0 : ∀ env, I ds.length env → K.nx env) (hs : ∀ j d env, j < ds.length → ds[j]? = some d → I j env → ∃ env1, g d env = some env1 ∧ ∀ K' : KS, K'.rt = K.rt → K'.ex = K.ex → (∀ e, I (j + 1) e → K'.nx e) → b env1 K') (hI : I 0 env) : forLoop g b K ds env := by
  refine forLoop_inv (fun rest env => ∃ j, j ≤ ds.length ∧ rest = ds.drop j ∧ I j env) (fun env ⟨j, hj, hr, hI⟩ => ?_) (fun d r env ⟨j, hj, hr, hI⟩ => ?_) _ _ ⟨0, Nat.zero_le _, rfl, hI⟩
  · have : j = ds.length := by
      have := congrArg List.length hr
      rw [List.length_drop] at this
      simp at this
      omega
    rw [this] at hI
    exact h0 env hI
  · have hlt : j < ds.length := by
      have := congrArg List.length hr
      rw [List.length_drop] at this
      simp at this
      omega
    rw [List.drop_eq_getElem_cons hlt] at hr
    cases hr
    obtain ⟨env1, e1, e2⟩ := hs j _ env hlt (List.getElem?_eq_getElem hlt) hI
    exact ⟨env1, e1, fun K' k1 k2 k3 => e2 K' k1 k2 fun e he => k3 e ⟨j + 1, hlt, rfl, he⟩⟩
theorem enum_get {ds : List D} {k : Int} {j : Nat} {d : D} (h : (ds.zipIdx.map fun p => D.tup [.int (k + (p.2 : Nat)), p.1])[j]? = some d) : ∃ x, ds[j]? = some x ∧ d = .tup [.int (k + (j : Nat)), x] := by
  rw [List.getElem?_map, List.getElem?_zipIdx] at h
  cases e : ds[j]? with
  | none => rw [e] at h; cases h
  | some x =>
    rw [e] at h
    simp at h
    exact ⟨x, rfl, h.symm⟩
theorem enum0_get {ds : List D} {j : Nat} {d : D} (h : (ds.zipIdx.map fun p => D.tup [.int (0 + (p.2 : Nat)), p.1])[j]? = some d) : ∃ x, ds[j]? = some x ∧ d = .tup [.int (j : Nat), x] := by
  obtain ⟨x, h1, h2⟩ := enum_get h
  rw [Int.zero_add] at h2
  exact ⟨x, h1, h2⟩
theorem small0 : small 0 := ⟨by decide, by decide⟩
theorem i_own {i : Nat} {d : D} {K : D → Prop} (e : env[i]? = some (.own d)) (h : K d) : onOwn env[i]? K := by
  rw [e]
  exact h
theorem i_clo {i k : Nat} {cs : List D} {K : Nat → List D → Prop} (e : env[i]? = some (.val (.clo k cs))) (h : K k cs) : onClo env[i]? K := by
  rw [e]
  exact h
theorem i_for {sh : List Nat} {t : IT} {src : ISrc} {b : ISs} (e : dkeys src (shr env sh) = none) (h : wSrc pf pc false src (shr env sh) (fun ds => forLoop (fun d e => asg t d e) (fun e k => wSs pf pc b e k) K ds (shr env sh)) (K.ex (shr env sh))) : wS pf pc (.for sh t src b) env K := by
  unfold wS
  rw [e]
  exact h
theorem e_lc {elt : IE} {tg : IT} {src : ISrc} {c : IO} {own : List Nat} (e : dkeys src env = none) (h : wSrc pf pc true src env (fun ds => lcLoop (fun d e => asg tg d e) (fun e k => wC pf pc c e k) (fun e k => wE pf pc elt e k fun _ => False) (wipeD env own) Q ds []) E) : wE pf pc (.lc elt tg src c own) env Q E := by
  unfold wE
  rw [e]
  exact h
theorem s_rng {m : Bool} {a b : IE} {c : Int} {Q : List D → Prop} (h : bor a (wE pf pc a) env (fun x => bor b (wE pf pc b) env (fun y => onInt x fun i => onInt y fun j => (c = 1 ∨ c = -1) ∧ small i ∧ small j ∧ (i - j).natAbs ≤ 100000 ∧ Q (rangeD i j c)) E) E) : wSrc pf pc m (.rng a b c) env Q E := by
  unfold wSrc
  exact h
theorem s_valF {e : IE} {Q : List D → Prop} (h : wE pf pc e env (fun x => onItems x Q) E) : wSrc pf pc false (.val e) env Q E := by
  unfold wSrc
  exact h
theorem s_valT {e : IE} {Q : List D → Prop} (h : bor e (wE pf pc e) env (fun x => onItems x Q) E) : wSrc pf pc true (.val e) env Q E := by
  unfold wSrc
  exact h
theorem s_enumF {e : IE} {k : Int} {Q : List D → Prop} (h : wE pf pc e env (fun x => onItems x fun ds => small k ∧ Q (ds.zipIdx.map fun p => .tup [.int (k + (p.2 : Nat)), p.1])) E) : wSrc pf pc false (.enum e k) env Q E := by
  unfold wSrc
  exact h
theorem s_zipT {a b : IE} {Q : List D → Prop} (h : bor a (wE pf pc a) env (fun x => bor b (wE pf pc b) env (fun y => onItems x fun ds => onItems y fun es => Q ((ds.zip es).map fun p => .tup [p.1, p.2])) E) E) : wSrc pf pc true (.zip a b) env Q E := by
  unfold wSrc
  exact h

theorem d_int {i : Int} {K : Int → Prop} (h : K i) : onInt (.int i) K := h
theorem d_bl {i : Bool} {K : Bool → Prop} (h : K i) : onTru (.bl i) K := h
theorem d_lst {i : List D} {K : List D → Prop} (h : K i) : onLst (.lst i) K := h
theorem d_addi {i j : Int} (h : Q (.int (i + j))) : binD .add (.int i) (.int j) Q := h
theorem d_subi {i j : Int} (h : Q (.int (i - j))) : binD .sub (.int i) (.int j) Q := h
theorem d_lenL {x : List D} (h : Q (.int x.length)) : biD .len [.lst x] Q := h
theorem d_lenT {x : List D} (h : Q (.int x.length)) : biD .len [.tup x] Q := h
theorem d_intb {x : Bool} (h : Q (.int (if x then 1 else 0))) : biD .int [.bl x] Q := h
theorem d_le {i j : Int} (h : Q (.bl (decide (i ≤ j)))) : cmpD .le (.int i) (.int j) Q := h
theorem d_lt {i j : Int} (h : Q (.bl (decide (i < j)))) : cmpD .lt (.int i) (.int j) Q := h
theorem d_gt {i j : Int} (h : Q (.bl (decide (j < i)))) : cmpD .gt (.int i) (.int j) Q := h
theorem d_ge {i j : Int} (h : Q (.bl (decide (j ≤ i)))) : cmpD .ge (.int i) (.int j) Q := h
theorem d_isn {x : D} (h : Q (.bl (isNon x))) : cmpD .is x .non Q := h
theorem d_isnn {x : D} (h : Q (.bl (!isNon x))) : cmpD .isnot x .non Q := h
theorem d_min3 {i j k : Int} (h : Q (.int (if k < (if j < i then j else i) then k else (if j < i then j else i)))) : biD .min [.int i, .int j, .int k] Q := h
theorem d_rev {x : List D} (h : Q (.lst x.reverse)) : revD (.lst x) Q := h
theorem d_itL {x : List D} {K : List D → Prop} (h : K x) : onItems (.lst x) K := h
theorem d_itT {x : List D} {K : List D → Prop} (h : K x) : onItems (.tup x) K := h
theorem d_lenS {l : List Nat} (h : Q (.int l.length)) : biD .len [tx l] Q := by
  show Q (.int ((T l).length : Nat))
  rw [T_len]
  exact h
theorem d_itS {l : List Nat} {K : List D → Prop} (h : K (l.map fun c => tx [c])) : onItems (tx l) K := by
  show K (Dl.signs (T l))
  rw [signs_T]
  exact h
theorem d_addT {a b : List Nat} (hz : a.length + b.length ≤ sizeLine) (h : Q (tx (a ++ b))) : binD .add (tx a) (tx b) Q := by
  show _ ∧ Q (.str (T a ++ T b))
  rw [T_app, T_len, T_len]
  exact ⟨hz, h⟩
theorem d_idxL {x : List D} {i : Nat} {d : D} (e : x[i]? = some d) (h : Q d) : idxD (.lst x) (.int (i : Nat)) Q := ⟨d, by rw [atI_nat]; exact e, h⟩
theorem d_idxTp {x : List D} {i : Nat} {d : D} (e : x[i]? = some d) (h : Q d) : idxD (.tup x) (.int (i : Nat)) Q := ⟨d, by rw [atI_nat]; exact e, h⟩
theorem d_idxZ {x : List D} {d : D} (h : Q d) : idxD (.lst (x ++ [d])) (.int (-1)) Q := ⟨d, atI_last x d, h⟩
theorem d_idxS {l : List Nat} {i c : Nat} (e : l[i]? = some c) (h : Q (tx [c])) : idxD (tx l) (.int (i : Nat)) Q := ⟨c, by rw [atI_nat, T_list]; exact e, h⟩
theorem d_eqi {i j : Int} (h : Q (.bl (decide (i = j)))) : cmpD .eq (.int i) (.int j) Q := eqD_int (K := fun b => Q (.bl b)) h
theorem d_eqb {i j : Bool} (h : Q (.bl (i == j))) : cmpD .eq (.bl i) (.bl j) Q := eqD_bl (K := fun b => Q (.bl b)) h
theorem d_neb {i j : Bool} (h : Q (.bl (!(i == j)))) : cmpD .ne (.bl i) (.bl j) Q := eqD_bl (K := fun b => Q (.bl (!b))) h
theorem d_eqt {i j : List Nat} (h : Q (.bl (decide (i = j)))) : cmpD .eq (tx i) (tx j) Q := eqD_T (K := fun b => Q (.bl b)) h
theorem d_net {i j : List Nat} (h : Q (.bl (!decide (i = j)))) : cmpD .ne (tx i) (tx j) Q := eqD_T (K := fun b => Q (.bl (!b))) h
theorem d_slcT {l : List Nat} {lo hi : Option Int} (h : Q (tx (cutA l lo hi))) : slcD (tx l) lo hi Q := by
  show Q (.str (cutS (T l) lo hi))
  rw [T_cut]
  exact h
theorem i_true {p q : Prop} (h : p) : if true = true then p else q := by rw [if_pos rfl]; exact h
theorem i_false {p q : Prop} (h : q) : if false = true then p else q := by rw [if_neg (by decide)]; exact h
theorem i_asgT2 {ts : List IT} {d : D} {env e2 : DEnv} {P : DEnv → Prop} (e : asg (.tp ts) d env = some e2) (h : P e2) : ∃ env2, asg (.tp ts) d env = some env2 ∧ P env2 := ⟨e2, e, h⟩
theorem i_par2 {js : List Nat} {es : IEs} {ds : List D} {env e2 : DEnv} {P : DEnv → Prop} (e : parSet js es ds env = some e2) (h : P e2) : ∃ env2, parSet js es ds env = some env2 ∧ P env2 := ⟨e2, e, h⟩
end
end Dl
set_option maxHeartbeats 0
namespace K03
open PySem PySem.Spec PyProof.Rows L2 Dl LamX
abbrev R : PySem.W.OpenRow := PySem.W.OpenLaw.row PySem.Challenge.rw_lettermends_k03_mends_between_words
def top (i : Nat) : Stmt := PySem.Challenge.pw_lettermends_k03_mends_between_words.main.body.getD i (.Pass ⟨0, 0, 0, 0⟩)
def cls : CL := [("BadDeeds", "index"), ("BadEnds", "thing"), ("BadLetters", "thing"), ("BadMachine", "thing"), ("BadMany", "thing"), ("BadOther", "thing"), ("BadStarts", "thing"), ("BadSteps", "index"), ("BadWay", "thing"), ("BadWord", "thing"), ("TooMany", "many")]
def gc : GC := ⟨[("is_plain", 0), ("need_plain", 1), ("need_two", 2), ("mend_table", 3), ("fewest", 4), ("mends_between", 5), ("_law_below", 6), ("_law_chance", 7), ("_law_pick", 8), ("_law_mixed", 9), ("_law_copied", 10), ("_law_same", 11), ("_law_kword", 12), ("_law_kletters", 13), ("_law_klev", 14), ("_law_kraised", 15), ("_law_krefuses", 16), ("_law_kno_word", 17), ("_law_knear", 18), ("_law_out_from", 19)], [("mends_between", ["other", "word"], [1, 0])], [("BadDeeds", 0), ("BadEnds", 1), ("BadLetters", 2), ("BadMachine", 3), ("BadMany", 4), ("BadOther", 5), ("BadStarts", 6), ("BadSteps", 7), ("BadWay", 8), ("BadWord", 9), ("TooMany", 10)], [("SMALL", .str "abcdefghijklmnopqrstuvwxyz"), ("LONGEST", .int 60)], [(0, "index"), (1, "thing"), (2, "thing"), (3, "thing"), (4, "thing"), (5, "thing"), (6, "thing"), (7, "index"), (8, "thing"), (9, "thing"), (10, "many")]⟩
def n_is_plain : List Str := ["thing", "sign"]
def b_is_plain : ISs := (.cons (.ret [0] (.and (.isi (.slot 0) [.str]) (.and (.cmp .le (.bi .len (.cons (.slot 0) .nil)) (.cn (.int 60))) (.cmp .eq (.lc (.slot 1) (.nm 1) (.val (.slot 0)) (.some (.cmp .notin (.slot 1) (.cn (.str "abcdefghijklmnopqrstuvwxyz")))) [1]) (.lst .nil))))) .nil)
def n_need_plain : List Str := ["word"]
def b_need_plain : ISs := (.cons (.ite [0] (.not (.call 0 (.cons (.slot 0) .nil))) (.cons (.rais [0] 9 (.slot 0)) .nil) .nil) (.cons (.ret [0] (.slot 0)) .nil))
def n_need_two : List Str := ["word", "other"]
def b_need_two : ISs := (.cons (.expr [0] (.call 1 (.cons (.slot 0) .nil))) (.cons (.ite [1] (.not (.call 0 (.cons (.slot 1) .nil))) (.cons (.rais [1] 5 (.slot 1)) .nil) .nil) (.cons (.ret [0, 1] (.tup (.cons (.slot 0) (.cons (.slot 1) .nil)))) .nil)))
def n_mend_table : List Str := ["one", "two", "rows", "at", "row", "place", "turned"]
def b_mend_table : ISs := (.cons (.asg [] 2 (.lst (.cons (.lrg (.bi .len (.cons (.slot 1) .nil)) (.neg (.cn (.int 1))) (.neg (.cn (.int 1)))) .nil))) (.cons (.for [] (.nm 3) (.rng (.bin .sub (.bi .len (.cons (.slot 0) .nil)) (.cn (.int 1))) (.neg (.cn (.int 1))) (-1)) (.cons (.asg [] 4 (.lst (.cons (.bin .sub (.bi .len (.cons (.slot 0) .nil)) (.slot 3)) .nil))) (.cons (.for [] (.nm 5) (.rng (.bin .sub (.bi .len (.cons (.slot 1) .nil)) (.cn (.int 1))) (.neg (.cn (.int 1))) (-1)) (.cons (.asg [] 6 (.bin .add (.idx (.idx (.slot 2) (.neg (.cn (.int 1)))) (.bin .add (.slot 5) (.cn (.int 1)))) (.bi .int (.cons (.cmp .ne (.idx (.slot 0) (.slot 3)) (.idx (.slot 1) (.slot 5))) .nil)))) (.cons (.app [] 4 (.bi .min (.cons (.slot 6) (.cons (.bin .add (.idx (.idx (.slot 2) (.neg (.cn (.int 1)))) (.slot 5)) (.cn (.int 1))) (.cons (.bin .add (.idx (.slot 4) (.neg (.cn (.int 1)))) (.cn (.int 1))) .nil))))) .nil))) (.cons (.app [] 2 (.rev (.slot 4))) .nil)))) (.cons (.ret [] (.rev (.slot 2))) .nil)))
def n_fewest : List Str := ["one", "two"]
def b_fewest : ISs := (.cons (.ret [0, 1] (.idx (.idx (.call 3 (.cons (.slot 0) (.cons (.slot 1) .nil))) (.cn (.int 0))) (.cn (.int 0)))) .nil)
def n_mends_between : List Str := ["word", "other", "one", "two"]
def b_mends_between : ISs := (.cons (.asgT [0, 1] [(.nm 2), (.nm 3)] (.call 2 (.cons (.slot 0) (.cons (.slot 1) .nil)))) (.cons (.ret [2, 3] (.call 4 (.cons (.slot 2) (.cons (.slot 3) .nil)))) .nil))
def n__law_chance : List Str := ["stream", "many"]
def b__law_chance : ISs := (.cons (.ret [0, 1] (.cmp .eq (.call 6 (.cons (.slot 0) (.cons (.slot 1) .nil))) (.cn (.int 0)))) .nil)
def n__law_pick : List Str := ["stream", "some"]
def b__law_pick : ISs := (.cons (.ret [0] (.idx (.slot 1) (.call 6 (.cons (.slot 0) (.cons (.bi .len (.cons (.slot 1) .nil)) .nil))))) .nil)
def n__law_copied : List Str := ["thing", "found", "key", "part"]
def b__law_copied : ISs := (.cons (.ite [] (.isi (.slot 0) [.dict]) (.cons (.ret [0] (.bi .dict (.cons (.lc (.tup (.cons (.slot 2) (.cons (.call 10 (.cons (.idx (.slot 0) (.slot 2)) .nil)) .nil))) (.nm 2) (.val (.slot 0)) .none [2]) .nil))) .nil) .nil) (.cons (.ite [] (.not (.isi (.slot 0) [.list, .tuple])) (.cons (.ret [0] (.slot 0)) .nil) .nil) (.cons (.asg [0] 1 (.lc (.call 10 (.cons (.slot 3) .nil)) (.nm 3) (.val (.slot 0)) .none [3])) (.cons (.ret [1] (.ite (.isi (.slot 0) [.list]) (.slot 1) (.bi .tuple (.cons (.slot 1) .nil)))) .nil))))
def n__law_same : List Str := ["found", "due", "x", "y"]
def b__law_same : ISs := (.cons (.ite [] (.isi (.slot 1) [.list, .tuple]) (.cons (.ite [] (.or (.cmp .ne (.isi (.slot 0) [.list]) (.isi (.slot 1) [.list])) (.cmp .ne (.isi (.slot 0) [.tuple]) (.isi (.slot 1) [.tuple]))) (.cons (.ret [] (.cn (.bl false))) .nil) .nil) (.cons (.ret [] (.and (.cmp .eq (.bi .len (.cons (.slot 0) .nil)) (.bi .len (.cons (.slot 1) .nil))) (.bi .all (.cons (.lc (.call 11 (.cons (.slot 2) (.cons (.slot 3) .nil))) (.tp [(.nm 2), (.nm 3)]) (.zip (.slot 0) (.slot 1)) .none [2, 3]) .nil)))) .nil)) .nil) (.cons (.ite [] (.isi (.slot 1) [.dict]) (.cons (.ret [] (.and (.isi (.slot 0) [.dict]) (.call 11 (.cons (.items (.slot 0)) (.cons (.items (.slot 1)) .nil))))) .nil) .nil) (.cons (.ite [] (.isi (.slot 1) [.int]) (.cons (.ret [] (.and (.isi (.slot 0) [.int]) (.and (.cmp .eq (.isi (.slot 0) [.bool]) (.isi (.slot 1) [.bool])) (.cmp .eq (.slot 0) (.slot 1))))) .nil) .nil) (.cons (.ite [] (.cmp .is (.slot 1) (.cn .non)) (.cons (.ret [] (.cmp .is (.slot 0) (.cn .non))) .nil) .nil) (.cons (.ite [] (.isi (.slot 1) [.str]) (.cons (.ret [] (.and (.isi (.slot 0) [.str]) (.cmp .eq (.slot 0) (.slot 1)))) .nil) .nil) (.cons (.ret [] (.and (.not (.isi (.slot 0) [.int, .str, .list, .tuple, .dict])) (.cmp .eq (.slot 0) (.slot 1)))) .nil))))))
def n__law_kword : List Str := ["stream", "letters", "most", "many", "piece", "turn"]
def b__law_kword : ISs := (.cons (.asg [0] 3 (.call 6 (.cons (.slot 0) (.cons (.bin .add (.slot 2) (.cn (.int 1))) .nil)))) (.cons (.ite [0] (.call 7 (.cons (.slot 0) (.cons (.cn (.int 3)) .nil))) (.cons (.asg [0, 0, 1] 4 (.mt .join (.cn (.str "")) (.cons (.lc (.call 8 (.cons (.slot 0) (.cons (.slot 1) .nil))) (.nm 5) (.rng (.cn (.int 0)) (.bin .add (.cn (.int 1)) (.call 6 (.cons (.slot 0) (.cons (.cn (.int 3)) .nil)))) 1) .none [5]) .nil))) (.cons (.ret [] (.slc (.bin .mul (.slot 4) (.slot 2)) .none (.some (.slot 3)))) .nil)) .nil) (.cons (.ret [0, 1] (.mt .join (.cn (.str "")) (.cons (.lc (.call 8 (.cons (.slot 0) (.cons (.slot 1) .nil))) (.nm 5) (.rng (.cn (.int 0)) (.slot 3) 1) .none [5]) .nil))) .nil)))
def n__law_kletters : List Str := ["stream"]
def b__law_kletters : ISs := (.cons (.ret [0, 0] (.bi .sorted (.cons (.slc (.call 9 (.cons (.slot 0) (.cons (.bi .list (.cons (.cn (.str "abcdxyz")) .nil)) .nil))) .none (.some (.bin .add (.cn (.int 1)) (.call 6 (.cons (.slot 0) (.cons (.cn (.int 3)) .nil)))))) .nil))) .nil)
def n__law_klev : List Str := ["word", "other", "row", "at", "sign", "more", "place", "letter"]
def b__law_klev : ISs := (.cons (.asg [] 2 (.lrg (.cn (.int 0)) (.bin .add (.bi .len (.cons (.slot 1) .nil)) (.cn (.int 1))) (.cn (.int 1)))) (.cons (.for [0] (.tp [(.nm 3), (.nm 4)]) (.enum (.slot 0) 0) (.cons (.asg [] 5 (.lst (.cons (.bin .add (.slot 3) (.cn (.int 1))) .nil))) (.cons (.for [1] (.tp [(.nm 6), (.nm 7)]) (.enum (.slot 1) 0) (.cons (.app [] 5 (.bi .min (.cons (.bin .add (.idx (.slot 2) (.slot 6)) (.bi .int (.cons (.cmp .ne (.slot 4) (.slot 7)) .nil))) (.cons (.bin .add (.idx (.slot 2) (.bin .add (.slot 6) (.cn (.int 1)))) (.cn (.int 1))) (.cons (.bin .add (.idx (.slot 5) (.neg (.cn (.int 1)))) (.cn (.int 1))) .nil))))) .nil)) (.cons (.asg [5] 2 (.slot 5)) .nil)))) (.cons (.ret [] (.idx (.slot 2) (.neg (.cn (.int 1))))) .nil)))
def n__law_kraised : List Str := ["run", "found", "e"]
def b__law_kraised : ISs := (.cons (.asg [] 1 (.cn .non)) (.cons (.tryc (.cons (.expr [] (.calls 0)) .nil) [(.mk 3 2 false 1 "machine"), (.mk 4 2 false 1 "many"), (.mk 2 2 false 1 "letters"), (.mk 7 2 false 1 "steps"), (.mk 6 2 false 1 "starts"), (.mk 1 2 false 1 "ends"), (.mk 9 2 false 1 "word"), (.mk 5 2 false 1 "other"), (.mk 0 2 false 1 "deeds"), (.mk 8 2 false 1 "way"), (.mk 10 2 false 1 "too many")]) (.cons (.ret [1] (.slot 1)) .nil)))
def n__law_krefuses : List Str := ["kind", "thing", "run", "found"]
def b__law_krefuses : ISs := (.cons (.asg [2] 3 (.call 15 (.cons (.slot 2) .nil))) (.cons (.ret [1] (.and (.cmp .isnot (.slot 3) (.cn .non)) (.and (.cmp .eq (.idx (.slot 3) (.cn (.int 0))) (.slot 0)) (.call 11 (.cons (.idx (.slot 3) (.cn (.int 1))) (.cons (.slot 1) .nil)))))) .nil))
def n__law_kno_word : List Str := ["stream", "some"]
def b__law_kno_word : ISs := (.cons (.asg [] 1 (.lst (.cons (.cn .non) (.cons (.cn (.int 5)) (.cons (.lst (.cons (.cn (.str "a")) .nil)) (.cons (.cn (.str "A")) (.cons (.cn (.str "a b")) (.cons (.bin .mul (.cn (.str "a")) (.cn (.int 61))) (.cons (.cn (.str "a1")) (.cons (.cn (.str "a\n")) (.cons (.tup (.cons (.cn (.str "a")) .nil)) (.cons (.cn (.bl true)) (.cons (.cn (.str "a-")) (.cons (.dic .nil) .nil)))))))))))))) (.cons (.ret [0, 1] (.call 10 (.cons (.call 8 (.cons (.slot 0) (.cons (.slot 1) .nil))) .nil))) .nil))
def n__law_knear : List Str := ["stream", "letters", "word", "many", "turn", "at", "way", "letter"]
def b__law_knear : ISs := (.cons (.for [] (.nm 4) (.rng (.cn (.int 0)) (.slot 3) 1) (.cons (.par [0, 0, 0, 1] [5, 6, 7] (.cons (.call 6 (.cons (.slot 0) (.cons (.bin .add (.bi .len (.cons (.slot 2) .nil)) (.cn (.int 1))) .nil))) (.cons (.call 6 (.cons (.slot 0) (.cons (.cn (.int 3)) .nil))) (.cons (.call 8 (.cons (.slot 0) (.cons (.slot 1) .nil))) .nil)))) (.cons (.asg [7, 7] 2 (.bin .add (.bin .add (.slc (.slot 2) .none (.some (.slot 5))) (.idx (.lst (.cons (.slot 7) (.cons (.cn (.str "")) (.cons (.slot 7) .nil)))) (.slot 6))) (.slc (.slot 2) (.some (.bin .add (.slot 5) (.idx (.lst (.cons (.cn (.int 0)) (.cons (.cn (.int 1)) (.cons (.cn (.int 1)) .nil)))) (.slot 6)))) .none))) .nil))) (.cons (.ret [2] (.slot 2)) .nil))
def n__law_out_from : List Str := ["word", "letters", "most", "found", "rows", "turn", "more", "one", "some", "letter", "other", "at"]
def b__law_out_from : ISs := (.cons (.par [0, 0] [3, 4] (.cons (.dic (.cons (.slot 0) (.cn (.int 0)) .nil)) (.cons (.lst (.cons (.slot 0) .nil)) .nil))) (.cons (.for [] (.nm 5) (.rng (.cn (.int 0)) (.slot 2) 1) (.cons (.asg [] 6 (.lst .nil)) (.cons (.for [4] (.nm 7) (.val (.slot 4)) (.cons (.asg [] 8 (.lc (.bin .add (.slc (.slot 7) .none (.some (.slot 11))) (.slc (.slot 7) (.some (.bin .add (.slot 11) (.cn (.int 1)))) .none)) (.nm 11) (.rng (.cn (.int 0)) (.bi .len (.cons (.slot 7) .nil)) 1) .none [11])) (.cons (.for [1] (.nm 9) (.val (.slot 1)) (.cons (.extd [] 8 (.lc (.bin .add (.bin .add (.slc (.slot 7) .none (.some (.slot 11))) (.slot 9)) (.slc (.slot 7) (.some (.slot 11)) .none)) (.nm 11) (.rng (.cn (.int 0)) (.bin .add (.bi .len (.cons (.slot 7) .nil)) (.cn (.int 1))) 1) .none [11])) (.cons (.extd [] 8 (.lc (.bin .add (.bin .add (.slc (.slot 7) .none (.some (.slot 11))) (.slot 9)) (.slc (.slot 7) (.some (.bin .add (.slot 11) (.cn (.int 1)))) .none)) (.nm 11) (.rng (.cn (.int 0)) (.bi .len (.cons (.slot 7) .nil)) 1) .none [11])) .nil))) (.cons (.for [8] (.nm 10) (.val (.slot 8)) (.cons (.ite [] (.cmp .notin (.slot 10) (.slot 3)) (.cons (.setk [] 3 (.slot 10) (.bin .add (.slot 5) (.cn (.int 1)))) (.cons (.app [10] 6 (.slot 10)) .nil)) .nil) .nil)) .nil)))) (.cons (.asg [6] 4 (.slot 6)) .nil)))) (.cons (.ret [3] (.slot 3)) .nil)))
def n_law : List Str := ["script", "stream", "turn", "letters", "word", "other", "due", "told", "long", "less", "far", "bad", "odd", "start", "found", "at"]
def b_law : ISs := (.cons (.for [] (.nm 2) (.rng (.cn (.int 0)) (.cn (.int 10)) 1) (.cons (.asg [1] 3 (.call 13 (.cons (.slot 1) .nil))) (.cons (.asg [1, 3] 4 (.call 12 (.cons (.slot 1) (.cons (.slot 3) (.cons (.cn (.int 9)) .nil))))) (.cons (.asg [1, 3] 5 (.call 12 (.cons (.slot 1) (.cons (.slot 3) (.cons (.cn (.int 9)) .nil))))) (.cons (.ite [1] (.call 7 (.cons (.slot 1) (.cons (.cn (.int 2)) .nil))) (.cons (.asg [1, 3, 4, 1] 5 (.call 18 (.cons (.slot 1) (.cons (.slot 3) (.cons (.slot 4) (.cons (.call 6 (.cons (.slot 1) (.cons (.cn (.int 5)) .nil))) .nil)))))) .nil) .nil) (.cons (.asg [4, 5] 6 (.call 14 (.cons (.slot 4) (.cons (.slot 5) .nil)))) (.cons (.asg [4, 5, 5, 4, 5, 4] 7 (.lst (.cons (.call 5 (.cons (.slot 4) (.cons (.slot 5) .nil))) (.cons (.callk 5 (.cons (.slot 5) (.cons (.slot 4) .nil)) [1, 0]) (.cons (.call 5 (.cons (.slot 5) (.cons (.slot 4) .nil))) .nil))))) (.cons (.ite [7, 6] (.not (.call 11 (.cons (.slot 7) (.cons (.bin .mul (.lst (.cons (.slot 6) .nil)) (.cn (.int 3))) .nil)))) (.cons (.ret [] (.cn (.bl false))) .nil) .nil) (.cons (.par [1, 3, 1] [8, 9] (.cons (.mt .join (.cn (.str "")) (.cons (.lc (.call 8 (.cons (.slot 1) (.cons (.slot 3) .nil))) (.nm 15) (.rng (.cn (.int 0)) (.cn (.int 60)) 1) .none [15]) .nil)) (.cons (.call 6 (.cons (.slot 1) (.cons (.cn (.int 61)) .nil))) .nil))) (.cons (.asg [1, 3] 10 (.mt .join (.cn (.str "")) (.cons (.lc (.call 8 (.cons (.slot 1) (.cons (.slot 3) .nil))) (.nm 15) (.rng (.cn (.int 0)) (.bin .sub (.cn (.int 60)) (.slot 9)) 1) .none [15]) .nil))) (.cons (.ite [8, 10, 8, 10] (.not (.call 11 (.cons (.call 5 (.cons (.slot 8) (.cons (.slot 10) .nil))) (.cons (.call 14 (.cons (.slot 8) (.cons (.slot 10) .nil))) .nil)))) (.cons (.ret [] (.cn (.bl false))) .nil) .nil) (.cons (.asgT [1, 1] [(.nm 11), (.nm 12)] (.tup (.cons (.call 17 (.cons (.slot 1) .nil)) (.cons (.call 17 (.cons (.slot 1) .nil)) .nil)))) (.cons (.ite [11, 11] (.not (.callL 16 (.cons (.cn (.str "word")) (.cons (.slot 11) (.lam 205042 (.call 5 (.cons (.slot 0) (.cons (.cn .non) .nil))) [11] .nil))))) (.cons (.ret [] (.cn (.bl false))) .nil) .nil) (.cons (.ite [12, 12, 4] (.not (.callL 16 (.cons (.cn (.str "other")) (.cons (.slot 12) (.lam 207043 (.call 5 (.cons (.slot 1) (.cons (.slot 0) .nil))) [12, 4] .nil))))) (.cons (.ret [] (.cn (.bl false))) .nil) .nil) .nil)))))))))))))) (.cons (.asg [1] 3 (.slc (.call 13 (.cons (.slot 1) .nil)) .none (.some (.cn (.int 2))))) (.cons (.asg [1, 3] 13 (.call 12 (.cons (.slot 1) (.cons (.slot 3) (.cons (.cn (.int 3)) .nil))))) (.cons (.asg [13, 3] 14 (.call 19 (.cons (.slot 13) (.cons (.slot 3) (.cons (.cn (.int 3)) .nil))))) (.cons (.for [1] (.nm 4) (.val (.slc (.call 9 (.cons (.slot 1) (.cons (.bi .list (.cons (.slot 14) .nil)) .nil))) .none (.some (.cn (.int 40))))) (.cons (.ite [13, 4] (.not (.call 11 (.cons (.call 5 (.cons (.slot 13) (.cons (.slot 4) .nil))) (.cons (.idx (.slot 14) (.slot 4)) .nil)))) (.cons (.ret [] (.cn (.bl false))) .nil) .nil) .nil)) (.cons (.ret [] (.call 11 (.cons (.lst (.cons (.call 5 (.cons (.cn (.str "")) (.cons (.cn (.str "")) .nil))) (.cons (.call 5 (.cons (.cn (.str "")) (.cons (.cn (.str "abc")) .nil))) (.cons (.call 5 (.cons (.cn (.str "abca")) (.cons (.cn (.str "bcda")) .nil))) .nil)))) (.cons (.lst (.cons (.cn (.int 0)) (.cons (.cn (.int 3)) (.cons (.cn (.int 2)) .nil)))) .nil)))) .nil))))))
def l_205042 : IE := (.call 5 (.cons (.slot 0) (.cons (.cn .non) .nil)))
def l_207043 : IE := (.call 5 (.cons (.slot 1) (.cons (.slot 0) .nil)))
def lms : Nat → Option ILam := fun k => ([(205042, ⟨1, l_205042⟩), (207043, ⟨2, l_207043⟩)] : List (Nat × ILam)).lookup k
def fns : Nat → Option FK
  | 0 => some (.code ⟨1, 2, b_is_plain⟩)
  | 1 => some (.code ⟨1, 1, b_need_plain⟩)
  | 2 => some (.code ⟨2, 2, b_need_two⟩)
  | 3 => some (.code ⟨2, 7, b_mend_table⟩)
  | 4 => some (.code ⟨2, 2, b_fewest⟩)
  | 5 => some (.code ⟨2, 4, b_mends_between⟩)
  | 6 => some (.spec fun _ ds Q _ => mBelow ds Q)
  | 7 => some (.code ⟨2, 2, b__law_chance⟩)
  | 8 => some (.code ⟨2, 2, b__law_pick⟩)
  | 9 => some (.spec fun _ ds Q _ => mMixed ds Q)
  | 10 => some (.code ⟨1, 4, b__law_copied⟩)
  | 11 => some (.code ⟨2, 4, b__law_same⟩)
  | 12 => some (.code ⟨3, 6, b__law_kword⟩)
  | 13 => some (.code ⟨1, 1, b__law_kletters⟩)
  | 14 => some (.code ⟨2, 8, b__law_klev⟩)
  | 15 => some (.code ⟨1, 3, b__law_kraised⟩)
  | 16 => some (.code ⟨3, 4, b__law_krefuses⟩)
  | 17 => some (.code ⟨1, 2, b__law_kno_word⟩)
  | 18 => some (.code ⟨4, 8, b__law_knear⟩)
  | 19 => some (.code ⟨3, 12, b__law_out_from⟩)
  | _ => none
def cf : Nat → Co
  | 6 => Co.of 1
  | 7 => Co.of 1
  | 8 => Co.of 1
  | 9 => Co.of 100000
  | 12 => Co.of 33554435
  | 13 => Co.of 100001
  | 17 => Co.of 1
  | 18 => Co.of 50331648
  | _ => Co.of 0
def p_below : Nat → Pos := fun i => ([⟨80, 4, 80, 10⟩, ⟨80, 11, 80, 12⟩, ⟨80, 4, 80, 13⟩, ⟨80, 16, 80, 22⟩, ⟨80, 23, 80, 24⟩, ⟨80, 16, 80, 25⟩, ⟨80, 28, 80, 29⟩, ⟨80, 16, 80, 29⟩, ⟨80, 4, 80, 29⟩, ⟨81, 10, 81, 16⟩, ⟨81, 17, 81, 18⟩, ⟨81, 10, 81, 19⟩, ⟨81, 23, 81, 24⟩, ⟨81, 10, 81, 24⟩, ⟨81, 29, 81, 35⟩, ⟨81, 36, 81, 37⟩, ⟨81, 29, 81, 38⟩, ⟨81, 42, 81, 44⟩, ⟨81, 29, 81, 44⟩, ⟨81, 10, 81, 44⟩, ⟨82, 8, 82, 12⟩, ⟨82, 15, 82, 21⟩, ⟨82, 22, 82, 23⟩, ⟨82, 15, 82, 24⟩, ⟨82, 15, 82, 28⟩, ⟨82, 29, 82, 30⟩, ⟨82, 15, 82, 31⟩, ⟨82, 8, 82, 31⟩, ⟨83, 8, 83, 14⟩, ⟨83, 15, 83, 16⟩, ⟨83, 8, 83, 17⟩, ⟨83, 20, 83, 23⟩, ⟨83, 24, 83, 30⟩, ⟨83, 31, 83, 32⟩, ⟨83, 24, 83, 33⟩, ⟨83, 36, 83, 41⟩, ⟨83, 24, 83, 41⟩, ⟨83, 44, 83, 48⟩, ⟨83, 24, 83, 48⟩, ⟨83, 51, 83, 53⟩, ⟨83, 24, 83, 53⟩, ⟨83, 20, 83, 54⟩, ⟨83, 57, 83, 67⟩, ⟨83, 20, 83, 67⟩, ⟨83, 8, 83, 67⟩, ⟨84, 8, 84, 14⟩, ⟨84, 15, 84, 16⟩, ⟨84, 8, 84, 17⟩, ⟨84, 28, 84, 32⟩, ⟨84, 36, 84, 38⟩, ⟨84, 42, 84, 44⟩, ⟨84, 36, 84, 44⟩, ⟨84, 28, 84, 44⟩, ⟨84, 20, 84, 24⟩, ⟨84, 50, 84, 51⟩, ⟨84, 20, 84, 51⟩, ⟨84, 8, 84, 51⟩, ⟨81, 4, 84, 51⟩, ⟨85, 7, 85, 13⟩, ⟨85, 14, 85, 15⟩, ⟨85, 7, 85, 16⟩, ⟨85, 19, 85, 20⟩, ⟨85, 7, 85, 20⟩, ⟨86, 8, 86, 13⟩, ⟨86, 16, 86, 19⟩, ⟨86, 20, 86, 26⟩, ⟨86, 27, 86, 28⟩, ⟨86, 20, 86, 29⟩, ⟨86, 16, 86, 30⟩, ⟨86, 33, 86, 37⟩, ⟨86, 16, 86, 37⟩, ⟨86, 8, 86, 37⟩, ⟨87, 8, 87, 14⟩, ⟨87, 15, 87, 16⟩, ⟨87, 8, 87, 17⟩, ⟨87, 20, 87, 26⟩, ⟨87, 27, 87, 28⟩, ⟨87, 20, 87, 29⟩, ⟨87, 33, 87, 37⟩, ⟨87, 20, 87, 37⟩, ⟨87, 8, 87, 37⟩, ⟨88, 15, 88, 20⟩, ⟨88, 8, 88, 20⟩, ⟨85, 4, 88, 20⟩, ⟨89, 4, 89, 9⟩, ⟨89, 12, 89, 15⟩, ⟨89, 17, 89, 23⟩, ⟨89, 24, 89, 25⟩, ⟨89, 17, 89, 26⟩, ⟨89, 29, 89, 33⟩, ⟨89, 36, 89, 42⟩, ⟨89, 43, 89, 44⟩, ⟨89, 36, 89, 45⟩, ⟨89, 29, 89, 45⟩, ⟨89, 17, 89, 45⟩, ⟨89, 48, 89, 54⟩, ⟨89, 17, 89, 54⟩, ⟨89, 59, 89, 60⟩, ⟨89, 16, 89, 60⟩, ⟨89, 12, 89, 61⟩, ⟨89, 64, 89, 74⟩, ⟨89, 12, 89, 74⟩, ⟨89, 4, 89, 74⟩, ⟨90, 11, 90, 14⟩, ⟨90, 16, 90, 21⟩, ⟨90, 24, 90, 29⟩, ⟨90, 16, 90, 29⟩, ⟨90, 32, 90, 37⟩, ⟨90, 40, 90, 46⟩, ⟨90, 47, 90, 48⟩, ⟨90, 40, 90, 49⟩, ⟨90, 32, 90, 49⟩, ⟨90, 16, 90, 49⟩, ⟨90, 52, 90, 54⟩, ⟨90, 16, 90, 54⟩, ⟨90, 59, 90, 60⟩, ⟨90, 15, 90, 60⟩, ⟨90, 11, 90, 61⟩, ⟨90, 64, 90, 74⟩, ⟨90, 11, 90, 74⟩, ⟨90, 77, 90, 81⟩, ⟨90, 11, 90, 81⟩, ⟨90, 4, 90, 81⟩] : List Pos).getD i ⟨0, 0, 0, 0⟩
def p_mixed : Nat → Pos := fun i => ([⟨96, 4, 96, 8⟩, ⟨96, 11, 96, 15⟩, ⟨96, 16, 96, 20⟩, ⟨96, 11, 96, 21⟩, ⟨96, 4, 96, 21⟩, ⟨97, 12, 97, 16⟩, ⟨97, 12, 97, 20⟩, ⟨97, 21, 97, 31⟩, ⟨97, 32, 97, 38⟩, ⟨97, 40, 97, 43⟩, ⟨97, 44, 97, 48⟩, ⟨97, 40, 97, 49⟩, ⟨97, 21, 97, 50⟩, ⟨97, 12, 97, 51⟩, ⟨97, 56, 97, 57⟩, ⟨97, 61, 97, 66⟩, ⟨97, 67, 97, 70⟩, ⟨97, 71, 97, 75⟩, ⟨97, 67, 97, 76⟩, ⟨97, 61, 97, 77⟩, ⟨97, 11, 97, 78⟩, ⟨97, 4, 97, 78⟩] : List Pos).getD i ⟨0, 0, 0, 0⟩
def p_start : Nat → Pos := fun i => ([⟨78, 12, 78, 16⟩, ⟨78, 17, 78, 23⟩, ⟨78, 12, 78, 24⟩, ⟨78, 26, 78, 27⟩, ⟨78, 29, 78, 30⟩, ⟨78, 32, 78, 34⟩, ⟨78, 11, 78, 35⟩, ⟨78, 4, 78, 35⟩] : List Pos).getD i ⟨0, 0, 0, 0⟩
def p_law : Nat → Pos := fun i => ([⟨189, 4, 189, 10⟩, ⟨189, 13, 189, 23⟩, ⟨189, 24, 189, 30⟩, ⟨189, 13, 189, 31⟩, ⟨189, 4, 189, 31⟩] : List Pos).getD i ⟨0, 0, 0, 0⟩
abbrev lawRest : List Stmt := (L2.defBody (top 38)).drop 1
def p_BadDeeds : Nat → Pos := fun i => ([⟨7, 8, 7, 12⟩, ⟨7, 8, 7, 18⟩, ⟨7, 21, 7, 26⟩, ⟨7, 8, 7, 26⟩] : List Pos).getD i ⟨0, 0, 0, 0⟩
def p_BadEnds : Nat → Pos := fun i => ([⟨11, 8, 11, 12⟩, ⟨11, 8, 11, 18⟩, ⟨11, 21, 11, 26⟩, ⟨11, 8, 11, 26⟩] : List Pos).getD i ⟨0, 0, 0, 0⟩
def p_BadLetters : Nat → Pos := fun i => ([⟨15, 8, 15, 12⟩, ⟨15, 8, 15, 18⟩, ⟨15, 21, 15, 26⟩, ⟨15, 8, 15, 26⟩] : List Pos).getD i ⟨0, 0, 0, 0⟩
def p_BadMachine : Nat → Pos := fun i => ([⟨19, 8, 19, 12⟩, ⟨19, 8, 19, 18⟩, ⟨19, 21, 19, 26⟩, ⟨19, 8, 19, 26⟩] : List Pos).getD i ⟨0, 0, 0, 0⟩
def p_BadMany : Nat → Pos := fun i => ([⟨23, 8, 23, 12⟩, ⟨23, 8, 23, 18⟩, ⟨23, 21, 23, 26⟩, ⟨23, 8, 23, 26⟩] : List Pos).getD i ⟨0, 0, 0, 0⟩
def p_BadOther : Nat → Pos := fun i => ([⟨27, 8, 27, 12⟩, ⟨27, 8, 27, 18⟩, ⟨27, 21, 27, 26⟩, ⟨27, 8, 27, 26⟩] : List Pos).getD i ⟨0, 0, 0, 0⟩
def p_BadStarts : Nat → Pos := fun i => ([⟨31, 8, 31, 12⟩, ⟨31, 8, 31, 18⟩, ⟨31, 21, 31, 26⟩, ⟨31, 8, 31, 26⟩] : List Pos).getD i ⟨0, 0, 0, 0⟩
def p_BadSteps : Nat → Pos := fun i => ([⟨35, 8, 35, 12⟩, ⟨35, 8, 35, 18⟩, ⟨35, 21, 35, 26⟩, ⟨35, 8, 35, 26⟩] : List Pos).getD i ⟨0, 0, 0, 0⟩
def p_BadWay : Nat → Pos := fun i => ([⟨39, 8, 39, 12⟩, ⟨39, 8, 39, 18⟩, ⟨39, 21, 39, 26⟩, ⟨39, 8, 39, 26⟩] : List Pos).getD i ⟨0, 0, 0, 0⟩
def p_BadWord : Nat → Pos := fun i => ([⟨43, 8, 43, 12⟩, ⟨43, 8, 43, 18⟩, ⟨43, 21, 43, 26⟩, ⟨43, 8, 43, 26⟩] : List Pos).getD i ⟨0, 0, 0, 0⟩
def p_TooMany : Nat → Pos := fun i => ([⟨47, 8, 47, 12⟩, ⟨47, 8, 47, 17⟩, ⟨47, 20, 47, 24⟩, ⟨47, 8, 47, 24⟩] : List Pos).getD i ⟨0, 0, 0, 0⟩
def d_is_plain : He.DefD := ⟨("is_plain", none), "is_plain", "is_plain", prm [("thing", ⟨51, 13, 51, 18⟩)], L2.defBody (top 16), L2.defScope (top 16), [], []⟩
def d_need_plain : He.DefD := ⟨("need_plain", none), "need_plain", "need_plain", prm [("word", ⟨53, 15, 53, 19⟩)], L2.defBody (top 17), L2.defScope (top 17), [], []⟩
def d_need_two : He.DefD := ⟨("need_two", none), "need_two", "need_two", prm [("word", ⟨57, 13, 57, 17⟩), ("other", ⟨57, 19, 57, 24⟩)], L2.defBody (top 18), L2.defScope (top 18), [], []⟩
def d_mend_table : He.DefD := ⟨("mend_table", none), "mend_table", "mend_table", prm [("one", ⟨62, 15, 62, 18⟩), ("two", ⟨62, 20, 62, 23⟩)], L2.defBody (top 19), L2.defScope (top 19), [], []⟩
def d_fewest : He.DefD := ⟨("fewest", none), "fewest", "fewest", prm [("one", ⟨71, 11, 71, 14⟩), ("two", ⟨71, 16, 71, 19⟩)], L2.defBody (top 20), L2.defScope (top 20), [], []⟩
def d_mends_between : He.DefD := ⟨("mends_between", none), "mends_between", "mends_between", prm [("word", ⟨73, 18, 73, 22⟩), ("other", ⟨73, 24, 73, 29⟩)], L2.defBody (top 21), L2.defScope (top 21), [], []⟩
def d__law_below : He.DefD := ⟨("_law_below", none), "_law_below", "_law_below", prm [("stream", ⟨79, 15, 79, 21⟩), ("many", ⟨79, 23, 79, 27⟩)], belowBody p_below, belowScope, [], []⟩
def d__law_chance : He.DefD := ⟨("_law_chance", none), "_law_chance", "_law_chance", prm [("stream", ⟨91, 16, 91, 22⟩), ("many", ⟨91, 24, 91, 28⟩)], L2.defBody (top 25), L2.defScope (top 25), [], []⟩
def d__law_pick : He.DefD := ⟨("_law_pick", none), "_law_pick", "_law_pick", prm [("stream", ⟨93, 14, 93, 20⟩), ("some", ⟨93, 22, 93, 26⟩)], L2.defBody (top 26), L2.defScope (top 26), [], []⟩
def d__law_mixed : He.DefD := ⟨("_law_mixed", none), "_law_mixed", "_law_mixed", prm [("stream", ⟨95, 15, 95, 21⟩), ("some", ⟨95, 23, 95, 27⟩)], mixBody p_mixed, mixScope, [], []⟩
def d__law_copied : He.DefD := ⟨("_law_copied", none), "_law_copied", "_law_copied", prm [("thing", ⟨98, 16, 98, 21⟩)], L2.defBody (top 28), L2.defScope (top 28), [], []⟩
def d__law_same : He.DefD := ⟨("_law_same", none), "_law_same", "_law_same", prm [("found", ⟨105, 14, 105, 19⟩), ("due", ⟨105, 21, 105, 24⟩)], L2.defBody (top 29), L2.defScope (top 29), [], []⟩
def d__law_kword : He.DefD := ⟨("_law_kword", none), "_law_kword", "_law_kword", prm [("stream", ⟨119, 15, 119, 21⟩), ("letters", ⟨119, 23, 119, 30⟩), ("most", ⟨119, 32, 119, 36⟩)], L2.defBody (top 30), L2.defScope (top 30), [], []⟩
def d__law_kletters : He.DefD := ⟨("_law_kletters", none), "_law_kletters", "_law_kletters", prm [("stream", ⟨125, 18, 125, 24⟩)], L2.defBody (top 31), L2.defScope (top 31), [], []⟩
def d__law_klev : He.DefD := ⟨("_law_klev", none), "_law_klev", "_law_klev", prm [("word", ⟨127, 14, 127, 18⟩), ("other", ⟨127, 20, 127, 25⟩)], L2.defBody (top 32), L2.defScope (top 32), [], []⟩
def d__law_kraised : He.DefD := ⟨("_law_kraised", none), "_law_kraised", "_law_kraised", prm [("run", ⟨135, 17, 135, 20⟩)], L2.defBody (top 33), L2.defScope (top 33), [], []⟩
def d__law_krefuses : He.DefD := ⟨("_law_krefuses", none), "_law_krefuses", "_law_krefuses", prm [("kind", ⟨162, 18, 162, 22⟩), ("thing", ⟨162, 24, 162, 29⟩), ("run", ⟨162, 31, 162, 34⟩)], L2.defBody (top 34), L2.defScope (top 34), [], []⟩
def d__law_kno_word : He.DefD := ⟨("_law_kno_word", none), "_law_kno_word", "_law_kno_word", prm [("stream", ⟨165, 18, 165, 24⟩)], L2.defBody (top 35), L2.defScope (top 35), [], []⟩
def d__law_knear : He.DefD := ⟨("_law_knear", none), "_law_knear", "_law_knear", prm [("stream", ⟨168, 15, 168, 21⟩), ("letters", ⟨168, 23, 168, 30⟩), ("word", ⟨168, 32, 168, 36⟩), ("many", ⟨168, 38, 168, 42⟩)], L2.defBody (top 36), L2.defScope (top 36), [], []⟩
def d__law_out_from : He.DefD := ⟨("_law_out_from", none), "_law_out_from", "_law_out_from", prm [("word", ⟨173, 18, 173, 22⟩), ("letters", ⟨173, 24, 173, 31⟩), ("most", ⟨173, 33, 173, 37⟩)], L2.defBody (top 37), L2.defScope (top 37), [], []⟩
def d__law_start : He.DefD := ⟨("_law_start", none), "_law_start", "_law_start", prm [("script", ⟨77, 15, 77, 21⟩)], startBody p_start, startScope, [], []⟩
def d_law : He.DefD := ⟨("law", none), "law", "law", prm [("script", ⟨188, 8, 188, 14⟩)], .Assign [.Name "stream" (p_law 0)] (.Call (.Name "_law_start" (p_law 1)) [.Name "script" (p_law 2)] [] (p_law 3)) (p_law 4) :: lawRest, L2.defScope (top 38), [], []⟩
def d_I_BadDeeds : He.DefD := ⟨("BadDeeds", some "__init__"), "__init__", "BadDeeds.__init__", prm [("self", ⟨6, 17, 6, 21⟩), ("index", ⟨6, 23, 6, 28⟩)], initBody "index" p_BadDeeds, initScope "index", [], []⟩
def d_I_BadEnds : He.DefD := ⟨("BadEnds", some "__init__"), "__init__", "BadEnds.__init__", prm [("self", ⟨10, 17, 10, 21⟩), ("thing", ⟨10, 23, 10, 28⟩)], initBody "thing" p_BadEnds, initScope "thing", [], []⟩
def d_I_BadLetters : He.DefD := ⟨("BadLetters", some "__init__"), "__init__", "BadLetters.__init__", prm [("self", ⟨14, 17, 14, 21⟩), ("thing", ⟨14, 23, 14, 28⟩)], initBody "thing" p_BadLetters, initScope "thing", [], []⟩
def d_I_BadMachine : He.DefD := ⟨("BadMachine", some "__init__"), "__init__", "BadMachine.__init__", prm [("self", ⟨18, 17, 18, 21⟩), ("thing", ⟨18, 23, 18, 28⟩)], initBody "thing" p_BadMachine, initScope "thing", [], []⟩
def d_I_BadMany : He.DefD := ⟨("BadMany", some "__init__"), "__init__", "BadMany.__init__", prm [("self", ⟨22, 17, 22, 21⟩), ("thing", ⟨22, 23, 22, 28⟩)], initBody "thing" p_BadMany, initScope "thing", [], []⟩
def d_I_BadOther : He.DefD := ⟨("BadOther", some "__init__"), "__init__", "BadOther.__init__", prm [("self", ⟨26, 17, 26, 21⟩), ("thing", ⟨26, 23, 26, 28⟩)], initBody "thing" p_BadOther, initScope "thing", [], []⟩
def d_I_BadStarts : He.DefD := ⟨("BadStarts", some "__init__"), "__init__", "BadStarts.__init__", prm [("self", ⟨30, 17, 30, 21⟩), ("thing", ⟨30, 23, 30, 28⟩)], initBody "thing" p_BadStarts, initScope "thing", [], []⟩
def d_I_BadSteps : He.DefD := ⟨("BadSteps", some "__init__"), "__init__", "BadSteps.__init__", prm [("self", ⟨34, 17, 34, 21⟩), ("index", ⟨34, 23, 34, 28⟩)], initBody "index" p_BadSteps, initScope "index", [], []⟩
def d_I_BadWay : He.DefD := ⟨("BadWay", some "__init__"), "__init__", "BadWay.__init__", prm [("self", ⟨38, 17, 38, 21⟩), ("thing", ⟨38, 23, 38, 28⟩)], initBody "thing" p_BadWay, initScope "thing", [], []⟩
def d_I_BadWord : He.DefD := ⟨("BadWord", some "__init__"), "__init__", "BadWord.__init__", prm [("self", ⟨42, 17, 42, 21⟩), ("thing", ⟨42, 23, 42, 28⟩)], initBody "thing" p_BadWord, initScope "thing", [], []⟩
def d_I_TooMany : He.DefD := ⟨("TooMany", some "__init__"), "__init__", "TooMany.__init__", prm [("self", ⟨46, 17, 46, 21⟩), ("many", ⟨46, 23, 46, 27⟩)], initBody "many" p_TooMany, initScope "many", [], []⟩
def fn : List He.DefD := ([d_is_plain, d_need_plain, d_need_two, d_mend_table, d_fewest, d_mends_between, d__law_below, d__law_chance, d__law_pick, d__law_mixed, d__law_copied, d__law_same] : List He.DefD) ++ ([d__law_kword, d__law_kletters, d__law_klev, d__law_kraised, d__law_krefuses, d__law_kno_word, d__law_knear, d__law_out_from, d__law_start, d_law, d_I_BadDeeds, d_I_BadEnds] : List He.DefD) ++ ([d_I_BadLetters, d_I_BadMachine, d_I_BadMany, d_I_BadOther, d_I_BadStarts, d_I_BadSteps, d_I_BadWay, d_I_BadWord, d_I_TooMany] : List He.DefD)
def gls : List Str := (["is_plain", "need_plain", "need_two", "mend_table", "fewest", "mends_between", "_law_below", "_law_chance", "_law_pick", "_law_mixed", "_law_copied", "_law_same", "_law_kword", "_law_kletters", "_law_klev", "_law_kraised", "_law_krefuses", "_law_kno_word", "_law_knear", "_law_out_from"] : List PySem.Str) ++ (["_law_start", "law", "BadDeeds", "BadEnds", "BadLetters", "BadMachine", "BadMany", "BadOther", "BadStarts", "BadSteps", "BadWay", "BadWord", "TooMany"] : List PySem.Str)
def fa : List He.Fa := gls.map .glo ++ bltNames.map .free ++ [.str "SMALL" "abcdefghijklmnopqrstuvwxyz", .int "LONGEST" 60]
def loose : List PySem.Str := (["__name__", "MendError", "BadDeeds", "BadEnds", "BadLetters", "BadMachine", "BadMany", "BadOther", "BadStarts", "BadSteps", "BadWay", "BadWord", "TooMany", "SMALL", "LONGEST", "is_plain", "need_plain", "need_two", "mend_table", "fewest"] : List PySem.Str) ++ (["mends_between", "_law_start", "_law_below", "_law_chance", "_law_pick", "_law_mixed", "_law_copied", "_law_same", "_law_kword", "_law_kletters", "_law_klev", "_law_kraised", "_law_krefuses", "_law_kno_word", "_law_knear", "_law_out_from"] : List PySem.Str)
abbrev hk : PySem.W.Hook := He.hookX 5 fa fn [] [("law", none)] (exB cls)
def ob (s : PySem.W.SharedT) : He.AlX := He.obsX 5 fa fn [] [("law", none)] (exB cls) (HandSHeadRun.getT s)
theorem ob_eq (s : PySem.W.SharedT) : ob s = hk.obs s.abs := He.obsX_eq (HandSHeadRun.getT_eq s)
theorem run (w : World) : HandSHeadRun.RunEq R (PySem.W.view R.prog [38]) hk ob 4000 loose w := by
  intro os
  kernel_rfl
theorem gl_cls {q : Str × Str} (h : q ∈ cls) : q.1 ∈ gls := by revert q; decide +kernel
section
variable {pr : Program} {w : World} {K : PySem.W.Frag} {mg : Str → Option Value} {base h : Heap}
abbrev Says (w : World) (h : Heap) (K : PySem.W.Frag) : Prop := He.SaysX fa fn [] [("law", none)] (exB cls) w h K
abbrev lp (K : PySem.W.Frag) (T1 La : Addr) : LP := lpOf K (fun _ => none) (exOf K cls) (lokOf gc cf lms) (He.tabOf K (He.codeOf K ("law", none))) (lawQ "law") T1 La
theorem glo (X : K.In h) (G : h.Ns mainGlobals mg) (c : Says w h K) {x : Str} (hx : x ∈ gls) : mg x = some (.ref (He.ga K x)) := He.glo_ok X G (c.t.d.facts (f := .glo x) (List.mem_append_left _ (List.mem_append_left _ (List.mem_map_of_mem hx))))
theorem blt (X : K.In h) (G : h.Ns mainGlobals mg) (c : Says w h K) {x : Str} (hx : x ∈ bltNames) : mg x = none := He.free_ok X G (c.t.d.facts (f := .free x) (List.mem_append_left _ (List.mem_append_right _ (List.mem_map_of_mem hx))))
theorem B_is_plain {f : Addr} {fd : FuncData} {bd : List Stmt} {sc : Scope} (F : FunD K "is_plain" "is_plain" d_is_plain.params bd sc [] [] f fd) : L2.Binds K fd ["thing"] [] := F.bindsN (ps := ["thing"]) fun _ _ _ _ _ _ us hl => match us, hl with | [_], _ => rfl
theorem B_need_plain {f : Addr} {fd : FuncData} {bd : List Stmt} {sc : Scope} (F : FunD K "need_plain" "need_plain" d_need_plain.params bd sc [] [] f fd) : L2.Binds K fd ["word"] [] := F.bindsN (ps := ["word"]) fun _ _ _ _ _ _ us hl => match us, hl with | [_], _ => rfl
theorem B_need_two {f : Addr} {fd : FuncData} {bd : List Stmt} {sc : Scope} (F : FunD K "need_two" "need_two" d_need_two.params bd sc [] [] f fd) : L2.Binds K fd ["word", "other"] [] := F.bindsN (ps := ["word", "other"]) fun _ _ _ _ _ _ us hl => match us, hl with | [_, _], _ => rfl
theorem B_mend_table {f : Addr} {fd : FuncData} {bd : List Stmt} {sc : Scope} (F : FunD K "mend_table" "mend_table" d_mend_table.params bd sc [] [] f fd) : L2.Binds K fd ["one", "two"] [] := F.bindsN (ps := ["one", "two"]) fun _ _ _ _ _ _ us hl => match us, hl with | [_, _], _ => rfl
theorem B_fewest {f : Addr} {fd : FuncData} {bd : List Stmt} {sc : Scope} (F : FunD K "fewest" "fewest" d_fewest.params bd sc [] [] f fd) : L2.Binds K fd ["one", "two"] [] := F.bindsN (ps := ["one", "two"]) fun _ _ _ _ _ _ us hl => match us, hl with | [_, _], _ => rfl
theorem B_mends_between {f : Addr} {fd : FuncData} {bd : List Stmt} {sc : Scope} (F : FunD K "mends_between" "mends_between" d_mends_between.params bd sc [] [] f fd) : L2.Binds K fd ["word", "other"] [] := F.bindsN (ps := ["word", "other"]) fun _ _ _ _ _ _ us hl => match us, hl with | [_, _], _ => rfl
theorem K_mends_between_0 {f : Addr} {fd : FuncData} {bd : List Stmt} {sc : Scope} (F : FunD K "mends_between" "mends_between" d_mends_between.params bd sc [] [] f fd) : KBindsP K fd ["word", "other"] ["other", "word"] [1, 0] := kbindsP_of F fun _ _ _ _ _ _ us hl => match us, hl with | [_, _], _ => rfl
theorem B__law_below {f : Addr} {fd : FuncData} {bd : List Stmt} {sc : Scope} (F : FunD K "_law_below" "_law_below" d__law_below.params bd sc [] [] f fd) : L2.Binds K fd ["stream", "many"] [] := F.bindsN (ps := ["stream", "many"]) fun _ _ _ _ _ _ us hl => match us, hl with | [_, _], _ => rfl
theorem B__law_chance {f : Addr} {fd : FuncData} {bd : List Stmt} {sc : Scope} (F : FunD K "_law_chance" "_law_chance" d__law_chance.params bd sc [] [] f fd) : L2.Binds K fd ["stream", "many"] [] := F.bindsN (ps := ["stream", "many"]) fun _ _ _ _ _ _ us hl => match us, hl with | [_, _], _ => rfl
theorem B__law_pick {f : Addr} {fd : FuncData} {bd : List Stmt} {sc : Scope} (F : FunD K "_law_pick" "_law_pick" d__law_pick.params bd sc [] [] f fd) : L2.Binds K fd ["stream", "some"] [] := F.bindsN (ps := ["stream", "some"]) fun _ _ _ _ _ _ us hl => match us, hl with | [_, _], _ => rfl
theorem B__law_mixed {f : Addr} {fd : FuncData} {bd : List Stmt} {sc : Scope} (F : FunD K "_law_mixed" "_law_mixed" d__law_mixed.params bd sc [] [] f fd) : L2.Binds K fd ["stream", "some"] [] := F.bindsN (ps := ["stream", "some"]) fun _ _ _ _ _ _ us hl => match us, hl with | [_, _], _ => rfl
theorem B__law_copied {f : Addr} {fd : FuncData} {bd : List Stmt} {sc : Scope} (F : FunD K "_law_copied" "_law_copied" d__law_copied.params bd sc [] [] f fd) : L2.Binds K fd ["thing"] [] := F.bindsN (ps := ["thing"]) fun _ _ _ _ _ _ us hl => match us, hl with | [_], _ => rfl
theorem B__law_same {f : Addr} {fd : FuncData} {bd : List Stmt} {sc : Scope} (F : FunD K "_law_same" "_law_same" d__law_same.params bd sc [] [] f fd) : L2.Binds K fd ["found", "due"] [] := F.bindsN (ps := ["found", "due"]) fun _ _ _ _ _ _ us hl => match us, hl with | [_, _], _ => rfl
theorem B__law_kword {f : Addr} {fd : FuncData} {bd : List Stmt} {sc : Scope} (F : FunD K "_law_kword" "_law_kword" d__law_kword.params bd sc [] [] f fd) : L2.Binds K fd ["stream", "letters", "most"] [] := F.bindsN (ps := ["stream", "letters", "most"]) fun _ _ _ _ _ _ us hl => match us, hl with | [_, _, _], _ => rfl
theorem B__law_kletters {f : Addr} {fd : FuncData} {bd : List Stmt} {sc : Scope} (F : FunD K "_law_kletters" "_law_kletters" d__law_kletters.params bd sc [] [] f fd) : L2.Binds K fd ["stream"] [] := F.bindsN (ps := ["stream"]) fun _ _ _ _ _ _ us hl => match us, hl with | [_], _ => rfl
theorem B__law_klev {f : Addr} {fd : FuncData} {bd : List Stmt} {sc : Scope} (F : FunD K "_law_klev" "_law_klev" d__law_klev.params bd sc [] [] f fd) : L2.Binds K fd ["word", "other"] [] := F.bindsN (ps := ["word", "other"]) fun _ _ _ _ _ _ us hl => match us, hl with | [_, _], _ => rfl
theorem B__law_kraised {f : Addr} {fd : FuncData} {bd : List Stmt} {sc : Scope} (F : FunD K "_law_kraised" "_law_kraised" d__law_kraised.params bd sc [] [] f fd) : L2.Binds K fd ["run"] [] := F.bindsN (ps := ["run"]) fun _ _ _ _ _ _ us hl => match us, hl with | [_], _ => rfl
theorem B__law_krefuses {f : Addr} {fd : FuncData} {bd : List Stmt} {sc : Scope} (F : FunD K "_law_krefuses" "_law_krefuses" d__law_krefuses.params bd sc [] [] f fd) : L2.Binds K fd ["kind", "thing", "run"] [] := F.bindsN (ps := ["kind", "thing", "run"]) fun _ _ _ _ _ _ us hl => match us, hl with | [_, _, _], _ => rfl
theorem B__law_kno_word {f : Addr} {fd : FuncData} {bd : List Stmt} {sc : Scope} (F : FunD K "_law_kno_word" "_law_kno_word" d__law_kno_word.params bd sc [] [] f fd) : L2.Binds K fd ["stream"] [] := F.bindsN (ps := ["stream"]) fun _ _ _ _ _ _ us hl => match us, hl with | [_], _ => rfl
theorem B__law_knear {f : Addr} {fd : FuncData} {bd : List Stmt} {sc : Scope} (F : FunD K "_law_knear" "_law_knear" d__law_knear.params bd sc [] [] f fd) : L2.Binds K fd ["stream", "letters", "word", "many"] [] := F.bindsN (ps := ["stream", "letters", "word", "many"]) fun _ _ _ _ _ _ us hl => match us, hl with | [_, _, _, _], _ => rfl
theorem B__law_out_from {f : Addr} {fd : FuncData} {bd : List Stmt} {sc : Scope} (F : FunD K "_law_out_from" "_law_out_from" d__law_out_from.params bd sc [] [] f fd) : L2.Binds K fd ["word", "letters", "most"] [] := F.bindsN (ps := ["word", "letters", "most"]) fun _ _ _ _ _ _ us hl => match us, hl with | [_, _, _], _ => rfl
theorem B__law_start {f : Addr} {fd : FuncData} {bd : List Stmt} {sc : Scope} (F : FunD K "_law_start" "_law_start" d__law_start.params bd sc [] [] f fd) : L2.Binds K fd ["script"] [] := F.bindsN (ps := ["script"]) fun _ _ _ _ _ _ us hl => match us, hl with | [_], _ => rfl
theorem g_is_plain (X : K.In h) (G : h.Ns mainGlobals mg) (c : Says w h K) (T1 La : Addr) : FnAt cf gc (lp K T1 La).par pr w mg base fns lms "is_plain" 0 := by
  obtain ⟨fd, F⟩ := c.t.d.def_ 0 (d := d_is_plain) rfl
  exact ⟨_, fd, ["thing"], glo X G c (x := "is_plain") (by decide +kernel), F.kp, B_is_plain F, kws_none (by decide +kernel), .inl ⟨_, rfl, defOk_of (N := n_is_plain) (fuel := 80) F ⟨rfl, rfl, rfl, by decide +kernel, rfl, by decide +kernel, by decide +kernel⟩ (by kernel_rfl) (by decide +kernel)⟩⟩
theorem g_need_plain (X : K.In h) (G : h.Ns mainGlobals mg) (c : Says w h K) (T1 La : Addr) : FnAt cf gc (lp K T1 La).par pr w mg base fns lms "need_plain" 1 := by
  obtain ⟨fd, F⟩ := c.t.d.def_ 1 (d := d_need_plain) rfl
  exact ⟨_, fd, ["word"], glo X G c (x := "need_plain") (by decide +kernel), F.kp, B_need_plain F, kws_none (by decide +kernel), .inl ⟨_, rfl, defOk_of (N := n_need_plain) (fuel := 80) F ⟨rfl, rfl, rfl, by decide +kernel, rfl, by decide +kernel, by decide +kernel⟩ (by kernel_rfl) (by decide +kernel)⟩⟩
theorem g_need_two (X : K.In h) (G : h.Ns mainGlobals mg) (c : Says w h K) (T1 La : Addr) : FnAt cf gc (lp K T1 La).par pr w mg base fns lms "need_two" 2 := by
  obtain ⟨fd, F⟩ := c.t.d.def_ 2 (d := d_need_two) rfl
  exact ⟨_, fd, ["word", "other"], glo X G c (x := "need_two") (by decide +kernel), F.kp, B_need_two F, kws_none (by decide +kernel), .inl ⟨_, rfl, defOk_of (N := n_need_two) (fuel := 80) F ⟨rfl, rfl, rfl, by decide +kernel, rfl, by decide +kernel, by decide +kernel⟩ (by kernel_rfl) (by decide +kernel)⟩⟩
theorem g_mend_table (X : K.In h) (G : h.Ns mainGlobals mg) (c : Says w h K) (T1 La : Addr) : FnAt cf gc (lp K T1 La).par pr w mg base fns lms "mend_table" 3 := by
  obtain ⟨fd, F⟩ := c.t.d.def_ 3 (d := d_mend_table) rfl
  exact ⟨_, fd, ["one", "two"], glo X G c (x := "mend_table") (by decide +kernel), F.kp, B_mend_table F, kws_none (by decide +kernel), .inl ⟨_, rfl, defOk_of (N := n_mend_table) (fuel := 80) F ⟨rfl, rfl, rfl, by decide +kernel, rfl, by decide +kernel, by decide +kernel⟩ (by kernel_rfl) (by decide +kernel)⟩⟩
theorem g_fewest (X : K.In h) (G : h.Ns mainGlobals mg) (c : Says w h K) (T1 La : Addr) : FnAt cf gc (lp K T1 La).par pr w mg base fns lms "fewest" 4 := by
  obtain ⟨fd, F⟩ := c.t.d.def_ 4 (d := d_fewest) rfl
  exact ⟨_, fd, ["one", "two"], glo X G c (x := "fewest") (by decide +kernel), F.kp, B_fewest F, kws_none (by decide +kernel), .inl ⟨_, rfl, defOk_of (N := n_fewest) (fuel := 80) F ⟨rfl, rfl, rfl, by decide +kernel, rfl, by decide +kernel, by decide +kernel⟩ (by kernel_rfl) (by decide +kernel)⟩⟩
theorem g_mends_between (X : K.In h) (G : h.Ns mainGlobals mg) (c : Says w h K) (T1 La : Addr) : FnAt cf gc (lp K T1 La).par pr w mg base fns lms "mends_between" 5 := by
  obtain ⟨fd, F⟩ := c.t.d.def_ 5 (d := d_mends_between) rfl
  exact ⟨_, fd, ["word", "other"], glo X G c (x := "mends_between") (by decide +kernel), F.kp, B_mends_between F, kws_of (by decide +kernel : (gc.kws.filter fun e => decide (e.1 = ("mends_between" : Str))).map (·.2) = ([(["other", "word"], [1, 0])] : List (List Str × List Nat))) ⟨K_mends_between_0 F, trivial⟩, .inl ⟨_, rfl, defOk_of (N := n_mends_between) (fuel := 80) F ⟨rfl, rfl, rfl, by decide +kernel, rfl, by decide +kernel, by decide +kernel⟩ (by kernel_rfl) (by decide +kernel)⟩⟩
theorem g__law_below (X : K.In h) (G : h.Ns mainGlobals mg) (c : Says w h K) (T1 La : Addr) : FnAt cf gc (lp K T1 La).par pr w mg base fns lms "_law_below" 6 := by
  obtain ⟨fd, F⟩ := c.t.d.def_ 6 (d := d__law_below) rfl
  exact ⟨_, fd, ["stream", "many"], glo X G c (x := "_law_below") (by decide +kernel), F.kp, B__law_below F, kws_none (by decide +kernel), .inr ⟨_, rfl, fun n _ _ => below_fn (l := lp K T1 La) F (by decide +kernel) (blt X G c (by decide +kernel))⟩⟩
theorem g__law_chance (X : K.In h) (G : h.Ns mainGlobals mg) (c : Says w h K) (T1 La : Addr) : FnAt cf gc (lp K T1 La).par pr w mg base fns lms "_law_chance" 7 := by
  obtain ⟨fd, F⟩ := c.t.d.def_ 7 (d := d__law_chance) rfl
  exact ⟨_, fd, ["stream", "many"], glo X G c (x := "_law_chance") (by decide +kernel), F.kp, B__law_chance F, kws_none (by decide +kernel), .inl ⟨_, rfl, defOk_of (N := n__law_chance) (fuel := 80) F ⟨rfl, rfl, rfl, by decide +kernel, rfl, by decide +kernel, by decide +kernel⟩ (by kernel_rfl) (by decide +kernel)⟩⟩
theorem g__law_pick (X : K.In h) (G : h.Ns mainGlobals mg) (c : Says w h K) (T1 La : Addr) : FnAt cf gc (lp K T1 La).par pr w mg base fns lms "_law_pick" 8 := by
  obtain ⟨fd, F⟩ := c.t.d.def_ 8 (d := d__law_pick) rfl
  exact ⟨_, fd, ["stream", "some"], glo X G c (x := "_law_pick") (by decide +kernel), F.kp, B__law_pick F, kws_none (by decide +kernel), .inl ⟨_, rfl, defOk_of (N := n__law_pick) (fuel := 80) F ⟨rfl, rfl, rfl, by decide +kernel, rfl, by decide +kernel, by decide +kernel⟩ (by kernel_rfl) (by decide +kernel)⟩⟩
theorem g__law_mixed (X : K.In h) (G : h.Ns mainGlobals mg) (c : Says w h K) (T1 La : Addr) : FnAt cf gc (lp K T1 La).par pr w mg base fns lms "_law_mixed" 9 := by
  obtain ⟨fd, F⟩ := c.t.d.def_ 9 (d := d__law_mixed) rfl
  obtain ⟨fb, Fb⟩ := c.t.d.def_ 6 (d := d__law_below) rfl
  exact ⟨_, fd, ["stream", "some"], glo X G c (x := "_law_mixed") (by decide +kernel), F.kp, B__law_mixed F, kws_none (by decide +kernel), .inr ⟨_, rfl, fun n _ _ => mixed_fn (P := (lp K T1 La).par) F (by decide +kernel) (fun x hx => blt X G c hx) (glo X G c (x := "_law_below") (by decide +kernel)) Fb.kp (B__law_below Fb) (below_fn (l := lp K T1 La) Fb (by decide +kernel) (blt X G c (by decide +kernel)))⟩⟩
theorem g__law_copied (X : K.In h) (G : h.Ns mainGlobals mg) (c : Says w h K) (T1 La : Addr) : FnAt cf gc (lp K T1 La).par pr w mg base fns lms "_law_copied" 10 := by
  obtain ⟨fd, F⟩ := c.t.d.def_ 10 (d := d__law_copied) rfl
  exact ⟨_, fd, ["thing"], glo X G c (x := "_law_copied") (by decide +kernel), F.kp, B__law_copied F, kws_none (by decide +kernel), .inl ⟨_, rfl, defOk_of (N := n__law_copied) (fuel := 80) F ⟨rfl, rfl, rfl, by decide +kernel, rfl, by decide +kernel, by decide +kernel⟩ (by kernel_rfl) (by decide +kernel)⟩⟩
theorem g__law_same (X : K.In h) (G : h.Ns mainGlobals mg) (c : Says w h K) (T1 La : Addr) : FnAt cf gc (lp K T1 La).par pr w mg base fns lms "_law_same" 11 := by
  obtain ⟨fd, F⟩ := c.t.d.def_ 11 (d := d__law_same) rfl
  exact ⟨_, fd, ["found", "due"], glo X G c (x := "_law_same") (by decide +kernel), F.kp, B__law_same F, kws_none (by decide +kernel), .inl ⟨_, rfl, defOk_of (N := n__law_same) (fuel := 80) F ⟨rfl, rfl, rfl, by decide +kernel, rfl, by decide +kernel, by decide +kernel⟩ (by kernel_rfl) (by decide +kernel)⟩⟩
theorem g__law_kword (X : K.In h) (G : h.Ns mainGlobals mg) (c : Says w h K) (T1 La : Addr) : FnAt cf gc (lp K T1 La).par pr w mg base fns lms "_law_kword" 12 := by
  obtain ⟨fd, F⟩ := c.t.d.def_ 12 (d := d__law_kword) rfl
  exact ⟨_, fd, ["stream", "letters", "most"], glo X G c (x := "_law_kword") (by decide +kernel), F.kp, B__law_kword F, kws_none (by decide +kernel), .inl ⟨_, rfl, defOk_of (N := n__law_kword) (fuel := 80) F ⟨rfl, rfl, rfl, by decide +kernel, rfl, by decide +kernel, by decide +kernel⟩ (by kernel_rfl) (by decide +kernel)⟩⟩
theorem g__law_kletters (X : K.In h) (G : h.Ns mainGlobals mg) (c : Says w h K) (T1 La : Addr) : FnAt cf gc (lp K T1 La).par pr w mg base fns lms "_law_kletters" 13 := by
  obtain ⟨fd, F⟩ := c.t.d.def_ 13 (d := d__law_kletters) rfl
  exact ⟨_, fd, ["stream"], glo X G c (x := "_law_kletters") (by decide +kernel), F.kp, B__law_kletters F, kws_none (by decide +kernel), .inl ⟨_, rfl, defOk_of (N := n__law_kletters) (fuel := 80) F ⟨rfl, rfl, rfl, by decide +kernel, rfl, by decide +kernel, by decide +kernel⟩ (by kernel_rfl) (by decide +kernel)⟩⟩
theorem g__law_klev (X : K.In h) (G : h.Ns mainGlobals mg) (c : Says w h K) (T1 La : Addr) : FnAt cf gc (lp K T1 La).par pr w mg base fns lms "_law_klev" 14 := by
  obtain ⟨fd, F⟩ := c.t.d.def_ 14 (d := d__law_klev) rfl
  exact ⟨_, fd, ["word", "other"], glo X G c (x := "_law_klev") (by decide +kernel), F.kp, B__law_klev F, kws_none (by decide +kernel), .inl ⟨_, rfl, defOk_of (N := n__law_klev) (fuel := 80) F ⟨rfl, rfl, rfl, by decide +kernel, rfl, by decide +kernel, by decide +kernel⟩ (by kernel_rfl) (by decide +kernel)⟩⟩
theorem g__law_kraised (X : K.In h) (G : h.Ns mainGlobals mg) (c : Says w h K) (T1 La : Addr) : FnAt cf gc (lp K T1 La).par pr w mg base fns lms "_law_kraised" 15 := by
  obtain ⟨fd, F⟩ := c.t.d.def_ 15 (d := d__law_kraised) rfl
  exact ⟨_, fd, ["run"], glo X G c (x := "_law_kraised") (by decide +kernel), F.kp, B__law_kraised F, kws_none (by decide +kernel), .inl ⟨_, rfl, defOk_of (N := n__law_kraised) (fuel := 80) F ⟨rfl, rfl, rfl, by decide +kernel, rfl, by decide +kernel, by decide +kernel⟩ (by kernel_rfl) (by decide +kernel)⟩⟩
theorem g__law_krefuses (X : K.In h) (G : h.Ns mainGlobals mg) (c : Says w h K) (T1 La : Addr) : FnAt cf gc (lp K T1 La).par pr w mg base fns lms "_law_krefuses" 16 := by
  obtain ⟨fd, F⟩ := c.t.d.def_ 16 (d := d__law_krefuses) rfl
  exact ⟨_, fd, ["kind", "thing", "run"], glo X G c (x := "_law_krefuses") (by decide +kernel), F.kp, B__law_krefuses F, kws_none (by decide +kernel), .inl ⟨_, rfl, defOk_of (N := n__law_krefuses) (fuel := 80) F ⟨rfl, rfl, rfl, by decide +kernel, rfl, by decide +kernel, by decide +kernel⟩ (by kernel_rfl) (by decide +kernel)⟩⟩
theorem g__law_kno_word (X : K.In h) (G : h.Ns mainGlobals mg) (c : Says w h K) (T1 La : Addr) : FnAt cf gc (lp K T1 La).par pr w mg base fns lms "_law_kno_word" 17 := by
  obtain ⟨fd, F⟩ := c.t.d.def_ 17 (d := d__law_kno_word) rfl
  exact ⟨_, fd, ["stream"], glo X G c (x := "_law_kno_word") (by decide +kernel), F.kp, B__law_kno_word F, kws_none (by decide +kernel), .inl ⟨_, rfl, defOk_of (N := n__law_kno_word) (fuel := 80) F ⟨rfl, rfl, rfl, by decide +kernel, rfl, by decide +kernel, by decide +kernel⟩ (by kernel_rfl) (by decide +kernel)⟩⟩
theorem g__law_knear (X : K.In h) (G : h.Ns mainGlobals mg) (c : Says w h K) (T1 La : Addr) : FnAt cf gc (lp K T1 La).par pr w mg base fns lms "_law_knear" 18 := by
  obtain ⟨fd, F⟩ := c.t.d.def_ 18 (d := d__law_knear) rfl
  exact ⟨_, fd, ["stream", "letters", "word", "many"], glo X G c (x := "_law_knear") (by decide +kernel), F.kp, B__law_knear F, kws_none (by decide +kernel), .inl ⟨_, rfl, defOk_of (N := n__law_knear) (fuel := 80) F ⟨rfl, rfl, rfl, by decide +kernel, rfl, by decide +kernel, by decide +kernel⟩ (by kernel_rfl) (by decide +kernel)⟩⟩
theorem g__law_out_from (X : K.In h) (G : h.Ns mainGlobals mg) (c : Says w h K) (T1 La : Addr) : FnAt cf gc (lp K T1 La).par pr w mg base fns lms "_law_out_from" 19 := by
  obtain ⟨fd, F⟩ := c.t.d.def_ 19 (d := d__law_out_from) rfl
  exact ⟨_, fd, ["word", "letters", "most"], glo X G c (x := "_law_out_from") (by decide +kernel), F.kp, B__law_out_from F, kws_none (by decide +kernel), .inl ⟨_, rfl, defOk_of (N := n__law_out_from) (fuel := 80) F ⟨rfl, rfl, rfl, by decide +kernel, rfl, by decide +kernel, by decide +kernel⟩ (by kernel_rfl) (by decide +kernel)⟩⟩
theorem inis (c : Says w h K) : ∀ q ∈ cls, IniD K q := AllL.all (R := fun a b => IniD K (a, b)) (by
  obtain ⟨f_BadDeeds, F_BadDeeds⟩ := c.t.d.def_ 22 (d := d_I_BadDeeds) rfl
  obtain ⟨f_BadEnds, F_BadEnds⟩ := c.t.d.def_ 23 (d := d_I_BadEnds) rfl
  obtain ⟨f_BadLetters, F_BadLetters⟩ := c.t.d.def_ 24 (d := d_I_BadLetters) rfl
  obtain ⟨f_BadMachine, F_BadMachine⟩ := c.t.d.def_ 25 (d := d_I_BadMachine) rfl
  obtain ⟨f_BadMany, F_BadMany⟩ := c.t.d.def_ 26 (d := d_I_BadMany) rfl
  obtain ⟨f_BadOther, F_BadOther⟩ := c.t.d.def_ 27 (d := d_I_BadOther) rfl
  obtain ⟨f_BadStarts, F_BadStarts⟩ := c.t.d.def_ 28 (d := d_I_BadStarts) rfl
  obtain ⟨f_BadSteps, F_BadSteps⟩ := c.t.d.def_ 29 (d := d_I_BadSteps) rfl
  obtain ⟨f_BadWay, F_BadWay⟩ := c.t.d.def_ 30 (d := d_I_BadWay) rfl
  obtain ⟨f_BadWord, F_BadWord⟩ := c.t.d.def_ 31 (d := d_I_BadWord) rfl
  obtain ⟨f_TooMany, F_TooMany⟩ := c.t.d.def_ 32 (d := d_I_TooMany) rfl
  exact ⟨⟨⟨f_BadDeeds, _, _, _, p_BadDeeds, F_BadDeeds, F_BadDeeds.bindsN (ps := ["self", "index"]) fun _ _ _ _ _ _ us hl => match us, hl with | [_, _], _ => rfl⟩⟩, ⟨⟨f_BadEnds, _, _, _, p_BadEnds, F_BadEnds, F_BadEnds.bindsN (ps := ["self", "thing"]) fun _ _ _ _ _ _ us hl => match us, hl with | [_, _], _ => rfl⟩⟩, ⟨⟨f_BadLetters, _, _, _, p_BadLetters, F_BadLetters, F_BadLetters.bindsN (ps := ["self", "thing"]) fun _ _ _ _ _ _ us hl => match us, hl with | [_, _], _ => rfl⟩⟩, ⟨⟨f_BadMachine, _, _, _, p_BadMachine, F_BadMachine, F_BadMachine.bindsN (ps := ["self", "thing"]) fun _ _ _ _ _ _ us hl => match us, hl with | [_, _], _ => rfl⟩⟩, ⟨⟨f_BadMany, _, _, _, p_BadMany, F_BadMany, F_BadMany.bindsN (ps := ["self", "thing"]) fun _ _ _ _ _ _ us hl => match us, hl with | [_, _], _ => rfl⟩⟩, ⟨⟨f_BadOther, _, _, _, p_BadOther, F_BadOther, F_BadOther.bindsN (ps := ["self", "thing"]) fun _ _ _ _ _ _ us hl => match us, hl with | [_, _], _ => rfl⟩⟩, ⟨⟨f_BadStarts, _, _, _, p_BadStarts, F_BadStarts, F_BadStarts.bindsN (ps := ["self", "thing"]) fun _ _ _ _ _ _ us hl => match us, hl with | [_, _], _ => rfl⟩⟩, ⟨⟨f_BadSteps, _, _, _, p_BadSteps, F_BadSteps, F_BadSteps.bindsN (ps := ["self", "index"]) fun _ _ _ _ _ _ us hl => match us, hl with | [_, _], _ => rfl⟩⟩, ⟨⟨f_BadWay, _, _, _, p_BadWay, F_BadWay, F_BadWay.bindsN (ps := ["self", "thing"]) fun _ _ _ _ _ _ us hl => match us, hl with | [_, _], _ => rfl⟩⟩, ⟨⟨f_BadWord, _, _, _, p_BadWord, F_BadWord, F_BadWord.bindsN (ps := ["self", "thing"]) fun _ _ _ _ _ _ us hl => match us, hl with | [_, _], _ => rfl⟩⟩, ⟨⟨f_TooMany, _, _, _, p_TooMany, F_TooMany, F_TooMany.bindsN (ps := ["self", "many"]) fun _ _ _ _ _ _ us hl => match us, hl with | [_, _], _ => rfl⟩⟩, trivial⟩)
theorem glob (X : K.In h) (G : h.Ns mainGlobals mg) (c : Says w h K) (T1 La : Addr) : Glob cf gc (lp K T1 La).par pr w mg base fns lms where
  hG := by decide +kernel
  blt := fun x hx => blt X G c hx
  cns := AllL.get (R := fun x d => isCont d = false ∧ ∃ v u, mg x = some u ∧ RelV v u ∧ ∀ W H, Rep (lp K T1 La).par W H d v) ⟨cns_str (He.str_ok X G (c.t.d.facts (f := .str "SMALL" "abcdefghijklmnopqrstuvwxyz") (List.mem_append_right _ (by simp)))) (by decide +kernel), cns_int (He.int_ok X G (c.t.d.facts (f := .int "LONGEST" 60) (List.mem_append_right _ (by simp)))), trivial⟩
  fn := AllL.get (R := fun g k => FnAt cf gc (lp K T1 La).par pr w mg base fns lms g k) ⟨g_is_plain X G c T1 La, g_need_plain X G c T1 La, g_need_two X G c T1 La, g_mend_table X G c T1 La, g_fewest X G c T1 La, g_mends_between X G c T1 La, g__law_below X G c T1 La, g__law_chance X G c T1 La, g__law_pick X G c T1 La, g__law_mixed X G c T1 La, g__law_copied X G c T1 La, g__law_same X G c T1 La, g__law_kword X G c T1 La, g__law_kletters X G c T1 La, g__law_klev X G c T1 La, g__law_kraised X G c T1 La, g__law_krefuses X G c T1 La, g__law_kno_word X G c T1 La, g__law_knear X G c T1 La, g__law_out_from X G c T1 La, trivial⟩
  sm := fun k m h => by unfold fns at h; split at h <;> cases h <;> first | exact sm_below | exact sm_mixed
  lok := fun k t h => h
  exc := glob_exc (cs := cls) rfl rfl c.more (fun q hq => glo X G c (gl_cls hq)) (inis c) (by decide +kernel)
  cat := glob_cat (cs := cls) rfl rfl rfl c.more (fun q hq => glo X G c (gl_cls hq))
end
end K03
namespace K03
open PySem PySem.Spec PyProof.Rows L2 Dl LamX
abbrev PFn (n : Nat) : PF := pF fns lms n
abbrev PCn (n : Nat) : PC := pC fns lms n
def lawKS : KS := ⟨fun _ => False, fun d => d = .bl true, fun _ => False, fun _ => False, fun _ _ => False⟩
def env0 : DEnv := .un :: .val .strm :: List.replicate 14 .un
theorem law_ok {pr : Program} {w : World} {K : PySem.W.Frag} {mg : Str → Option Value} {base h : Heap} (hw : wSs (PFn 30) (PCn 30) b_law env0 lawKS) (X : K.In h) (G : h.Ns mainGlobals mg) (c : Says w h K) (TB : TabB base mg (He.cT K ("law", none)).1 (He.cT K ("law", none)).2)
    {fd : FuncData} (F : FunD K "law" "law" d_law.params d_law.body d_law.scope [] [] (He.fAd K ("law", none)) fd) : FnOk pr w K mg base (L2.CX pr w) 35 (He.fAd K ("law", none)) fd ["script"] (spLaw K [He.cT K ("law", none)]) := by
  obtain ⟨fs, Fs⟩ := c.t.d.def_ 20 (d := d__law_start) rfl
  exact law_fn (N := n_law) (n := 30) (ns := 14) (fuel := 80) (rest := lawRest) (G := gc) (cf := cf) (fns := fns) (lms := lms) (Bd := b_law) F ⟨rfl, rfl, rfl, by decide +kernel, rfl, by decide +kernel, by decide +kernel⟩ ⟨_, rfl⟩ (by decide +kernel) (by decide +kernel) (by decide +kernel) (by kernel_rfl) (by decide +kernel) (by decide +kernel)
    (fun k l h => by
      have h : ([(205042, ⟨1, l_205042⟩), (207043, ⟨2, l_207043⟩)] : List (Nat × ILam)).lookup k = some l := h
      have m := lookN_mem h
      exact of_decide_eq_true (List.all_eq_true.mp (by decide +kernel : ([(205042, ⟨1, l_205042⟩), (207043, ⟨2, l_207043⟩)] : List (Nat × ILam)).all (fun p => decide ((coE cf p.2.body).c ≤ (cf lamK).c)) = true) _ m)) TB rfl
    (glo X G c (x := "_law_start") (by decide +kernel)) Fs.kp (B__law_start Fs) (start_fn Fs (blt X G c (by decide +kernel))) (fun T1 La => glob X G c T1 La) rfl hw
end K03
open PySem PySem.W PySem.Calls PyProof.Rows
theorem PySem.Challenge.k03_of (hw : Dl.wSs (K03.PFn 30) (K03.PCn 30) K03.b_law K03.env0 K03.lawKS) : PySem.Challenge.rw_lettermends_k03_mends_between_words.Holds := by
  w_on; o_law
  refine HandSHeadRun.head_any (r := OpenLaw.row PySem.Challenge.rw_lettermends_k03_mends_between_words) (q := view (OpenLaw.row PySem.Challenge.rw_lettermends_k03_mends_between_words).prog [38]) (H := K03.hk) (ob := K03.ob) (M := 4000) (loose := K03.loose) (d := HandSHeadRun.topDef (OpenLaw.row PySem.Challenge.rw_lettermends_k03_mends_between_words).prog 38) (kwd := []) K03.ob_eq
    (by kernel_rfl) (fun s => by kernel_rfl) K03.run (by kernel_rfl) (by kernel_rfl) (by kernel_rfl) (by rfl) (by first | assumption | decide +kernel) (by decide +kernel) ⟨rfl, rfl, rfl, rfl, rfl, by decide +kernel⟩ ?hw ?hc
  case hw => w_witness2
  case hc =>
    refine LamX.walk_ofTsE (l := PySem.Challenge.rw_lettermends_k03_mends_between_words) (n := 63) (k := 35) (x := "script") (CX := fun w => L2.CX (PySem.Challenge.rw_lettermends_k03_mends_between_words).prog w) rfl (by decide) (by kernel_rfl) ⟨rfl, by decide, by decide⟩ ?F (fun _ _ _ _ _ z => by obtain ⟨_, _, _, _, _, _, _, _, _, _, _, _, z⟩ := z; exact z)
    intro w mg fa h Y G hmg0
    obtain ⟨K, KX, c⟩ := Y
    have hmg : mg ("law" : PySem.Str) = some (.ref fa) := by
      have e : (HandSHeadRun.topDef (OpenLaw.row PySem.Challenge.rw_lettermends_k03_mends_between_words).prog 38).name = ("law" : PySem.Str) := by kernel_rfl
      rw [← e]
      exact hmg0
    obtain ⟨fd, F⟩ := c.t.d.def_ 21 (d := K03.d_law) rfl
    have e := hmg.symm.trans (K03.glo KX G c (x := "law") (by decide +kernel))
    cases e
    have mem : ∀ p ∈ [He.cT K ("law", none)], p = He.cT K ("law", none) := fun p hp => List.mem_singleton.mp hp
    have b := L2.FunD.bindsA (ps := ["script"]) F fun _ _ _ _ _ _ us hl => match us, hl with | [_], _ => rfl
    refine ⟨K, KX, fd, [He.cT K ("law", none)], Dl.spLaw K [He.cT K ("law", none)], fun p hp => ?_, fun p hp => ?_, fun p hp => ?_, fun s v => b s [v] rfl, fun H a ns hl _ ht hS => ⟨a, ns, rfl, Nat.le_trans hl (by decide), hS, ht, fun _ => rfl⟩, fun base _ Gb TB => ?_⟩
    · rw [mem p hp]
      exact c.empty _ (List.mem_singleton_self _)
    · rw [mem p hp]
      exact c.out _ (List.mem_singleton_self _)
    · rw [mem p hp]
      exact PySem.W.codeHd_of_K KX (c.hd _ (List.mem_singleton_self _))
    · exact K03.law_ok hw KX G c (TB _ (List.mem_singleton_self _)) F
namespace K03
open PySem PySem.Spec PyProof.Rows Dl
open L2 hiding wE wT
local macro_rules | `(tactic| subst_eqs) => `(tactic| simp only [wSs, wS, wE, wT, wEs, wBs, wPs, wO, wD, wC, wB, wSrc, bor, borM, shr, shr1, startD, wipeD, onTru, onInt, onBool, onOwn, onVal, onLst, onItems, onClo, itemsD, D.tru, dkeys, mkOwn, Dl.fresh, Dl.ownOf, parSet, asg, asgL, binD, cmpD, idxD, slcD, biD, isDic, mtD, mtT, hdsD, capsD, cond, if_true, if_false, Bool.false_eq_true,
  List.map_cons, List.map_nil, List.length_cons, List.length_nil, List.replicate_succ, List.replicate_zero, List.cons_append, List.nil_append, List.getElem?_cons_zero, List.getElem?_cons_succ, List.set_cons_zero, List.set_cons_succ, Option.some.injEq, exists_eq_left', Option.bind_some, Option.map_some])
local macro_rules | `(tactic| infer_instance) => `(tactic| first
  | with_reducible refine i_nil ?_
  | with_reducible refine i_cons ?_
  | with_reducible refine i_expr ?_
  | with_reducible refine i_asg ?_
  | with_reducible refine i_asgT ?_
  | with_reducible refine i_par ?_
  | with_reducible refine i_setk ?_
  | with_reducible refine i_app ?_
  | with_reducible refine i_extd ?_
  | with_reducible refine i_ret ?_
  | with_reducible refine i_ite ?_
  | with_reducible refine i_rais ?_
  | with_reducible refine i_tryc ?_
  | with_reducible refine e_cn ?_
  | with_reducible refine e_bin ?_
  | with_reducible refine e_neg ?_
  | with_reducible refine e_cmp ?_
  | with_reducible refine e_and ?_
  | with_reducible refine e_or ?_
  | with_reducible refine e_not ?_
  | with_reducible refine e_ite ?_
  | with_reducible refine e_tup ?_
  | with_reducible refine e_lst ?_
  | with_reducible refine e_dic ?_
  | with_reducible refine e_idx ?_
  | with_reducible refine e_slc ?_
  | with_reducible refine e_rev ?_
  | with_reducible refine e_call ?_
  | with_reducible refine e_callk ?_
  | with_reducible refine e_bi ?_
  | with_reducible refine e_mt ?_
  | with_reducible refine e_isi1 ?_
  | with_reducible refine e_isi2 ?_
  | with_reducible refine e_lrg ?_
  | with_reducible refine e_items ?_
  | with_reducible refine e_calls ?_
  | with_reducible refine e_callL ?_
  | with_reducible refine s_nil ?_
  | with_reducible refine s_cons ?_
  | with_reducible refine s_lam ?_
  | with_reducible refine b_nil ?_
  | with_reducible refine b_cons ?_
  | with_reducible refine p_nil ?_
  | with_reducible refine p_cons ?_
  | with_reducible refine o_none ?_
  | with_reducible refine o_some ?_
  | with_reducible refine c_none ?_
  | with_reducible refine c_some ?_
  | with_reducible refine t_and ?_
  | with_reducible refine t_or ?_
  | with_reducible refine t_not ?_
  | with_reducible refine t_cmp ?_
  | with_reducible refine t_call ?_
  | with_reducible refine t_callL ?_
  | with_reducible refine t_isi ?_
  | with_reducible refine t_bi ?_
  | with_reducible refine t_slot ?_
  | with_reducible refine t_idx ?_
  | with_reducible refine d_int ?_
  | with_reducible refine d_bl ?_
  | with_reducible refine d_lst ?_
  | with_reducible refine d_addi ?_
  | with_reducible refine d_subi ?_
  | with_reducible refine d_lenL ?_
  | with_reducible refine d_lenT ?_
  | with_reducible refine d_intb ?_
  | with_reducible refine d_le ?_
  | with_reducible refine d_lt ?_
  | with_reducible refine d_gt ?_
  | with_reducible refine d_ge ?_
  | with_reducible refine d_isn ?_
  | with_reducible refine d_isnn ?_
  | with_reducible refine d_min3 ?_
  | with_reducible refine d_rev ?_
  | with_reducible refine d_itL ?_
  | with_reducible refine d_itT ?_
  | with_reducible refine d_lenS ?_
  | with_reducible refine d_itS ?_
  | with_reducible refine d_idxZ ?_
  | with_reducible refine d_eqi ?_
  | with_reducible refine d_eqb ?_
  | with_reducible refine d_neb ?_
  | with_reducible refine d_eqt ?_
  | with_reducible refine d_net ?_
  | with_reducible refine d_slcT ?_
  | with_reducible refine i_true ?_
  | with_reducible refine i_false ?_
  | with_reducible refine s_rng ?_
  | with_reducible refine s_valF ?_
  | with_reducible refine s_valT ?_
  | with_reducible refine s_enumF ?_
  | with_reducible refine s_zipT ?_
  | refine e_slot rfl ?_
  | refine r_val rfl ?_
  | refine r_own rfl ?_
  | refine i_own rfl ?_
  | refine i_clo rfl ?_
  | refine i_for rfl ?_
  | refine e_lc rfl ?_
  | with_reducible refine r_e rfl ?_
  | refine i_trueX rfl ?_
  | refine i_falseX rfl ?_
  | refine i_asgT2 rfl ?_
  | refine i_par2 rfl ?_)
local macro_rules | `(tactic| subst_vars) => `(tactic| repeat infer_instance)
local macro_rules | `(tactic| contradiction) => `(tactic| first
  | with_reducible refine i_nil ?_
  | with_reducible refine i_cons ?_
  | with_reducible refine i_expr ?_
  | with_reducible refine i_asg ?_
  | with_reducible refine i_asgT ?_
  | with_reducible refine i_par ?_
  | with_reducible refine i_setk ?_
  | with_reducible refine i_app ?_
  | with_reducible refine i_extd ?_
  | with_reducible refine i_ret ?_
  | with_reducible refine i_ite ?_
  | with_reducible refine i_rais ?_
  | with_reducible refine i_tryc ?_
  | with_reducible refine e_cn ?_
  | with_reducible refine e_bin ?_
  | with_reducible refine e_neg ?_
  | with_reducible refine e_cmp ?_
  | with_reducible refine e_and ?_
  | with_reducible refine e_or ?_
  | with_reducible refine e_not ?_
  | with_reducible refine e_ite ?_
  | with_reducible refine e_tup ?_
  | with_reducible refine e_lst ?_
  | with_reducible refine e_dic ?_
  | with_reducible refine e_idx ?_
  | with_reducible refine e_slc ?_
  | with_reducible refine e_rev ?_
  | with_reducible refine e_call ?_
  | with_reducible refine e_callk ?_
  | with_reducible refine e_bi ?_
  | with_reducible refine e_isi1 ?_
  | with_reducible refine e_isi2 ?_
  | with_reducible refine e_lrg ?_
  | with_reducible refine e_items ?_
  | with_reducible refine e_calls ?_
  | with_reducible refine e_callL ?_
  | with_reducible refine s_nil ?_
  | with_reducible refine s_cons ?_
  | with_reducible refine s_lam ?_
  | with_reducible refine b_nil ?_
  | with_reducible refine b_cons ?_
  | with_reducible refine p_nil ?_
  | with_reducible refine p_cons ?_
  | with_reducible refine o_none ?_
  | with_reducible refine o_some ?_
  | with_reducible refine c_none ?_
  | with_reducible refine c_some ?_
  | with_reducible refine t_and ?_
  | with_reducible refine t_or ?_
  | with_reducible refine t_not ?_
  | with_reducible refine t_cmp ?_
  | with_reducible refine t_call ?_
  | with_reducible refine t_callL ?_
  | with_reducible refine t_isi ?_
  | with_reducible refine t_bi ?_
  | with_reducible refine t_slot ?_
  | with_reducible refine t_idx ?_
  | with_reducible refine d_int ?_
  | with_reducible refine d_bl ?_
  | with_reducible refine d_lst ?_
  | with_reducible refine d_addi ?_
  | with_reducible refine d_subi ?_
  | with_reducible refine d_lenL ?_
  | with_reducible refine d_lenT ?_
  | with_reducible refine d_intb ?_
  | with_reducible refine d_le ?_
  | with_reducible refine d_lt ?_
  | with_reducible refine d_gt ?_
  | with_reducible refine d_ge ?_
  | with_reducible refine d_isn ?_
  | with_reducible refine d_isnn ?_
  | with_reducible refine d_min3 ?_
  | with_reducible refine d_rev ?_
  | with_reducible refine d_itL ?_
  | with_reducible refine d_itT ?_
  | with_reducible refine d_lenS ?_
  | with_reducible refine d_itS ?_
  | with_reducible refine d_idxZ ?_
  | with_reducible refine d_eqi ?_
  | with_reducible refine d_eqb ?_
  | with_reducible refine d_neb ?_
  | with_reducible refine d_eqt ?_
  | with_reducible refine d_net ?_
  | with_reducible refine d_slcT ?_
  | with_reducible refine i_true ?_
  | with_reducible refine i_false ?_
  | with_reducible refine s_rng ?_
  | with_reducible refine s_valF ?_
  | with_reducible refine s_valT ?_
  | with_reducible refine s_enumF ?_
  | with_reducible refine s_zipT ?_
  | refine e_slot rfl ?_
  | refine r_val rfl ?_
  | refine r_own rfl ?_
  | refine i_own rfl ?_
  | refine i_clo rfl ?_
  | refine i_for rfl ?_
  | refine e_lc rfl ?_
  | with_reducible refine r_e rfl ?_
  | refine i_trueX rfl ?_
  | refine i_falseX rfl ?_
  | refine i_asgT2 rfl ?_
  | refine i_par2 rfl ?_)
local macro_rules | `(tactic| symm_saturate) => `(tactic| repeat contradiction)
local macro_rules | `(tactic| false_or_by_contra) => `(tactic| repeat (first | infer_instance | refine ⟨_, rfl, ?_⟩ | refine ⟨_, _, rfl, rfl, ?_⟩))
abbrev pf (n : Nat) : PF := pF fns lms n
def sml (c : Nat) : Bool := strIn (T [c]) "abcdefghijklmnopqrstuvwxyz"
def plainL (l : List Nat) : Bool := decide (l.length ≤ 60) && l.all sml
def plainD : D → Bool
  | .str s => plainL s.cps.toList
  | _ => false
variable {n : Nat} {Q : DK} {E : EK}
theorem toPyL_str (ss : List Str) : toPyL (ss.map D.str) = some (ss.map PyData.str) := by
  induction ss with
  | nil => simp [toPyL]
  | cons s r ih => simp [toPyL, D.toPy, ih]
theorem depth_str (ss : List Str) : PyData.depthAll (ss.map PyData.str) = 0 := by
  induction ss with
  | nil => simp [PyData.depthAll]
  | cons s r ih => simp [PyData.depthAll, PyData.depth, ih]
theorem eq_nil {ss : List Str} {K : Bool → Prop} (h : K ss.isEmpty) : eqD (.lst (ss.map D.str)) (.lst []) K := by
  unfold eqD
  simp only [D.toPy, toPyL_str, toPyL, Option.map_some]
  refine ⟨by simp [PyData.depth, depth_str], by simp [PyData.depth, PyData.depthAll], ?_⟩
  cases ss with
  | nil => simpa [PyData.eqv, PyData.eqvAll] using h
  | cons s r => simpa [PyData.eqv, PyData.eqvAll] using h
theorem f_is_plain {d : D} (hd : ∃ b, tyD .str d = some b) (h : Q (.bl (plainD d))) : pf (n + 1) 0 [d] Q E := by
  refine pF_code rfl ⟨rfl, by decide, ?_⟩
  show wSs _ _ b_is_plain _ _
  unfold b_is_plain
  by_cases hs : ∃ s, d = .str s
  · obtain ⟨s, rfl⟩ := hs
    subst_eqs
    refine ⟨[true], rfl, ?_⟩
    simp only [List.any_cons, List.any_nil, id, Bool.true_or, if_true]
    by_cases h60 : s.length ≤ 60
    · rw [decide_eq_true (by omega), if_pos rfl]
      refine lcLoop_det (p := fun d => match d with | .str z => !strIn z "abcdefghijklmnopqrstuvwxyz" | _ => false) (h := id) _ _ (fun d hd => ?_) ?_
      · unfold Dl.signs at hd
        obtain ⟨c, hc, rfl⟩ := List.mem_map.mp hd
        exact ⟨_, rfl, fun k hk => hk, fun _ k hk => hk⟩
      · have e : (Dl.signs s).filter (fun d => match d with | .str z => !strIn z "abcdefghijklmnopqrstuvwxyz" | _ => false) = ((s.cps.toList.filter fun c => !sml c).map fun c => T [c]).map D.str := by
          unfold Dl.signs
          rw [List.map_map, List.filter_map]
          rfl
        rw [List.nil_append, List.map_id, e]
        refine eq_nil ?_
        have e2 : plainD (.str s) = (((s.cps.toList.filter fun c => !sml c).map fun c => T [c])).isEmpty := by
          show (decide (s.cps.toList.length ≤ 60) && s.cps.toList.all sml) = _
          have : s.cps.toList.length ≤ 60 := by
            have : s.cps.size ≤ 60 := h60
            simpa using this
          rw [decide_eq_true this, Bool.true_and]
          induction s.cps.toList with
          | nil => rfl
          | cons c r ih => cases hc : sml c <;> simp [hc, ih]
        rw [e2] at h
        exact h
    · rw [decide_eq_false (by omega), if_neg (by decide)]
      have : plainD (.str s) = false := by
        show (decide (s.cps.toList.length ≤ 60) && s.cps.toList.all sml) = _
        have : ¬ s.cps.toList.length ≤ 60 := by
          have : ¬ s.cps.size ≤ 60 := h60
          simpa using this
        rw [decide_eq_false this]
        rfl
      rw [this] at h
      exact h
  · have e : plainD d = false := by
      cases d <;> first
        | rfl
        | exact absurd ⟨_, rfl⟩ hs
    rw [e] at h
    have e2 : tyD .str d = some false := by
      obtain ⟨b, hb⟩ := hd
      cases d <;> simp [tyD] at hb ⊢
      exact absurd ⟨_, rfl⟩ hs
    subst_eqs
    refine ⟨[false], by simp [e2], ?_⟩
    simpa using h
theorem f_need_plain {d : D} (hd : ∃ b, tyD .str d = some b) (h : if plainD d then Q d else E ⟨9, some d⟩) : pf (n + 2) 1 [d] Q E := by
  refine pF_code rfl ⟨rfl, by decide, ?_⟩
  show wSs _ _ b_need_plain _ _
  unfold b_need_plain
  subst_eqs
  refine f_is_plain hd ?_
  subst_eqs
  cases hp : plainD d <;> rw [hp] at h <;> simpa using h
theorem f_need_two {d e : D} (hd : ∃ b, tyD .str d = some b) (he : plainD d = true → ∃ b, tyD .str e = some b) (h : if plainD d then (if plainD e then Q (.tup [d, e]) else E ⟨5, some e⟩) else E ⟨9, some d⟩) : pf (n + 3) 2 [d, e] Q E := by
  refine pF_code rfl ⟨rfl, by decide, ?_⟩
  show wSs _ _ b_need_two _ _
  unfold b_need_two
  subst_eqs
  refine f_need_plain hd ?_
  cases hp : plainD d <;> rw [hp] at h
  · simpa using h
  · simp only [if_true] at h ⊢
    refine f_is_plain (he hp) ?_
    cases hq : plainD e <;> rw [hq] at h <;> simpa using h
/-- the distances of s to all ends of b -/
def rowL : List Nat → List Nat → List D
  | [], s => [.int (lev s [] : Nat)]
  | y :: b, s => .int (lev s (y :: b) : Nat) :: rowL b s
theorem rowL_hd (b s : List Nat) : ∃ r, rowL b s = .int (lev s b : Nat) :: r := by cases b <;> exact ⟨_, rfl⟩
theorem rowL_get (b s : List Nat) : ∀ j, j ≤ b.length → (rowL b s)[j]? = some (.int (lev s (b.drop j) : Nat)) := by
  induction b with
  | nil => intro j h; have : j = 0 := by simpa using h
           subst this; rfl
  | cons y b ih =>
    intro j h
    cases j with
    | zero => rfl
    | succ j => exact ih j (by simpa using h)
theorem rowL_len (b s : List Nat) : (rowL b s).length = b.length + 1 := by
  induction b with
  | nil => rfl
  | cons y b ih => rw [rowL, List.length_cons, ih, List.length_cons]
theorem row0 (b : List Nat) : rowL b [] = rangeD (b.length : Nat) (-1) (-1) := by
  have : ((b.length : Nat) : Int) = ((b.length + 1 : Nat) : Int) - 1 := by omega
  rw [this, rangeD_down]
  induction b with
  | nil => rw [rowL, lev_nil]; rfl
  | cons y b ih => rw [rowL, lev_nil, ih (by omega)]; rfl
theorem lev_num (x y A B C : Nat) : (if (C : Int) + 1 < (if (B : Int) + 1 < (A : Int) + (if (!decide ([x] = [y])) = true then 1 else 0) then (B : Int) + 1 else (A : Int) + (if (!decide ([x] = [y])) = true then 1 else 0)) then (C : Int) + 1 else (if (B : Int) + 1 < (A : Int) + (if (!decide ([x] = [y])) = true then 1 else 0) then (B : Int) + 1 else (A : Int) + (if (!decide ([x] = [y])) = true then 1 else 0))) = ((min (min (A + if x = y then 0 else 1) (C + 1)) (B + 1) : Nat) : Int) := by
  by_cases e : x = y
  · subst e
    simp only [decide_true, Bool.not_true, Bool.false_eq_true, if_false, if_true]
    split <;> split <;> omega
  · have : ¬ [x] = [y] := fun z => e (List.cons.inj z).1
    simp only [this, decide_false, Bool.not_false, if_true, e, if_false]
    split <;> split <;> omega
theorem rg_ok {i j k : Int} {p : Prop} (hk : k = 1 ∨ k = -1) (h1 : -1 ≤ i) (h2 : i ≤ 100) (h3 : -1 ≤ j) (h4 : j ≤ 100) (h : p) : (k = 1 ∨ k = -1) ∧ small i ∧ small j ∧ (i - j).natAbs ≤ 100000 ∧ p :=
  ⟨hk, ⟨by omega, by omega⟩, ⟨by omega, by omega⟩, by omega, h⟩
theorem f_mend_table {a b : List Nat} (ha : a.length ≤ 60) (hb : b.length ≤ 60) (h : ∀ r, Q (.lst (.lst (rowL b a) :: r))) : pf (n + 1) 3 [tx a, tx b] Q E := by
  refine pF_code rfl ⟨rfl, by decide, ?_⟩
  show wSs _ _ b_mend_table [.val (tx a), .val (tx b), .un, .un, .un, .un, .un] _
  unfold b_mend_table
  subst_vars
  refine rg_ok (.inr rfl) (by omega) (by omega) (by decide) (by decide) ?_
  rw [← row0]
  subst_vars
  refine rg_ok (.inr rfl) (by omega) (by omega) (by decide) (by decide) ?_
  rw [rangeD_down]
  refine forLoop_inv (fun rest env => ∃ i R s3 s4 s5 s6, i ≤ a.length ∧ rest = downD i ∧ R.length + i = a.length ∧ env = [.val (tx a), .val (tx b), .own (.lst (R ++ [.lst (rowL b (a.drop i))])), s3, s4, s5, s6]) (fun env hI => ?_) (fun d r env hI => ?_) _ _ ⟨a.length, [], .un, .un, .un, .un, Nat.le_refl _, rfl, by simp, by rw [List.drop_length]; rfl⟩
  · obtain ⟨i, R, s3, s4, s5, s6, hi, hr, hl, rfl⟩ := hI
    cases i with
    | succ i => cases hr
    | zero =>
      subst_vars
      rw [List.reverse_append]
      exact h _
  · obtain ⟨i, R, s3, s4, s5, s6, hi, hr, hl, rfl⟩ := hI
    cases i with
    | zero => cases hr
    | succ i =>
      rw [downD] at hr
      cases hr
      refine ⟨_, rfl, fun K' k1 k2 k3 => ?_⟩
      have hx : a.drop i = a[i] :: a.drop (i + 1) := List.drop_eq_getElem_cons (by omega)
      have ax : a[i]? = some a[i] := List.getElem?_eq_getElem (by omega)
      generalize a[i] = x at hx ax
      subst_vars
      refine rg_ok (.inr rfl) (by omega) (by omega) (by decide) (by decide) ?_
      rw [rangeD_down]
      refine forLoop_inv (fun rest env => ∃ p s5 s6, p ≤ b.length ∧ rest = downD p ∧ env = [.val (tx a), .val (tx b), .own (.lst (R ++ [.lst (rowL b (a.drop (i + 1)))])), .val (.int i), .own (.lst (rowL (b.drop p) (a.drop i)).reverse), s5, s6]) (fun env hI => ?_) (fun d r env hI => ?_) _ _ ⟨b.length, s5, s6, Nat.le_refl _, rfl, by
        rw [List.drop_length]
        have : (a.length : Int) - i = ((lev (a.drop i) [] : Nat) : Int) := by rw [lev_nil2, List.length_drop]; omega
        rw [this]
        rfl⟩
      · obtain ⟨p, s5, s6, hp, hr, rfl⟩ := hI
        cases p with
        | succ p => cases hr
        | zero =>
          subst_vars
          rw [List.reverse_reverse]
          refine ⟨by simp; have : sizeLine = 16777216 := rfl; omega, ?_⟩
          subst_vars
          exact k3 _ ⟨i, R ++ [.lst (rowL b (a.drop (i + 1)))], _, _, _, _, by omega, rfl, by simp; omega, rfl⟩
      · obtain ⟨p, s5, s6, hp, hr, rfl⟩ := hI
        cases p with
        | zero => cases hr
        | succ p =>
          rw [downD] at hr
          cases hr
          refine ⟨_, rfl, fun K2 k4 k5 k6 => ?_⟩
          have hy : b.drop p = b[p] :: b.drop (p + 1) := List.drop_eq_getElem_cons (by omega)
          have bx : b[p]? = some b[p] := List.getElem?_eq_getElem (by omega)
          generalize b[p] = y at hy bx
          have g1 := rowL_get b (a.drop (i + 1)) (p + 1) (by omega)
          have g2 := rowL_get b (a.drop (i + 1)) p (by omega)
          obtain ⟨r3, e3⟩ := rowL_hd (b.drop (p + 1)) (a.drop i)
          have e4 : rowL (b.drop p) (a.drop i) = .int (lev (a.drop i) (b.drop p) : Nat) :: rowL (b.drop (p + 1)) (a.drop i) := by rw [hy]; rfl
          subst_vars
          refine d_idxL (i := p + 1) g1 ?_
          subst_vars
          refine d_idxS ax ?_
          subst_vars
          refine d_idxS bx ?_
          subst_vars
          refine d_idxL g2 ?_
          subst_vars
          rw [e3, List.reverse_cons]
          subst_vars
          refine ⟨by simp [List.length_drop]; have : sizeLine = 16777216 := rfl; have := congrArg List.length e3; rw [rowL_len] at this; simp at this; omega, ?_⟩
          subst_vars
          have num := lev_num x y (lev (a.drop (i + 1)) (b.drop (p + 1))) (lev (a.drop (i + 1)) (b.drop p)) (lev (a.drop i) (b.drop (p + 1)))
          have lc : lev (a.drop i) (b.drop p) = min (min (lev (a.drop (i + 1)) (b.drop (p + 1)) + if x = y then 0 else 1) (lev (a.drop i) (b.drop (p + 1)) + 1)) (lev (a.drop (i + 1)) (b.drop p) + 1) := by rw [hx, hy, lev_cons]
          rw [← lc] at num
          rw [num]
          refine k6 _ ⟨p, .val (.int p), .val (.int ((lev (a.drop (i + 1)) (b.drop (p + 1)) : Int) + if (!decide ([x] = [y])) = true then 1 else 0)), by omega, rfl, ?_⟩
          rw [e4, List.reverse_cons, e3, List.reverse_cons]
          rfl
theorem f_fewest {a b : List Nat} (ha : a.length ≤ 60) (hb : b.length ≤ 60) (h : Q (.int (lev a b : Nat))) : pf (n + 2) 4 [tx a, tx b] Q E := by
  refine pF_code rfl ⟨rfl, by decide, ?_⟩
  show wSs _ _ b_fewest [.val (tx a), .val (tx b)] _
  unfold b_fewest
  subst_vars
  refine f_mend_table ha hb fun r => ?_
  subst_vars
  refine d_idxL (i := 0) rfl ?_
  subst_vars
  obtain ⟨q, e⟩ := rowL_hd b a
  rw [e]
  exact d_idxL (i := 0) rfl h
theorem plain_tx {d : D} (h : plainD d = true) : ∃ a, d = tx a ∧ plainL a = true := by
  cases d <;> try (cases h)
  rename_i s
  exact ⟨s.cps.toList, by rw [tx, T_eq], h⟩
theorem plainL_len {a : List Nat} (h : plainL a = true) : a.length ≤ 60 := by
  unfold plainL at h
  exact of_decide_eq_true (Bool.and_eq_true_iff.mp h).1
theorem plain_of {a : List Nat} (h : plainL a = true) : plainD (tx a) = true := by
  show plainL (T a).cps.toList = true
  rw [T_list]
  exact h
theorem f_mends {d e : D} (hd : ∃ b, tyD .str d = some b) (he : plainD d = true → ∃ b, tyD .str e = some b) (h1 : plainD d = false → E ⟨9, some d⟩) (h2 : plainD d = true → plainD e = false → E ⟨5, some e⟩) (h3 : ∀ a b, d = tx a → e = tx b → plainL a = true → plainL b = true → Q (.int (lev a b : Nat))) : pf (n + 4) 5 [d, e] Q E := by
  refine pF_code rfl ⟨rfl, by decide, ?_⟩
  show wSs _ _ b_mends_between [.val d, .val e, .un, .un] _
  unfold b_mends_between
  subst_vars
  refine f_need_two hd he ?_
  cases hp : plainD d
  · exact h1 hp
  · cases hq : plainD e
    · exact h2 hp hq
    · obtain ⟨a, rfl, pa⟩ := plain_tx hp
      obtain ⟨b, rfl, pb⟩ := plain_tx hq
      refine i_true (i_true ?_)
      subst_vars
      exact f_fewest (plainL_len pa) (plainL_len pb) (h3 a b rfl rfl pa pb)
/-- the distances of s to the first parts of b -/
def rowK (b s : List Nat) (j : Nat) : List D := (List.range (j + 1)).map fun t => .int (lev s (b.take t).reverse : Nat)
theorem rowK_get (b s : List Nat) {j t : Nat} (h : t ≤ j) : (rowK b s j)[t]? = some (.int (lev s (b.take t).reverse : Nat)) := by
  unfold rowK
  rw [List.getElem?_map, List.getElem?_range (by omega)]
  rfl
theorem rowK_succ (b s : List Nat) (j : Nat) : rowK b s (j + 1) = rowK b s j ++ [.int (lev s (b.take (j + 1)).reverse : Nat)] := by
  unfold rowK
  rw [List.range_succ, List.map_append]
  rfl
theorem rowK_last (b s : List Nat) (j : Nat) : ∃ r, rowK b s j = r ++ [.int (lev s (b.take j).reverse : Nat)] := by
  unfold rowK
  rw [List.range_succ, List.map_append]
  exact ⟨_, rfl⟩
theorem rowK_len (b s : List Nat) (j : Nat) : (rowK b s j).length = j + 1 := by simp [rowK]
theorem f_klev {a b : List Nat} (ha : a.length ≤ 60) (hb : b.length ≤ 60) (h : Q (.int (lev a b : Nat))) : pf (n + 1) 14 [tx a, tx b] Q E := by
  refine pF_code rfl ⟨rfl, by decide, ?_⟩
  show wSs _ _ b__law_klev [.val (tx a), .val (tx b), .un, .un, .un, .un, .un, .un] _
  unfold b__law_klev
  subst_vars
  refine rg_ok (.inl rfl) (by decide) (by decide) (by omega) (by omega) ?_
  subst_vars
  refine ⟨small0, ?_⟩
  have e0 : rangeD 0 ((b.length : Int) + 1) 1 = rowK b [] b.length := by
    have := rangeD_up 0 (b.length + 1)
    rw [show ((0 : Int) + ((b.length + 1 : Nat) : Int)) = (b.length : Int) + 1 by omega] at this
    rw [this]
    unfold rowK
    refine List.map_congr_left fun t ht => ?_
    have := List.mem_range.mp ht
    rw [lev_nil, List.length_reverse, List.length_take]
    congr 1
    omega
  rw [e0]
  refine forLoop_ix (fun i env => ∃ s2 s3 s4 s5 s6 s7, (s2 = .val (.lst (rowK b (a.take i).reverse b.length)) ∨ s2 = .own (.lst (rowK b (a.take i).reverse b.length))) ∧ env = [.val (tx a), .val (tx b), s2, s3, s4, s5, s6, s7]) (fun env hI => ?_) (fun i d env hi hd hI => ?_) ⟨_, _, _, _, _, _, .inr rfl, rfl⟩
  · obtain ⟨s2, s3, s4, s5, s6, s7, hs, rfl⟩ := hI
    subst_vars
    refine r_any hs rfl ?_
    subst_vars
    obtain ⟨r, e⟩ := rowK_last b (a.take _).reverse b.length
    rw [e]
    subst_vars
    simp only [List.length_map, List.length_zipIdx, List.take_length] at *
    rw [lev_rev]
    exact h
  · obtain ⟨s2, s3, s4, s5, s6, s7, hs, rfl⟩ := hI
    obtain ⟨x, hx, rfl⟩ := enum0_get hd
    rw [List.getElem?_map] at hx
    obtain ⟨c, hc, rfl⟩ := Option.map_eq_some_iff.mp hx
    refine ⟨_, rfl, fun K' k1 k2 k3 => ?_⟩
    subst_vars
    refine ⟨small0, ?_⟩
    have hil : i < a.length := by
      rw [List.length_map, List.length_zipIdx, List.length_map] at hi
      exact hi
    have es : (a.take (i + 1)).reverse = c :: (a.take i).reverse := by
      rw [List.take_succ, hc]
      simp
    refine forLoop_ix (fun j env => ∃ s6 s7, env = [.val (tx a), .val (tx b), s2, .val (.int (i : Nat)), .val (tx [c]), .own (.lst (rowK b (a.take (i + 1)).reverse j)), s6, s7]) (fun env hI => ?_) (fun j d env hj hd hI => ?_) ⟨s6, s7, ?_⟩
    · obtain ⟨s6, s7, rfl⟩ := hI
      subst_vars
      rw [List.length_map, List.length_zipIdx, List.length_map]
      exact k3 _ ⟨_, _, _, _, _, _, .inl rfl, rfl⟩
    · obtain ⟨s6, s7, rfl⟩ := hI
      obtain ⟨x, hx, rfl⟩ := enum0_get hd
      rw [List.getElem?_map] at hx
      obtain ⟨y, hy, rfl⟩ := Option.map_eq_some_iff.mp hx
      have hjl : j < b.length := by
        rw [List.length_map, List.length_zipIdx, List.length_map] at hj
        exact hj
      have eb : (b.take (j + 1)).reverse = y :: (b.take j).reverse := by
        rw [List.take_succ, hy]
        simp
      obtain ⟨r, er⟩ := rowK_last b (a.take (i + 1)).reverse j
      refine ⟨_, rfl, fun K2 k4 k5 k6 => ?_⟩
      subst_vars
      refine r_any hs rfl ?_
      subst_vars
      refine d_idxL (rowK_get b (a.take i).reverse (Nat.le_of_lt hjl)) ?_
      subst_vars
      refine r_any hs rfl ?_
      subst_vars
      refine d_idxL (i := j + 1) (rowK_get b (a.take i).reverse hjl) ?_
      subst_vars
      rw [er]
      subst_vars
      refine ⟨by rw [← er, rowK_len]; have : sizeLine = 16777216 := rfl; omega, ?_⟩
      subst_vars
      have num := lev_num c y (lev (a.take i).reverse (b.take j).reverse) (lev (a.take i).reverse (b.take (j + 1)).reverse) (lev (a.take (i + 1)).reverse (b.take j).reverse)
      have lc : lev (a.take (i + 1)).reverse (b.take (j + 1)).reverse = min (min (lev (a.take i).reverse (b.take j).reverse + if c = y then 0 else 1) (lev (a.take (i + 1)).reverse (b.take j).reverse + 1)) (lev (a.take i).reverse (b.take (j + 1)).reverse + 1) := by rw [es, eb, lev_cons]
      rw [← lc] at num
      rw [num]
      refine k6 _ ⟨.val (.int (j : Nat)), .val (tx [y]), ?_⟩
      rw [rowK_succ, er]
      rfl
    · have : (i : Int) + 1 = ((lev (a.take (i + 1)).reverse (b.take 0).reverse : Nat) : Int) := by
        rw [List.take_zero, List.reverse_nil, lev_nil2, List.length_reverse, List.length_take]
        omega
      rw [this]
      rfl
theorem f_below {m : Int} (h0 : 0 < m) (h1 : m < 1073741824) (h : ∀ r : Nat, (r : Int) < m → Q (.int (r : Nat))) : pf (n + 1) 6 [.strm, .int m] Q E := by
  refine pF_spec rfl ⟨m, rfl, h0, h1, fun r a b => ?_⟩
  have := h r.toNat (by omega)
  rwa [Int.toNat_of_nonneg a] at this
theorem f_chance {m : Int} (h0 : 0 < m) (h1 : m < 1073741824) (h : ∀ b, Q (.bl b)) : pf (n + 2) 7 [.strm, .int m] Q E := by
  refine pF_code rfl ⟨rfl, by decide, ?_⟩
  show wSs _ _ b__law_chance [.val .strm, .val (.int m)] _
  unfold b__law_chance
  subst_vars
  refine f_below h0 h1 fun r _ => ?_
  subst_vars
  exact h _
theorem f_pick {xs : List D} (h0 : xs ≠ []) (h1 : xs.length < 1000) (h : ∀ d ∈ xs, Q d) : pf (n + 2) 8 [.strm, .lst xs] Q E := by
  refine pF_code rfl ⟨rfl, by decide, ?_⟩
  show wSs _ _ b__law_pick [.val .strm, .val (.lst xs)] _
  unfold b__law_pick
  subst_vars
  have hl : 0 < xs.length := List.length_pos_iff.mpr h0
  refine f_below (by omega) (by omega) fun r hr => ?_
  refine d_idxL (List.getElem?_eq_getElem (by omega)) ?_
  exact h _ (List.getElem_mem _)
theorem f_mixed {xs : List D} (h1 : xs.length ≤ 100000) (h : ∀ ys : List D, ys.Perm xs → Q (.lst ys)) : pf (n + 1) 9 [.strm, .lst xs] Q E :=
  pF_spec rfl ⟨_, xs, rfl, .inl rfl, h1, h⟩
theorem map_of {α β : Type} {f : α → β} {P : α → Prop} : ∀ {ys : List β}, (∀ y ∈ ys, ∃ c, P c ∧ y = f c) → ∃ ls : List α, ys = ls.map f ∧ ∀ c ∈ ls, P c
  | [], _ => ⟨[], rfl, fun _ h => nomatch h⟩
  | y :: r, h => by
    obtain ⟨c, hc, rfl⟩ := h y List.mem_cons_self
    obtain ⟨ls, rfl, hl⟩ := map_of (ys := r) fun y hy => h y (List.mem_cons_of_mem _ hy)
    exact ⟨c :: ls, rfl, fun d hd => by
      rcases List.mem_cons.mp hd with rfl | hd
      · exact hc
      · exact hl d hd⟩
theorem nil_T : (Str.ofString "" : Str) = T [] := by decide +kernel
theorem join0 (ls : List Nat) : Txt.join (T []) (ls.map fun c => T [c]) = T ls := by
  have e : Txt.join (T []) (ls.map fun c => T [c]) = Str.join (T []) (ls.map fun c => T [c]) := StrLaws.glued_eq_join _ _
  rw [e]
  induction ls with
  | nil => rfl
  | cons c r ih =>
    cases r with
    | nil => rfl
    | cons d r =>
      show T [c] ++ T [] ++ Str.join (T []) ((d :: r).map fun c => T [c]) = _
      rw [ih (StrLaws.glued_eq_join _ _), T_app, T_app]
      rfl
theorem sum_one (ls : List Nat) : (((ls.map fun c => T [c]).map (·.length)).sum) = ls.length := by
  induction ls with
  | nil => rfl
  | cons c r ih =>
    rw [List.map_cons, List.map_cons, List.sum_cons, ih, T_len]
    simp
    omega
theorem d_join0 {ls : List Nat} (hz : ls.length ≤ 16777216) (h : Q (tx ls)) : mtD .join (tx []) [.lst (ls.map fun c => tx [c])] Q := by
  refine ⟨ls.map fun c => T [c], by rw [List.map_map]; rfl, ?_, ?_⟩
  · rw [sum_one, T_len]
    simpa using hz
  · rw [join0]
    exact h
/-- the letters there are -/
structure Lets (ls : List Nat) : Prop where
  ne : ls ≠ []
  le : ls.length ≤ 3
  sml : ∀ c ∈ ls, sml c = true
abbrev letD (ls : List Nat) : D := .lst (ls.map fun c => tx [c])
theorem d_listS {l : List Nat} (h : Q (.lst (l.map fun c => tx [c]))) : biD .list [tx l] Q := by
  show Q (.lst (Dl.signs (T l)))
  rw [signs_T]
  exact h
theorem d_slcL {x : List D} {lo hi : Option Int} (h : Q (.lst (cutA x lo hi))) : slcD (.lst x) lo hi Q := h
theorem cut_to {α : Type} (xs : List α) (k : Nat) : cutA xs none (some (k : Int)) = xs.take (min k xs.length) := by
  unfold cutA
  rw [HT.sIx_none, HT.sIx_nat, List.drop_zero, Nat.sub_zero]
theorem cut_from {α : Type} (xs : List α) (k : Nat) : cutA xs (some (k : Int)) none = xs.drop (min k xs.length) := by
  unfold cutA
  rw [HT.sIx_none, HT.sIx_nat]
  refine List.take_of_length_le ?_
  rw [List.length_drop]
  exact Nat.le_refl _
theorem abc : (Str.ofString "abcdxyz" : Str) = T [97, 98, 99, 100, 120, 121, 122] := by decide +kernel
theorem abc_sml : ∀ c ∈ [97, 98, 99, 100, 120, 121, 122], sml c = true := by decide +kernel
theorem f_kletters (h : ∀ ls, Lets ls → Q (letD ls)) : pf (n + 2) 13 [.strm] Q E := by
  refine pF_code rfl ⟨rfl, by decide, ?_⟩
  show wSs _ _ b__law_kletters [.val .strm] _
  unfold b__law_kletters
  rw [abc]
  subst_vars
  refine d_listS ?_
  subst_vars
  refine f_mixed (by decide) fun ys hp => ?_
  obtain ⟨ls, rfl, hl⟩ := map_of (ys := ys) (f := fun c => tx [c]) (P := fun c => c ∈ [97, 98, 99, 100, 120, 121, 122]) fun y hy => by
    obtain ⟨c, hc, rfl⟩ := List.mem_map.mp (hp.mem_iff.mp hy)
    exact ⟨c, hc, rfl⟩
  have hlen : ls.length = 7 := by
    have := hp.length_eq
    simpa using this
  subst_vars
  refine f_below (by decide) (by decide) fun r hr => ?_
  subst_vars
  rw [show (1 + (r : Int)) = ((r + 1 : Nat) : Int) by omega]
  refine d_slcL ?_
  rw [cut_to, List.length_map, hlen, ← List.map_take]
  subst_vars
  have tl : (ls.take (min (r + 1) 7)).length = r + 1 := by rw [List.length_take]; omega
  refine ⟨(ls.take (min (r + 1) 7)).map fun c => T [c], by rw [List.map_map]; rfl, by rw [List.length_map, tl]; omega, fun ts ht _ => ?_⟩
  obtain ⟨ms, rfl, hm⟩ := map_of (ys := ts) (f := fun c => T [c]) (P := fun c => c ∈ ls) fun y hy => by
    obtain ⟨c, hc, rfl⟩ := List.mem_map.mp (ht.mem_iff.mp hy)
    exact ⟨c, List.mem_of_mem_take hc, rfl⟩
  have ml : ms.length = r + 1 := by
    have := ht.length_eq
    rw [List.length_map, List.length_map, tl] at this
    exact this
  rw [List.map_map]
  exact h ms ⟨fun z => (by rw [z] at ml; cases ml), by omega, fun c hc => abc_sml c (hl c (hm c hc))⟩
theorem set_ne {env : DEnv} {v i : Nat} {s t : Sl} (n : v ≠ i) (e : env[i]? = some s) : (env.set v t)[i]? = some s := by
  rw [List.getElem?_set_ne n]
  exact e
theorem j_picks {m : Nat} {e : IE} {i0 i1 v : Nat} {env : DEnv} {ls : List Nat} {P : Nat → Prop} (h0 : env[i0]? = some (.val .strm)) (h1 : env[i1]? = some (.val (letD ls))) (n0 : v ≠ i0) (n1 : v ≠ i1) (L : Lets ls)
    (he : ∀ Q' : DK, (∀ k : Nat, P k → Q' (.int k)) → bor e (wE (pf (m + 2)) (pC fns lms (m + 2)) e) env Q' E) (hk : ∀ k, P k → k ≤ 100) (h : ∀ k l, P k → l.length = k → (∀ c ∈ l, c ∈ ls) → Q (tx l)) :
    wE (pf (m + 2)) (pC fns lms (m + 2)) (.mt .join (.cn (.str "")) (.cons (.lc (.call 8 (.cons (.slot i0) (.cons (.slot i1) .nil))) (.nm v) (.rng (.cn (.int 0)) e 1) .none [v]) .nil)) env Q E := by
  rw [nil_T]
  refine e_mt (r_e rfl (e_cn ⟨rfl, b_cons (r_e rfl (e_lc rfl (s_rng (r_e rfl (e_cn (he _ fun k pk => ?_))))))⟩))
  have := hk k pk
  refine d_int (d_int (rg_ok (.inl rfl) (by decide) (by decide) (by omega) (by omega) ?_))
  have hr := rangeD_up 0 k
  rw [show ((0 : Int) + (k : Int)) = (k : Int) by omega] at hr
  rw [hr]
  refine lcLoop_any (R := fun y => ∃ c, c ∈ ls ∧ y = tx [c]) _ _ (fun d hd => ⟨_, rfl, fun k hk => c_none hk, fun k hk => ?_⟩) fun ys hl hys => ?_
  · refine e_call (s_cons (e_slot (set_ne n0 (set_ne n0 h0)) (s_cons (e_slot (set_ne n1 (set_ne n1 h1)) (s_nil ?_)))))
    refine f_pick (by simpa using L.ne) (by rw [List.length_map]; have := L.le; omega) fun d hd => ?_
    obtain ⟨c, hc, rfl⟩ := List.mem_map.mp hd
    exact hk _ ⟨c, hc, rfl⟩
  · obtain ⟨l, rfl, hc⟩ := map_of hys
    rw [List.length_map, List.length_map, List.length_range] at hl
    rw [List.nil_append]
    exact b_nil (d_join0 (by omega) (h k l pk hl hc))
theorem flat_mem {l : List Nat} {k c : Nat} (h : c ∈ (List.replicate k l).flatten) : c ∈ l := by
  obtain ⟨m, hm, hc⟩ := List.mem_flatten.mp h
  rw [List.eq_of_mem_replicate hm] at hc
  exact hc
theorem f_kword {ls : List Nat} {m : Nat} (L : Lets ls) (hm : m ≤ 9) (h : ∀ l : List Nat, l.length ≤ m → (∀ c ∈ l, c ∈ ls) → Q (tx l)) : pf (n + 3) 12 [.strm, letD ls, .int m] Q E := by
  refine pF_code rfl ⟨rfl, by decide, ?_⟩
  show wSs _ _ b__law_kword [.val .strm, .val (letD ls), .val (.int m), .un, .un, .un] _
  unfold b__law_kword
  subst_vars
  refine f_below (by omega) (by omega) fun many hmany => ?_
  subst_vars
  refine f_chance (by decide) (by decide) fun b => ?_
  subst_vars
  cases b with
  | true =>
    refine i_true ?_
    infer_instance
    infer_instance
    refine j_picks (P := fun k => k ≤ 3) rfl rfl (by decide) (by decide) L (fun Q' hQ => ?_) (fun k hk => by omega) fun k l hk hl hc => ?_
    · subst_vars
      refine f_below (by decide) (by decide) fun r hr => ?_
      subst_vars
      rw [show (1 + (r : Int)) = ((r + 1 : Nat) : Int) by omega]
      exact hQ _ (by omega)
    · subst_vars
      refine ⟨by omega, by omega, by rw [T_len, Int.toNat_natCast, hl]; have : sizeLine = 16777216 := rfl; have : k * m ≤ 3 * 9 := Nat.mul_le_mul hk hm; omega, ?_⟩
      rw [T_rep, Int.toNat_natCast]
      subst_vars
      rw [cut_to]
      refine h _ ?_ fun c hc' => hc c (flat_mem (List.mem_of_mem_take hc'))
      rw [List.length_take]
      omega
  | false =>
    refine i_false ?_
    infer_instance
    infer_instance
    infer_instance
    refine j_picks (P := fun k => k ≤ m) rfl rfl (by decide) (by decide) L (fun Q' hQ => ?_) (fun k hk => by omega) fun k l hk hl hc => ?_
    · subst_vars
      exact hQ _ (by omega)
    · exact h l (by omega) hc
theorem e_lcK {pf : PF} {pc : PC} {env : DEnv} {elt : IE} {tg : IT} {src : ISrc} {c : IO} {own : List Nat} {ds : List D} (e : dkeys src env = some ds) (h : lcLoop (fun d e => asg tg d e) (fun e k => wC pf pc c e k) (fun e k => wE pf pc elt e k fun _ => False) (wipeD env own) Q ds []) : wE pf pc (.lc elt tg src c own) env Q E := by
  unfold wE
  rw [e]
  exact h
/-- the same thing is found the same -/
def Same (k : Nat) (d : D) : Prop := ∀ (n : Nat) (Q : DK) (E : EK), Q (.bl true) → pf (n + k) 11 [d, d] Q E
theorem same_int (i : Int) : Same 1 (.int i) := by
  intro n Q E h
  refine pF_code rfl ⟨rfl, by decide, ?_⟩
  show wSs _ _ b__law_same [.val (.int i), .val (.int i), .un, .un] _
  unfold b__law_same
  false_or_by_contra
  rw [decide_eq_true rfl]
  exact h
theorem same_bl (i : Bool) : Same 1 (.bl i) := by
  intro n Q E h
  refine pF_code rfl ⟨rfl, by decide, ?_⟩
  show wSs _ _ b__law_same [.val (.bl i), .val (.bl i), .un, .un] _
  unfold b__law_same
  false_or_by_contra
  rw [beq_self_eq_true]
  exact h
theorem same_non : Same 1 .non := by
  intro n Q E h
  refine pF_code rfl ⟨rfl, by decide, ?_⟩
  show wSs _ _ b__law_same [.val .non, .val .non, .un, .un] _
  unfold b__law_same
  false_or_by_contra
  exact h
theorem same_tx (l : List Nat) : Same 1 (tx l) := by
  intro n Q E h
  refine pF_code rfl ⟨rfl, by decide, ?_⟩
  show wSs _ _ b__law_same [.val (tx l), .val (tx l), .un, .un] _
  unfold b__law_same
  false_or_by_contra
  rw [decide_eq_true rfl]
  exact h
theorem all_true {ds : List D} (h : Q (.bl true)) : biD .all [.lst ([] ++ (((ds.zip ds).map fun p => D.tup [p.1, p.2]).filter fun _ => true).map fun _ => D.bl true)] Q := by
  refine ⟨(((ds.zip ds).map fun p => D.tup [p.1, p.2]).filter fun _ => true).map fun _ => true, by rw [List.map_map]; rfl, ?_⟩
  rw [List.all_map]
  have : ((((ds.zip ds).map fun p => D.tup [p.1, p.2]).filter fun _ => true).all (id ∘ fun _ => true)) = true := by simp
  rw [this]
  exact h
theorem zip_self {ds : List D} {d : D} (h : d ∈ (ds.zip ds).map fun p => D.tup [p.1, p.2]) : ∃ x ∈ ds, d = .tup [x, x] := by
  obtain ⟨⟨x, y⟩, hp, rfl⟩ := List.mem_map.mp h
  obtain ⟨i, hi, e⟩ := List.mem_iff_getElem.mp hp
  rw [List.getElem_zip] at e
  cases e
  exact ⟨_, List.getElem_mem _, rfl⟩
theorem same_lst {k : Nat} {ds : List D} (hs : ∀ d ∈ ds, Same k d) : Same (k + 1) (.lst ds) := by
  intro n Q E h
  refine pF_code rfl ⟨rfl, by decide, ?_⟩
  show wSs _ _ b__law_same [.val (.lst ds), .val (.lst ds), .un, .un] _
  unfold b__law_same
  false_or_by_contra
  rw [decide_eq_true rfl]
  false_or_by_contra
  refine lcLoop_det (p := fun _ => true) (h := fun _ => .bl true) _ _ (fun d hd => ?_) ?_
  · obtain ⟨x, hx, rfl⟩ := zip_self hd
    refine ⟨_, rfl, fun k hk => c_none hk, fun _ q hq => ?_⟩
    false_or_by_contra
    exact hs x hx _ _ _ hq
  · exact b_nil (all_true h)
theorem same_tup {k : Nat} {ds : List D} (hs : ∀ d ∈ ds, Same k d) : Same (k + 1) (.tup ds) := by
  intro n Q E h
  refine pF_code rfl ⟨rfl, by decide, ?_⟩
  show wSs _ _ b__law_same [.val (.tup ds), .val (.tup ds), .un, .un] _
  unfold b__law_same
  false_or_by_contra
  rw [decide_eq_true rfl]
  false_or_by_contra
  refine lcLoop_det (p := fun _ => true) (h := fun _ => .bl true) _ _ (fun d hd => ?_) ?_
  · obtain ⟨x, hx, rfl⟩ := zip_self hd
    refine ⟨_, rfl, fun k hk => c_none hk, fun _ q hq => ?_⟩
    false_or_by_contra
    exact hs x hx _ _ _ hq
  · exact b_nil (all_true h)
theorem same_dic : Same 2 (.dK []) := by
  intro n Q E h
  refine pF_code rfl ⟨rfl, by decide, ?_⟩
  show wSs _ _ b__law_same [.val (.dK []), .val (.dK []), .un, .un] _
  unfold b__law_same
  false_or_by_contra
  show wEs _ _ _ _ _ _
  false_or_by_contra
  show wEs _ _ _ _ _ _
  false_or_by_contra
  exact same_lst (k := 0) (ds := []) (fun _ h => nomatch h) n _ _ h
theorem Same.up {k : Nat} {d : D} (s : Same k d) : Same (k + 1) d := fun n Q E h => by
  have := s (n + 1) Q E h
  rwa [show n + 1 + k = n + (k + 1) by omega] at this
/-- what is copied is the same -/
def Cop (k : Nat) (d : D) : Prop := ∀ (n : Nat) (Q : DK) (E : EK), Q d → pf (n + k) 10 [d] Q E
theorem cop_flat {d : D} (h1 : tyD .dict d = some false) (h2 : tyD .list d = some false) (h3 : tyD .tuple d = some false) : Cop 1 d := by
  intro n Q E h
  refine pF_code rfl ⟨rfl, by decide, ?_⟩
  show wSs _ _ b__law_copied [.val d, .un, .un, .un] _
  unfold b__law_copied
  subst_vars
  refine ⟨_, h1, ?_⟩
  subst_vars
  refine ⟨_, _, h2, h3, ?_⟩
  subst_vars
  exact h
theorem d_tupL {x : List D} (h : Q (.tup x)) : biD .tuple [.lst x] Q := h
theorem cop_lst {k : Nat} {ds : List D} (hs : ∀ d ∈ ds, Cop k d) : Cop (k + 1) (.lst ds) := by
  intro n Q E h
  refine pF_code rfl ⟨rfl, by decide, ?_⟩
  show wSs _ _ b__law_copied [.val (.lst ds), .un, .un, .un] _
  unfold b__law_copied
  false_or_by_contra
  refine lcLoop_det (p := fun _ => true) (h := id) _ _ (fun d hd => ⟨_, rfl, fun k hk => c_none hk, fun _ q hq => ?_⟩) ?_
  · false_or_by_contra
    exact hs d hd _ _ _ hq
  · rw [List.nil_append, List.map_id, List.filter_eq_self.mpr fun _ _ => rfl]
    false_or_by_contra
    exact h
theorem cop_tup {k : Nat} {ds : List D} (hs : ∀ d ∈ ds, Cop k d) : Cop (k + 1) (.tup ds) := by
  intro n Q E h
  refine pF_code rfl ⟨rfl, by decide, ?_⟩
  show wSs _ _ b__law_copied [.val (.tup ds), .un, .un, .un] _
  unfold b__law_copied
  false_or_by_contra
  refine lcLoop_det (p := fun _ => true) (h := id) _ _ (fun d hd => ⟨_, rfl, fun k hk => c_none hk, fun _ q hq => ?_⟩) ?_
  · false_or_by_contra
    exact hs d hd _ _ _ hq
  · rw [List.nil_append, List.map_id, List.filter_eq_self.mpr fun _ _ => rfl]
    false_or_by_contra
    exact d_tupL h
theorem cop_dic : Cop 1 (.dK []) := by
  intro n Q E h
  refine pF_code rfl ⟨rfl, by decide, ?_⟩
  show wSs _ _ b__law_copied [.val (.dK []), .un, .un, .un] _
  unfold b__law_copied
  false_or_by_contra
  refine e_lcK (ds := []) rfl ?_
  unfold lcLoop
  exact b_nil h
theorem Cop.up {k : Nat} {d : D} (s : Cop k d) : Cop (k + 1) d := fun n Q E h => by
  have := s (n + 1) Q E h
  rwa [show n + 1 + k = n + (k + 1) by omega] at this
/-- what is no word -/
structure Odd (d : D) : Prop where
  np : plainD d = false
  ty : ∃ b, tyD .str d = some b
  same : Same 2 d
  cop : Cop 2 d
  nc : noClo d = true
theorem odd_tx {l : List Nat} (h : plainL l = false) : Odd (tx l) := ⟨by show plainL (T l).cps.toList = false; rw [T_list]; exact h, ⟨true, rfl⟩, (same_tx l).up, (cop_flat rfl rfl rfl).up, rfl⟩
def odds : List D := [.non, .int 5, .lst [tx [97]], tx [65], tx [97, 32, 98], tx (List.replicate 61 [97]).flatten, tx [97, 49], tx [97, 10], .tup [tx [97]], .bl true, tx [97, 45], .dK []]
theorem odds_ok : ∀ d ∈ odds, Odd d := by
  have one : ∀ d ∈ [tx [97]], Same 1 d := fun d hd => by rw [List.mem_singleton.mp hd]; exact same_tx _
  have onc : ∀ d ∈ [tx [97]], Cop 1 d := fun d hd => by rw [List.mem_singleton.mp hd]; exact cop_flat rfl rfl rfl
  intro d hd
  simp only [odds, List.mem_cons, List.not_mem_nil, or_false] at hd
  rcases hd with rfl | rfl | rfl | rfl | rfl | rfl | rfl | rfl | rfl | rfl | rfl | rfl
  · exact ⟨rfl, ⟨_, rfl⟩, same_non.up, (cop_flat rfl rfl rfl).up, rfl⟩
  · exact ⟨rfl, ⟨_, rfl⟩, (same_int _).up, (cop_flat rfl rfl rfl).up, rfl⟩
  · exact ⟨rfl, ⟨_, rfl⟩, same_lst one, cop_lst onc, rfl⟩
  · exact odd_tx (by decide +kernel)
  · exact odd_tx (by decide +kernel)
  · exact odd_tx (by decide +kernel)
  · exact odd_tx (by decide +kernel)
  · exact odd_tx (by decide +kernel)
  · exact ⟨rfl, ⟨_, rfl⟩, same_tup one, cop_tup onc, rfl⟩
  · exact ⟨rfl, ⟨_, rfl⟩, (same_bl _).up, (cop_flat rfl rfl rfl).up, rfl⟩
  · exact odd_tx (by decide +kernel)
  · exact ⟨rfl, ⟨_, rfl⟩, same_dic, cop_dic.up, rfl⟩
theorem x1 : (Str.ofString "a" : Str) = T [97] := by decide +kernel
theorem x2 : (Str.ofString "A" : Str) = T [65] := by decide +kernel
theorem x3 : (Str.ofString "a b" : Str) = T [97, 32, 98] := by decide +kernel
theorem x4 : (Str.ofString "a1" : Str) = T [97, 49] := by decide +kernel
theorem x5 : (Str.ofString "a\n" : Str) = T [97, 10] := by decide +kernel
theorem x6 : (Str.ofString "a-" : Str) = T [97, 45] := by decide +kernel
theorem f_kno_word (h : ∀ d, Odd d → Q d) : pf (n + 3) 17 [.strm] Q E := by
  refine pF_code rfl ⟨rfl, by decide, ?_⟩
  show wSs _ _ b__law_kno_word [.val .strm, .un] _
  unfold b__law_kno_word
  rw [x1, x2, x3, x4, x5, x6]
  false_or_by_contra
  refine ⟨by decide, by decide, by rw [T_len]; decide, ?_⟩
  rw [T_rep]
  false_or_by_contra
  refine .inl ?_
  false_or_by_contra
  refine f_pick (xs := odds) (by decide) (by decide) fun d hd => ?_
  false_or_by_contra
  exact (odds_ok d hd).cop _ _ _ (h d (odds_ok d hd))
theorem hd_no {c i j : Nat} {ret : Bool} {word : Str} {r : List Hd} {env : DEnv} {c' : Nat} {a : Option D} {K : KS} (ne : c ≠ c') (h : hdsD r env ⟨c', a⟩ K) : hdsD (.mk c i ret j word :: r) env ⟨c', a⟩ K := by
  rw [hdsD, if_neg ne]
  exact h
theorem hd_yes {c i j : Nat} {word : Str} {r : List Hd} {env : DEnv} {d : D} {K : KS} (hi : i < env.length) (h : K.nx ((env.set j (.val (.tup [.str word, d]))).set i .un)) : hdsD (.mk c i false j word :: r) env ⟨c, some d⟩ K := by
  rw [hdsD, if_pos rfl]
  exact ⟨d, rfl, hi, h⟩
/-- a lambda that raises -/
def Rais (n k : Nat) (cs : List D) (c : Nat) (d : D) : Prop := ∀ (Q : DK) (E : EK), E ⟨c, some d⟩ → (pC fns lms n).run k cs Q E
theorem f_kraised9 {k : Nat} {cs : List D} {d : D} (hr : Rais n k cs 9 d) (h : Q (.tup [.str "word", d])) : pf (n + 1) 15 [.clo k cs] Q E := by
  refine pF_code rfl ⟨rfl, by decide, ?_⟩
  show wSs _ _ b__law_kraised [.val (.clo k cs), .un, .un] _
  unfold b__law_kraised
  false_or_by_contra
  refine hr _ _ ?_
  show hdsD _ _ (⟨9, some d⟩ : XV) _
  iterate 6 refine hd_no (by decide) ?_
  refine hd_yes (by show 2 < 3; decide) ?_
  false_or_by_contra
  exact h
theorem f_kraised5 {k : Nat} {cs : List D} {d : D} (hr : Rais n k cs 5 d) (h : Q (.tup [.str "other", d])) : pf (n + 1) 15 [.clo k cs] Q E := by
  refine pF_code rfl ⟨rfl, by decide, ?_⟩
  show wSs _ _ b__law_kraised [.val (.clo k cs), .un, .un] _
  unfold b__law_kraised
  false_or_by_contra
  refine hr _ _ ?_
  show hdsD _ _ (⟨5, some d⟩ : XV) _
  iterate 7 refine hd_no (by decide) ?_
  refine hd_yes (by show 2 < 3; decide) ?_
  false_or_by_contra
  exact h
theorem d_eqs {i j : Str} (h : Q (.bl (decide (i = j)))) : cmpD .eq (.str i) (.str j) Q := eqD_str (K := fun b => Q (.bl b)) h
theorem f_krefuses {k : Nat} {cs : List D} {d : D} {w : Str} (o : Odd d) (hr : ∀ (Q : DK) (E : EK), Q (.tup [.str w, d]) → pf (n + 2) 15 [.clo k cs] Q E) (h : Q (.bl true)) : pf (n + 3) 16 [.str w, d, .clo k cs] Q E := by
  refine pF_code rfl ⟨rfl, by decide, ?_⟩
  show wSs _ _ b__law_krefuses [.val (.str w), .val d, .val (.clo k cs), .un] _
  unfold b__law_krefuses
  false_or_by_contra
  refine hr _ _ ?_
  false_or_by_contra
  refine d_eqs ?_
  rw [decide_eq_true rfl]
  false_or_by_contra
  exact o.same n _ _ h
theorem rais1 {d : D} (o : Odd d) : Rais (n + 5) 205042 [d] 9 d := by
  intro Q E h
  refine pC_run rfl ⟨rfl, ?_⟩
  show wE _ _ l_205042 [.val d] _ _
  unfold l_205042
  false_or_by_contra
  exact f_mends o.ty (fun z => by rw [o.np] at z; cases z) (fun _ => h) (fun z => by rw [o.np] at z; cases z) fun a b e _ pa _ => by
    have := o.np
    rw [e, plain_of pa] at this
    cases this
theorem rais2 {d : D} {w : List Nat} (o : Odd d) (hw : plainL w = true) : Rais (n + 5) 207043 [d, tx w] 5 d := by
  intro Q E h
  refine pC_run rfl ⟨rfl, ?_⟩
  show wE _ _ l_207043 [.val d, .val (tx w)] _ _
  unfold l_207043
  false_or_by_contra
  exact f_mends ⟨true, rfl⟩ (fun _ => o.ty) (fun z => by rw [plain_of hw] at z; cases z) (fun _ _ => h) fun a b _ e _ pb => by
    have := o.np
    rw [e, plain_of pb] at this
    cases this
theorem f_knear {ls w : List Nat} {m : Nat} (L : Lets ls) (hm : m ≤ 4) (hw : w.length ≤ 9) (hs : ∀ c ∈ w, sml c = true) (h : ∀ l : List Nat, l.length ≤ 13 → (∀ c ∈ l, sml c = true) → Q (tx l)) : pf (n + 3) 18 [.strm, letD ls, tx w, .int m] Q E := by
  refine pF_code rfl ⟨rfl, by decide, ?_⟩
  show wSs _ _ b__law_knear [.val .strm, .val (letD ls), .val (tx w), .val (.int m), .un, .un, .un, .un] _
  unfold b__law_knear
  rw [nil_T]
  subst_vars
  refine rg_ok (.inl rfl) (by decide) (by decide) (by omega) (by omega) ?_
  have hr := rangeD_up 0 m
  rw [show ((0 : Int) + (m : Int)) = (m : Int) by omega] at hr
  rw [hr]
  have len : ((List.range m).map fun i => D.int (0 + (i : Nat))).length = m := by simp
  refine forLoop_ix (fun j env => ∃ l s4 s5 s6 s7, l.length ≤ 9 + j ∧ (∀ c ∈ l, sml c = true) ∧ env = [.val .strm, .val (letD ls), .val (tx l), .val (.int m), s4, s5, s6, s7]) (fun env hI => ?_) (fun j d env hj hd hI => ?_) ⟨w, _, _, _, _, hw, hs, rfl⟩
  · obtain ⟨l, s4, s5, s6, s7, h1, h2, rfl⟩ := hI
    subst_vars
    exact h l (by rw [len] at h1; omega) h2
  · obtain ⟨l, s4, s5, s6, s7, h1, h2, rfl⟩ := hI
    rw [len] at hj
    refine ⟨_, rfl, fun K' k1 k2 k3 => ?_⟩
    subst_vars
    refine f_below (by omega) (by omega) fun at_ hat => ?_
    subst_vars
    refine f_below (by decide) (by decide) fun way hway => ?_
    subst_vars
    refine f_pick (by simpa using L.ne) (by rw [List.length_map]; have := L.le; omega) fun d hd => ?_
    obtain ⟨c, hc, rfl⟩ := List.mem_map.mp hd
    subst_vars
    have hcs := L.sml c hc
    have fin : ∀ (x : List Nat) (k : Nat), x.length ≤ 1 → (∀ c ∈ x, sml c = true) → ((l.take (min at_ l.length) ++ x) ++ l.drop (min k l.length)).length ≤ 9 + (j + 1) → K'.nx [.val .strm, .val (letD ls), .val (tx ((l.take (min at_ l.length) ++ x) ++ l.drop (min k l.length))), .val (.int m), .val d, .val (.int at_), .val (.int way), .val (tx [c])] := fun x k hx hxs hl => by
      refine k3 _ ⟨_, _, _, _, _, hl, fun z hz => ?_, rfl⟩
      rcases List.mem_append.mp hz with hz | hz
      · rcases List.mem_append.mp hz with hz | hz
        · exact h2 z (List.mem_of_mem_take hz)
        · exact hxs z hz
      · exact h2 z (List.mem_of_mem_drop hz)
    have hcl : ∀ z ∈ [c], sml z = true := fun z hz => by rw [List.mem_singleton.mp hz]; exact hcs
    have low : (min at_ l.length) ≤ l.length := Nat.min_le_right _ _
    rcases (by omega : way = 0 ∨ way = 1 ∨ way = 2) with rfl | rfl | rfl
    · rw [cut_to]
      refine d_idxL (i := 0) rfl ?_
      refine d_addT (by simp; have : sizeLine = 16777216 := rfl; omega) ?_
      subst_vars
      refine d_idxL (i := 0) rfl ?_
      subst_vars
      rw [show ((at_ : Int) + 0) = ((at_ + 0 : Nat) : Int) by omega, cut_from]
      refine d_addT (by simp; have : sizeLine = 16777216 := rfl; omega) ?_
      subst_vars
      exact fin [c] _ (by simp) hcl (by simp; omega)
    · rw [cut_to]
      refine d_idxL (i := 1) rfl ?_
      refine d_addT (by simp; have : sizeLine = 16777216 := rfl; omega) ?_
      subst_vars
      refine d_idxL (i := 1) rfl ?_
      subst_vars
      rw [show ((at_ : Int) + 1) = ((at_ + 1 : Nat) : Int) by omega, cut_from]
      refine d_addT (by simp; have : sizeLine = 16777216 := rfl; omega) ?_
      subst_vars
      exact fin [] _ (by simp) (fun _ z => nomatch z) (by simp; omega)
    · rw [cut_to]
      refine d_idxL (i := 2) rfl ?_
      refine d_addT (by simp; have : sizeLine = 16777216 := rfl; omega) ?_
      subst_vars
      refine d_idxL (i := 2) rfl ?_
      subst_vars
      rw [show ((at_ : Int) + 1) = ((at_ + 1 : Nat) : Int) by omega, cut_from]
      refine d_addT (by simp; have : sizeLine = 16777216 := rfl; omega) ?_
      subst_vars
      exact fin [c] _ (by simp) hcl (by simp; omega)
/-- one deed -/
inductive Nb : List Nat → List Nat → Prop
  | del (p s : List Nat) (x : Nat) : Nb (p ++ x :: s) (p ++ s)
  | ins (p s : List Nat) (y : Nat) : Nb (p ++ s) (p ++ y :: s)
  | sub (p s : List Nat) (x y : Nat) : Nb (p ++ x :: s) (p ++ y :: s)
theorem Nb.cons {a b : List Nat} (z : Nat) (h : Nb a b) : Nb (z :: a) (z :: b) := by
  cases h with
  | del p s x => exact .del (z :: p) s x
  | ins p s y => exact .ins (z :: p) s y
  | sub p s x y => exact .sub (z :: p) s x y
theorem Nb.lev {a b : List Nat} (h : Nb a b) : lev a b ≤ 1 := by
  cases h with
  | del p s x => exact lev_le (by have := (Al.refl p).app (.del x (Al.refl s)); simpa using this)
  | ins p s y => exact lev_le (by have := (Al.refl p).app (.ins y (Al.refl s)); simpa using this)
  | sub p s x y => exact lev_le (by have := (Al.refl p).app (.sub x y (Al.refl s)); simpa using this)
def over (S l : List Nat) : Prop := ∀ c ∈ l, c ∈ S
theorem Al.last {S : List Nat} {n : Nat} {a b : List Nat} (h : Al n a b) : ∀ k, n = k + 1 → over S a → over S b → ∃ m, Al k a m ∧ Nb m b ∧ over S m := by
  induction h with
  | nil => intro k e; cases e
  | keep x h ih =>
    intro k e ha hb
    obtain ⟨m, h1, h2, h3⟩ := ih k e (fun c hc => ha c (List.mem_cons_of_mem _ hc)) (fun c hc => hb c (List.mem_cons_of_mem _ hc))
    exact ⟨x :: m, .keep x h1, h2.cons x, fun c hc => by
      rcases List.mem_cons.mp hc with rfl | hc
      · exact ha _ List.mem_cons_self
      · exact h3 c hc⟩
  | @sub n a b x y h ih =>
    intro k e ha hb
    cases e
    exact ⟨x :: b, .keep x h, .sub [] b x y, fun c hc => by
      rcases List.mem_cons.mp hc with rfl | hc
      · exact ha _ List.mem_cons_self
      · exact hb c (List.mem_cons_of_mem _ hc)⟩
  | @del n a b x h ih =>
    intro k e ha hb
    cases e
    exact ⟨x :: b, .keep x h, .del [] b x, fun c hc => by
      rcases List.mem_cons.mp hc with rfl | hc
      · exact ha _ List.mem_cons_self
      · exact hb c hc⟩
  | @ins n a b y h ih =>
    intro k e ha hb
    cases e
    exact ⟨b, h, .ins [] b y, fun c hc => hb c (List.mem_cons_of_mem _ hc)⟩
theorem lev_last {S a b : List Nat} {t : Nat} (h : lev a b = t + 1) (ha : over S a) (hb : over S b) : ∃ m, lev a m = t ∧ Nb m b ∧ over S m := by
  obtain ⟨m, h1, h2, h3⟩ := Al.last (al_lev a b) t h ha hb
  have p := lev_le h1
  have q := lev_tri a m b
  have r := h2.lev
  exact ⟨m, by omega, h2, h3⟩
theorem lev_self {a b : List Nat} (h : lev a b = 0) : a = b := by
  have key : ∀ {n : Nat} {a b : List Nat}, Al n a b → n = 0 → a = b := by
    intro n a b h
    induction h with
    | nil => intro; rfl
    | keep x h ih => intro e; rw [ih e]
    | sub x y h ih => intro e; omega
    | del x h ih => intro e; omega
    | ins y h ih => intro e; omega
  have := al_lev a b
  rw [h] at this
  exact key this rfl
/-- the words one deed away, as the text lists them -/
def dels (a : List Nat) : List (List Nat) := (List.range a.length).map fun i => a.take i ++ a.drop (i + 1)
def inss (a : List Nat) (c : Nat) : List (List Nat) := (List.range (a.length + 1)).map fun i => a.take i ++ [c] ++ a.drop i
def subs (a : List Nat) (c : Nat) : List (List Nat) := (List.range a.length).map fun i => a.take i ++ [c] ++ a.drop (i + 1)
def nbrs (a : List Nat) (S : List Nat) : List (List Nat) := dels a ++ S.flatMap fun c => inss a c ++ subs a c
theorem nbrs_of {S a b : List Nat} (h : Nb a b) (hb : over S b) : b ∈ nbrs a S := by
  cases h with
  | del p s x =>
    refine List.mem_append_left _ (List.mem_map.mpr ⟨p.length, List.mem_range.mpr (by simp), ?_⟩)
    simp
  | ins p s y =>
    refine List.mem_append_right _ (List.mem_flatMap.mpr ⟨y, hb y (by simp), List.mem_append_left _ (List.mem_map.mpr ⟨p.length, List.mem_range.mpr (by simp; omega), ?_⟩)⟩)
    simp
  | sub p s x y =>
    refine List.mem_append_right _ (List.mem_flatMap.mpr ⟨y, hb y (by simp), List.mem_append_right _ (List.mem_map.mpr ⟨p.length, List.mem_range.mpr (by simp), ?_⟩)⟩)
    simp
theorem split_at (a : List Nat) {i : Nat} (h : i < a.length) : a = a.take i ++ a[i] :: a.drop (i + 1) := by
  rw [← List.drop_eq_getElem_cons h, List.take_append_drop]
theorem nbrs_is {S a b : List Nat} (ha : over S a) (h : b ∈ nbrs a S) : Nb a b ∧ over S b ∧ b.length ≤ a.length + 1 := by
  rcases List.mem_append.mp h with h | h
  · obtain ⟨i, hi, rfl⟩ := List.mem_map.mp h
    have hi := List.mem_range.mp hi
    refine ⟨?_, fun c hc => ?_, by simp; omega⟩
    · have := Nb.del (a.take i) (a.drop (i + 1)) a[i]
      rwa [← split_at a hi] at this
    · rcases List.mem_append.mp hc with hc | hc
      · exact ha c (List.mem_of_mem_take hc)
      · exact ha c (List.mem_of_mem_drop hc)
  · obtain ⟨y, hy, h⟩ := List.mem_flatMap.mp h
    rcases List.mem_append.mp h with h | h
    · obtain ⟨i, hi, rfl⟩ := List.mem_map.mp h
      have hi := List.mem_range.mp hi
      refine ⟨?_, fun c hc => ?_, by simp; omega⟩
      · have := Nb.ins (a.take i) (a.drop i) y
        rw [List.take_append_drop] at this
        simpa using this
      · simp only [List.mem_append, List.mem_singleton] at hc
        rcases hc with (hc | rfl) | hc
        · exact ha c (List.mem_of_mem_take hc)
        · exact hy
        · exact ha c (List.mem_of_mem_drop hc)
    · obtain ⟨i, hi, rfl⟩ := List.mem_map.mp h
      have hi := List.mem_range.mp hi
      refine ⟨?_, fun c hc => ?_, by simp; omega⟩
      · have := Nb.sub (a.take i) (a.drop (i + 1)) a[i] y
        rw [← split_at a hi] at this
        simpa using this
      · simp only [List.mem_append, List.mem_singleton] at hc
        rcases hc with (hc | rfl) | hc
        · exact ha c (List.mem_of_mem_take hc)
        · exact hy
        · exact ha c (List.mem_of_mem_drop hc)
theorem nbrs_len {S a : List Nat} (ha : a.length ≤ 5) (hS : S.length ≤ 2) : (nbrs a S).length ≤ 32 := by
  have key : ∀ S : List Nat, (S.flatMap fun c => inss a c ++ subs a c).length = S.length * (2 * a.length + 1) := by
    intro S
    induction S with
    | nil => simp
    | cons c r ih =>
      rw [List.flatMap_cons, List.length_append, ih]
      simp only [inss, subs, List.length_append, List.length_map, List.length_range, List.length_cons]
      rw [Nat.add_mul]
      omega
  unfold nbrs
  rw [List.length_append, key]
  simp only [dels, List.length_map, List.length_range]
  have : S.length * (2 * a.length + 1) ≤ 2 * 11 := Nat.mul_le_mul hS (by omega)
  omega
abbrev Fnd : Type := List (List Nat × Nat)
def kvsOf (f : Fnd) : List (Key × D) := f.map fun p => (.inr (T p.1), .int (p.2 : Nat))
abbrev wdsD (l : List (List Nat)) : List D := l.map tx
def stepO (t : Nat) (s : Fnd × List (List Nat)) (o : List Nat) : Fnd × List (List Nat) := if o ∈ s.1.map (·.1) then s else (s.1 ++ [(o, t + 1)], s.2 ++ [o])
def stepR (t : Nat) (S : List Nat) (s : Fnd × List (List Nat)) (one : List Nat) : Fnd × List (List Nat) := (nbrs one S).foldl (stepO t) s
def turnO (S : List Nat) (t : Nat) (s : Fnd × List (List Nat)) : Fnd × List (List Nat) := s.2.foldl (stepR t S) (s.1, [])
theorem key_eq (x o : List Nat) : ((Sum.inr (T x) : Key) = .inr (T o)) ↔ x = o := ⟨fun h => T_inj (Sum.inr.inj h), fun h => by rw [h]⟩
theorem look_kvs (o : List Nat) : ∀ f : Fnd, (lookD (kvsOf f) (.inr (T o))).isSome = decide (o ∈ f.map (·.1))
  | [] => by simp [lookD, kvsOf]
  | p :: r => by
    have ih := look_kvs o r
    unfold lookD kvsOf at ih ⊢
    rw [List.map_cons, List.find?_cons]
    by_cases e : p.1 = o
    · have : decide ((Sum.inr (T p.1) : Key) = .inr (T o)) = true := decide_eq_true ((key_eq _ _).mpr e)
      simp only [this]
      simp [e]
    · have : decide ((Sum.inr (T p.1) : Key) = .inr (T o)) = false := decide_eq_false fun h => e ((key_eq _ _).mp h)
      simp only [this]
      rw [ih]
      have e2 : ¬ o = p.1 := fun h => e h.symm
      simp [e2]
theorem put_kvs {o : List Nat} {f : Fnd} {t : Nat} (h : o ∉ f.map (·.1)) : putD (kvsOf f) (.inr (T o)) (.int (t : Nat)) = kvsOf (f ++ [(o, t)]) := by
  have e : ((kvsOf f).any fun kv => decide (kv.1 = (.inr (T o) : Key))) = false := by
    rw [List.any_eq_false]
    intro kv hkv
    obtain ⟨p, hp, rfl⟩ := List.mem_map.mp hkv
    intro z
    have := (key_eq _ _).mp (of_decide_eq_true z)
    exact h (List.mem_map.mpr ⟨p, hp, this⟩)
  unfold putD
  rw [if_neg (by rw [e]; decide)]
  unfold kvsOf
  rw [List.map_append]
  rfl
abbrev envO (a S : List Nat) (f : Fnd) (s4 s5 s6 s7 s8 s9 s10 s11 : Sl) : DEnv := [.val (tx a), .val (letD S), .val (.int 3), .own (.dK (kvsOf f)), s4, s5, s6, s7, s8, s9, s10, s11]
theorem stepO_len (t : Nat) (s : Fnd × List (List Nat)) (o : List Nat) : (stepO t s o).1.length ≤ s.1.length + 1 ∧ (stepO t s o).2.length ≤ s.2.length + 1 := by
  unfold stepO
  split <;> simp
abbrev bO : ISs := (.cons (.ite [] (.cmp .notin (.slot 10) (.slot 3)) (.cons (.setk [] 3 (.slot 10) (.bin .add (.slot 5) (.cn (.int 1)))) (.cons (.app [10] 6 (.slot 10)) .nil)) .nil) .nil)
theorem w_other {pf : PF} {pc : PC} {K : KS} {a S : List Nat} {t : Nat} {s4 s7 s8 s9 s10 s11 : Sl} {os : List (List Nat)} {s : Fnd × List (List Nat)} (h1 : s.1.length + os.length ≤ 200000) (h2 : s.2.length + os.length ≤ 200000)
    (h : ∀ s10, K.nx (envO a S (os.foldl (stepO t) s).1 s4 (.val (.int (t : Nat))) (.own (.lst (wdsD (os.foldl (stepO t) s).2))) s7 s8 s9 s10 s11)) :
    forLoop (fun d e => asg (.nm 10) d e) (fun e k => wSs pf pc bO e k) K (wdsD os) (envO a S s.1 s4 (.val (.int (t : Nat))) (.own (.lst (wdsD s.2))) s7 s8 s9 s10 s11) := by
  have sz : sizeLine = 16777216 := rfl
  refine forLoop_inv (fun rest env => ∃ os' s' s10, rest = wdsD os' ∧ os'.foldl (stepO t) s' = os.foldl (stepO t) s ∧ s'.1.length + os'.length ≤ 200000 ∧ s'.2.length + os'.length ≤ 200000 ∧ env = envO a S s'.1 s4 (.val (.int (t : Nat))) (.own (.lst (wdsD s'.2))) s7 s8 s9 s10 s11) (fun env hI => ?_) (fun d r env hI => ?_) _ _ ⟨os, s, _, rfl, rfl, h1, h2, rfl⟩
  · obtain ⟨os', s', s10, hr, hf, _, _, rfl⟩ := hI
    cases os' with
    | cons => cases hr
    | nil =>
      rw [List.foldl_nil] at hf
      rw [hf]
      exact h s10
  · obtain ⟨os', s', s10, hr, hf, g1, g2, rfl⟩ := hI
    cases os' with
    | nil => cases hr
    | cons o os' =>
      cases hr
      rw [List.length_cons] at g1 g2
      refine ⟨_, rfl, fun K' k1 k2 k3 => ?_⟩
      have l := stepO_len t s' o
      have fin : ∀ s10, K'.nx (envO a S (stepO t s' o).1 s4 (.val (.int (t : Nat))) (.own (.lst (wdsD (stepO t s' o).2))) s7 s8 s9 s10 s11) := fun s10 => k3 _ ⟨os', stepO t s' o, s10, rfl, hf, by omega, by omega, rfl⟩
      subst_vars
      show (if (!((lookD (kvsOf s'.1) (.inr (T o))).isSome)) = true then _ else _)
      rw [look_kvs]
      by_cases e : o ∈ s'.1.map (·.1)
      · rw [decide_eq_true e]
        have es : stepO t s' o = s' := if_pos e
        rw [es] at fin
        subst_vars
        exact fin _
      · rw [decide_eq_false e]
        have es : stepO t s' o = (s'.1 ++ [(o, t + 1)], s'.2 ++ [o]) := if_neg e
        rw [es] at fin
        subst_vars
        refine ⟨by unfold kvsOf; rw [List.length_map]; omega, ?_⟩
        rw [show ((t : Int) + 1) = ((t + 1 : Nat) : Int) by omega, put_kvs e]
        subst_vars
        refine ⟨by simp; omega, ?_⟩
        subst_vars
        have := fin (.val (tx o))
        rw [show wdsD (s'.2 ++ [o]) = wdsD s'.2 ++ [tx o] by simp] at this
        exact this
theorem lc_words {g : D → DEnv → Option DEnv} {c : DEnv → (Bool → Prop) → Prop} {f : DEnv → DK → Prop} {env : DEnv} {K : DK} {m : Nat} {w : Nat → List Nat} (H : ∀ i : Nat, i < m → ∃ e1, g (.int (i : Nat)) env = some e1 ∧ (∀ k : Bool → Prop, k true → c e1 k) ∧ ∀ k : DK, k (tx (w i)) → f e1 k) (h : K (.lst (wdsD ((List.range m).map w)))) :
    lcLoop g c f env K (rangeD 0 (m : Nat) 1) [] := by
  have hr := rangeD_up 0 m
  rw [show ((0 : Int) + (m : Int)) = (m : Int) by omega] at hr
  rw [hr]
  refine lcLoop_det (p := fun _ => true) (h := fun d => match d with | .int i => tx (w i.toNat) | d => d) _ _ (fun d hd => ?_) ?_
  · obtain ⟨i, hi, rfl⟩ := List.mem_map.mp hd
    have e : (0 + (i : Int)) = (i : Nat) := by omega
    rw [e]
    obtain ⟨e1, a1, a2, a3⟩ := H i (List.mem_range.mp hi)
    exact ⟨e1, a1, a2, fun _ k hk => a3 k (by simpa using hk)⟩
  · rw [List.filter_eq_self.mpr fun _ _ => rfl, List.nil_append, List.map_map]
    have : (List.range m).map ((fun d => match d with | .int i => tx (w i.toNat) | d => d) ∘ fun i => D.int (0 + (i : Nat))) = wdsD ((List.range m).map w) := by
      rw [wdsD, List.map_map]
      refine List.map_congr_left fun i _ => ?_
      show tx (w (0 + (i : Int)).toNat) = _
      congr 2
      simp
    rw [this]
    exact h
abbrev bL : ISs := (.cons (.extd [] 8 (.lc (.bin .add (.bin .add (.slc (.slot 7) .none (.some (.slot 11))) (.slot 9)) (.slc (.slot 7) (.some (.slot 11)) .none)) (.nm 11) (.rng (.cn (.int 0)) (.bin .add (.bi .len (.cons (.slot 7) .nil)) (.cn (.int 1))) 1) .none [11])) (.cons (.extd [] 8 (.lc (.bin .add (.bin .add (.slc (.slot 7) .none (.some (.slot 11))) (.slot 9)) (.slc (.slot 7) (.some (.bin .add (.slot 11) (.cn (.int 1)))) .none)) (.nm 11) (.rng (.cn (.int 0)) (.bi .len (.cons (.slot 7) .nil)) 1) .none [11])) .nil))
abbrev bR : ISs := (.cons (.asg [] 8 (.lc (.bin .add (.slc (.slot 7) .none (.some (.slot 11))) (.slc (.slot 7) (.some (.bin .add (.slot 11) (.cn (.int 1)))) .none)) (.nm 11) (.rng (.cn (.int 0)) (.bi .len (.cons (.slot 7) .nil)) 1) .none [11])) (.cons (.for [1] (.nm 9) (.val (.slot 1)) bL) (.cons (.for [8] (.nm 10) (.val (.slot 8)) bO) .nil)))
theorem nx_env {K : DEnv → Prop} {e e2 : DEnv} (h : e = e2) (q : K e2) : K e := by rw [h]; exact q
theorem w_R {pf : PF} {pc : PC} {K : KS} {a S one : List Nat} {t : Nat} {s4 s8 s9 s10 s11 : Sl} {s : Fnd × List (List Nat)} (ho : one.length ≤ 5) (hS : S.length ≤ 2) (h1 : s.1.length ≤ 150000) (h2 : s.2.length ≤ 150000)
    (h : ∀ s8 s9 s10 s11, K.nx (envO a S (stepR t S s one).1 s4 (.val (.int (t : Nat))) (.own (.lst (wdsD (stepR t S s one).2))) (.val (tx one)) s8 s9 s10 s11)) :
    wSs pf pc bR (envO a S s.1 s4 (.val (.int (t : Nat))) (.own (.lst (wdsD s.2))) (.val (tx one)) s8 s9 s10 s11) K := by
  have sz : sizeLine = 16777216 := rfl
  have nl := nbrs_len ho hS
  subst_vars
  refine rg_ok (.inl rfl) (by decide) (by decide) (by omega) (by omega) ?_
  refine lc_words (w := fun i => one.take i ++ one.drop (i + 1)) (fun i hi => ⟨_, rfl, fun k hk => c_none hk, fun k hk => ?_⟩) ?_
  · subst_vars
    rw [cut_to, show ((i : Int) + 1) = ((i + 1 : Nat) : Int) by omega, cut_from, Nat.min_eq_left (by omega), Nat.min_eq_left (by omega)]
    exact d_addT (by simp; omega) hk
  · refine nx_env (K := fun e => wSs pf pc (.cons (.for [1] (.nm 9) (.val (.slot 1)) bL) (.cons (.for [8] (.nm 10) (.val (.slot 8)) bO) .nil)) e K) (e2 := envO a S s.1 s4 (.val (.int (t : Nat))) (.own (.lst (wdsD s.2))) (.val (tx one)) (.own (.lst (wdsD (dels one)))) s9 s10 s11) rfl ?_
    subst_vars
    refine forLoop_inv (fun rest env => ∃ (S' : List Nat) (cur : List (List Nat)) (s9 s11 : Sl), rest = S'.map (fun c => tx [c]) ∧ cur ++ (S'.flatMap fun c => inss one c ++ subs one c) = nbrs one S ∧ env = envO a S s.1 s4 (.val (.int (t : Nat))) (.own (.lst (wdsD s.2))) (.val (tx one)) (.own (.lst (wdsD cur))) s9 s10 s11) (fun env hI => ?_) (fun d r env hI => ?_) _ _ ⟨S, dels one, _, _, rfl, rfl, rfl⟩
    · obtain ⟨S', cur, s9, s11, hr, hc, rfl⟩ := hI
      cases S' with
      | cons => cases hr
      | nil =>
        rw [List.flatMap_nil, List.append_nil] at hc
        subst hc
        subst_vars
        refine nx_env (K := fun e => forLoop (fun d e => asg (.nm 10) d e) (fun e k => wSs pf pc bO e k) _ (wdsD (nbrs one S)) e) (e2 := envO a S s.1 s4 (.val (.int (t : Nat))) (.own (.lst (wdsD s.2))) (.val (tx one)) (.val (.lst (wdsD (nbrs one S)))) s9 s10 s11) rfl ?_
        refine w_other (by omega) (by omega) fun s10 => ?_
        subst_vars
        exact h _ _ _ _
    · obtain ⟨S', cur, s9, s11, hr, hc, rfl⟩ := hI
      cases S' with
      | nil => cases hr
      | cons c S' =>
        cases hr
        rw [List.flatMap_cons] at hc
        have cl : cur.length ≤ 32 := by
          have := congrArg List.length hc
          rw [List.length_append] at this
          omega
        refine ⟨_, rfl, fun K' k1 k2 k3 => ?_⟩
        refine nx_env (K := fun e => wSs pf pc bL e K') (e2 := envO a S s.1 s4 (.val (.int (t : Nat))) (.own (.lst (wdsD s.2))) (.val (tx one)) (.own (.lst (wdsD cur))) (.val (tx [c])) s10 s11) rfl ?_
        have cl2 : (inss one c).length ≤ 6 := by simp [inss]; omega
        have cl3 : (subs one c).length ≤ 5 := by simp [subs]; omega
        subst_vars
        refine rg_ok (.inl rfl) (by decide) (by decide) (by omega) (by omega) ?_
        rw [show ((one.length : Int) + 1) = ((one.length + 1 : Nat) : Int) by omega]
        refine lc_words (w := fun i => one.take i ++ [c] ++ one.drop i) (fun i hi => ⟨_, rfl, fun k hk => c_none hk, fun k hk => ?_⟩) ?_
        · subst_vars
          rw [cut_to, Nat.min_eq_left (by omega)]
          refine d_addT (by simp; omega) ?_
          subst_vars
          rw [cut_from, Nat.min_eq_left (by omega)]
          exact d_addT (by simp; omega) hk
        · subst_vars
          refine ⟨by rw [List.length_map, List.length_map]; have : (inss one c).length = ((List.range (one.length + 1)).map fun i => one.take i ++ [c] ++ one.drop i).length := rfl; omega, ?_⟩
          subst_vars
          refine rg_ok (.inl rfl) (by decide) (by decide) (by omega) (by omega) ?_
          refine lc_words (w := fun i => one.take i ++ [c] ++ one.drop (i + 1)) (fun i hi => ⟨_, rfl, fun k hk => c_none hk, fun k hk => ?_⟩) ?_
          · subst_vars
            rw [cut_to, Nat.min_eq_left (by omega)]
            refine d_addT (by simp; omega) ?_
            subst_vars
            rw [show ((i : Int) + 1) = ((i + 1 : Nat) : Int) by omega, cut_from, Nat.min_eq_left (by omega)]
            exact d_addT (by simp; omega) hk
          · subst_vars
            refine ⟨by simp only [List.length_append, wdsD, List.length_map, List.length_range]; omega, ?_⟩
            subst_vars
            refine k3 _ ⟨S', cur ++ inss one c ++ subs one c, .val (tx [c]), s11, rfl, by rw [← hc]; simp, ?_⟩
            have e : wdsD (cur ++ inss one c ++ subs one c) = wdsD cur ++ wdsD (inss one c) ++ wdsD (subs one c) := by simp [wdsD]
            rw [e]
            rfl
/-- within a turn -/
structure J (a S : List Nat) (t F c : Nat) (s : Fnd × List (List Nat)) : Prop where
  j1 : ∀ p ∈ s.1, p.2 = lev a p.1 ∧ p.2 ≤ t + 1 ∧ over S p.1 ∧ p.1.length ≤ a.length + (t + 1)
  j2 : ∀ l, over S l → lev a l ≤ t → l ∈ s.1.map (·.1)
  j3 : ∀ l ∈ s.2, over S l ∧ lev a l ≤ t + 1 ∧ l.length ≤ a.length + (t + 1)
  j4 : ∀ p ∈ s.1, p.2 = t + 1 → p.1 ∈ s.2
  j5 : s.1.length ≤ F + c
  j6 : s.2.length ≤ c
theorem J.step {a S o : List Nat} {t F c : Nat} {s : Fnd × List (List Nat)} (h : J a S t F c s) (h1 : over S o) (h2 : lev a o ≤ t + 1) (h3 : o.length ≤ a.length + (t + 1)) :
    J a S t F (c + 1) (stepO t s o) ∧ (∀ l ∈ s.1.map (·.1), l ∈ (stepO t s o).1.map (·.1)) ∧ o ∈ (stepO t s o).1.map (·.1) := by
  by_cases e : o ∈ s.1.map (·.1)
  · have es : stepO t s o = s := if_pos e
    rw [es]
    exact ⟨⟨h.j1, h.j2, h.j3, h.j4, by have := h.j5; omega, by have := h.j6; omega⟩, fun l hl => hl, e⟩
  · have es : stepO t s o = (s.1 ++ [(o, t + 1)], s.2 ++ [o]) := if_neg e
    rw [es]
    have lo : lev a o = t + 1 := by
      rcases Nat.lt_or_ge (lev a o) (t + 1) with q | q
      · exact absurd (h.j2 o h1 (by omega)) e
      · omega
    have mono : ∀ l ∈ s.1.map (·.1), l ∈ (s.1 ++ [(o, t + 1)]).map (·.1) := fun l hl => by
      rw [List.map_append]
      exact List.mem_append_left _ hl
    refine ⟨⟨fun p hp => ?_, fun l a1 a2 => mono l (h.j2 l a1 a2), fun l hl => ?_, fun p hp e2 => ?_, ?_, ?_⟩, mono, ?_⟩
    · rcases List.mem_append.mp hp with hp | hp
      · exact h.j1 p hp
      · rw [List.mem_singleton.mp hp]
        exact ⟨lo.symm, Nat.le_refl _, h1, h3⟩
    · rcases List.mem_append.mp hl with hl | hl
      · exact h.j3 l hl
      · rw [List.mem_singleton.mp hl]
        exact ⟨h1, h2, h3⟩
    · rcases List.mem_append.mp hp with hp | hp
      · exact List.mem_append_left _ (h.j4 p hp e2)
      · rw [List.mem_singleton.mp hp]
        exact List.mem_append_right _ (List.mem_singleton_self _)
    · have := h.j5
      simp
      omega
    · have := h.j6
      simp
      omega
    · simp
theorem J.steps {a S : List Nat} {t F : Nat} : ∀ (os : List (List Nat)) (c : Nat) (s : Fnd × List (List Nat)), J a S t F c s → (∀ o ∈ os, over S o ∧ lev a o ≤ t + 1 ∧ o.length ≤ a.length + (t + 1)) →
    J a S t F (c + os.length) (os.foldl (stepO t) s) ∧ (∀ l ∈ s.1.map (·.1), l ∈ (os.foldl (stepO t) s).1.map (·.1)) ∧ ∀ o ∈ os, o ∈ (os.foldl (stepO t) s).1.map (·.1)
  | [], c, s, h, _ => ⟨h, fun l hl => hl, fun _ z => nomatch z⟩
  | o :: os, c, s, h, ho => by
    obtain ⟨a1, a2, a3⟩ := ho o List.mem_cons_self
    obtain ⟨b1, b2, b3⟩ := h.step a1 a2 a3
    obtain ⟨d1, d2, d3⟩ := J.steps os (c + 1) _ b1 fun o ho' => ho o (List.mem_cons_of_mem _ ho')
    rw [List.foldl_cons, List.length_cons, show c + (os.length + 1) = c + 1 + os.length by omega]
    refine ⟨d1, fun l hl => d2 l (b2 l hl), fun x hx => ?_⟩
    rcases List.mem_cons.mp hx with rfl | hx
    · exact d2 _ b3
    · exact d3 x hx
theorem J.up {a S : List Nat} {t F c d : Nat} {s : Fnd × List (List Nat)} (h : J a S t F c s) (l : c ≤ d) : J a S t F d s := ⟨h.j1, h.j2, h.j3, h.j4, by have := h.j5; omega, by have := h.j6; omega⟩
theorem J.row {a S one : List Nat} {t F c : Nat} {s : Fnd × List (List Nat)} (h : J a S t F c s) (hS : S.length ≤ 2) (h1 : over S one) (h2 : lev a one ≤ t) (h3 : one.length ≤ a.length + t) (h4 : one.length ≤ 5) :
    J a S t F (c + 32) (stepR t S s one) ∧ (∀ l ∈ s.1.map (·.1), l ∈ (stepR t S s one).1.map (·.1)) ∧ ∀ l, Nb one l → over S l → l ∈ (stepR t S s one).1.map (·.1) := by
  obtain ⟨d1, d2, d3⟩ := J.steps (nbrs one S) c s h fun o ho => by
    obtain ⟨q1, q2, q3⟩ := nbrs_is h1 ho
    have := lev_tri a one o
    have := q1.lev
    exact ⟨q2, by omega, by omega⟩
  exact ⟨d1.up (by have := nbrs_len h4 hS; omega), d2, fun l a1 a2 => d3 l (nbrs_of a1 a2)⟩
/-- behind t turns -/
structure GI (a S : List Nat) (t : Nat) (s : Fnd × List (List Nat)) : Prop where
  g1 : ∀ p ∈ s.1, p.2 = lev a p.1 ∧ p.2 ≤ t ∧ over S p.1 ∧ p.1.length ≤ a.length + t
  g2 : ∀ l, over S l → lev a l ≤ t → l ∈ s.1.map (·.1)
  g3 : ∀ l ∈ s.2, over S l ∧ lev a l ≤ t ∧ l.length ≤ a.length + t
  g4 : ∀ l, over S l → lev a l = t → l ∈ s.2
  g5 : s.1.length ≤ 2 * 32 ^ t
  g6 : s.2.length ≤ 32 ^ t
theorem J.rows {a S : List Nat} {t F : Nat} (hS : S.length ≤ 2) (ht : a.length + t ≤ 5) : ∀ (rs : List (List Nat)) (c : Nat) (s : Fnd × List (List Nat)), J a S t F c s → (∀ o ∈ rs, over S o ∧ lev a o ≤ t ∧ o.length ≤ a.length + t) →
    J a S t F (c + 32 * rs.length) (rs.foldl (stepR t S) s) ∧ (∀ l ∈ s.1.map (·.1), l ∈ (rs.foldl (stepR t S) s).1.map (·.1)) ∧ ∀ o ∈ rs, ∀ l, Nb o l → over S l → l ∈ (rs.foldl (stepR t S) s).1.map (·.1)
  | [], c, s, h, _ => ⟨h, fun l hl => hl, fun _ z => nomatch z⟩
  | o :: os, c, s, h, ho => by
    obtain ⟨a1, a2, a3⟩ := ho o List.mem_cons_self
    obtain ⟨b1, b2, b3⟩ := h.row hS a1 a2 a3 (by omega)
    obtain ⟨d1, d2, d3⟩ := J.rows hS ht os (c + 32) _ b1 fun o ho' => ho o (List.mem_cons_of_mem _ ho')
    rw [List.foldl_cons, List.length_cons, show c + 32 * (os.length + 1) = c + 32 + 32 * os.length by omega]
    refine ⟨d1, fun l hl => d2 l (b2 l hl), fun x hx => ?_⟩
    rcases List.mem_cons.mp hx with rfl | hx
    · exact fun l n1 n2 => d2 _ (b3 l n1 n2)
    · exact d3 x hx
theorem GI.j {a S : List Nat} {t : Nat} {s : Fnd × List (List Nat)} (g : GI a S t s) : J a S t (2 * 32 ^ t) 0 (s.1, []) := ⟨fun p hp => by
    obtain ⟨q1, q2, q3, q4⟩ := g.g1 p hp
    exact ⟨q1, by omega, q3, by omega⟩, g.g2, fun _ z => (nomatch z), fun p hp e => by
    obtain ⟨q1, q2, q3, q4⟩ := g.g1 p hp
    omega, g.g5, Nat.le_refl _⟩
theorem GI.turn {a S : List Nat} {t : Nat} {s : Fnd × List (List Nat)} (g : GI a S t s) (ha : over S a) (hS : S.length ≤ 2) (ht : a.length + t ≤ 5) : GI a S (t + 1) (turnO S t s) := by
  obtain ⟨d1, d2, d3⟩ := J.rows hS ht s.2 0 (s.1, []) g.j g.g3
  have e : turnO S t s = s.2.foldl (stepR t S) (s.1, []) := rfl
  rw [← e] at d1 d2 d3
  have keys : ∀ l, over S l → lev a l ≤ t + 1 → l ∈ (turnO S t s).1.map (·.1) := fun l h1 h2 => by
    rcases Nat.lt_or_ge (lev a l) (t + 1) with q | q
    · exact d1.j2 l h1 (by omega)
    · obtain ⟨m, m1, m2, m3⟩ := lev_last (show lev a l = t + 1 by omega) ha h1
      exact d3 m (g.g4 m m3 m1) l m2 h1
  have p5 : 32 ^ (t + 1) = 32 * 32 ^ t := by rw [Nat.pow_succ]; omega
  have l6 := g.g6
  refine ⟨d1.j1, keys, d1.j3, fun l h1 h2 => ?_, ?_, ?_⟩
  · obtain ⟨p, hp, rfl⟩ := List.mem_map.mp (keys l h1 (by omega))
    exact d1.j4 p hp (by rw [(d1.j1 p hp).1]; exact h2)
  · have := d1.j5
    omega
  · have := d1.j6
    omega
theorem GI.start {a S : List Nat} (ha : over S a) : GI a S 0 ([(a, 0)], [a]) := by
  have l0 : lev a a = 0 := Nat.le_zero.mp (lev_le (Al.refl a))
  refine ⟨fun p hp => ?_, fun l h1 h2 => ?_, fun l hl => ?_, fun l h1 h2 => ?_, by simp, by simp⟩
  · rw [List.mem_singleton.mp hp]
    exact ⟨l0.symm, Nat.le_refl _, ha, Nat.le_refl _⟩
  · rw [← lev_self (Nat.le_zero.mp h2)]
    simp
  · rw [List.mem_singleton.mp hl]
    exact ⟨ha, by omega, Nat.le_refl _⟩
  · rw [← lev_self h2]
    simp
theorem stepOs_len (t : Nat) : ∀ (os : List (List Nat)) (s : Fnd × List (List Nat)), (os.foldl (stepO t) s).1.length ≤ s.1.length + os.length ∧ (os.foldl (stepO t) s).2.length ≤ s.2.length + os.length
  | [], s => ⟨Nat.le_refl _, Nat.le_refl _⟩
  | o :: os, s => by
    have h := stepO_len t s o
    have g := stepOs_len t os (stepO t s o)
    rw [List.foldl_cons, List.length_cons]
    omega
abbrev bT : ISs := (.cons (.asg [] 6 (.lst .nil)) (.cons (.for [4] (.nm 7) (.val (.slot 4)) bR) (.cons (.asg [6] 4 (.slot 6)) .nil)))
theorem w_rows {pf : PF} {pc : PC} {K : KS} {a S : List Nat} {t : Nat} {s4 s7 s8 s9 s10 s11 : Sl} {rows : List (List Nat)} {s : Fnd × List (List Nat)} (hS : S.length ≤ 2) (hr : ∀ o ∈ rows, o.length ≤ 5) (h1 : s.1.length + 32 * rows.length ≤ 150000) (h2 : s.2.length + 32 * rows.length ≤ 150000)
    (h : ∀ s7 s8 s9 s10 s11, K.nx (envO a S (rows.foldl (stepR t S) s).1 s4 (.val (.int (t : Nat))) (.own (.lst (wdsD (rows.foldl (stepR t S) s).2))) s7 s8 s9 s10 s11)) :
    forLoop (fun d e => asg (.nm 7) d e) (fun e k => wSs pf pc bR e k) K (wdsD rows) (envO a S s.1 s4 (.val (.int (t : Nat))) (.own (.lst (wdsD s.2))) s7 s8 s9 s10 s11) := by
  refine forLoop_inv (fun rest env => ∃ (os : List (List Nat)) (s' : Fnd × List (List Nat)) (s7 s8 s9 s10 s11 : Sl), rest = wdsD os ∧ os.foldl (stepR t S) s' = rows.foldl (stepR t S) s ∧ (∀ o ∈ os, o.length ≤ 5) ∧ s'.1.length + 32 * os.length ≤ 150000 ∧ s'.2.length + 32 * os.length ≤ 150000 ∧
    env = envO a S s'.1 s4 (.val (.int (t : Nat))) (.own (.lst (wdsD s'.2))) s7 s8 s9 s10 s11) (fun env hI => ?_) (fun d r env hI => ?_) _ _ ⟨rows, s, _, _, _, _, _, rfl, rfl, hr, h1, h2, rfl⟩
  · obtain ⟨os, s', s7, s8, s9, s10, s11, hr, hf, _, _, _, rfl⟩ := hI
    cases os with
    | cons => cases hr
    | nil =>
      rw [List.foldl_nil] at hf
      rw [hf]
      exact h _ _ _ _ _
  · obtain ⟨os, s', s7, s8, s9, s10, s11, hr, hf, ho, g1, g2, rfl⟩ := hI
    cases os with
    | nil => cases hr
    | cons o os =>
      cases hr
      rw [List.length_cons] at g1 g2
      have ho1 := ho o List.mem_cons_self
      have l := stepOs_len t (nbrs o S) s'
      have nl := nbrs_len ho1 hS
      refine ⟨_, rfl, fun K' k1 k2 k3 => ?_⟩
      refine nx_env (K := fun e => wSs pf pc bR e K') (e2 := envO a S s'.1 s4 (.val (.int (t : Nat))) (.own (.lst (wdsD s'.2))) (.val (tx o)) s8 s9 s10 s11) rfl ?_
      refine w_R ho1 hS (by omega) (by omega) fun s8 s9 s10 s11 => k3 _ ⟨os, stepR t S s' o, _, _, _, _, _, rfl, hf, fun x hx => ho x (List.mem_cons_of_mem _ hx), ?_, ?_, rfl⟩
      · show ((nbrs o S).foldl (stepO t) s').1.length + _ ≤ _
        omega
      · show ((nbrs o S).foldl (stepO t) s').2.length + _ ≤ _
        omega
theorem f_out_from {a S : List Nat} (ha : over S a) (hl : a.length ≤ 3) (hS : S.length ≤ 2) (h : ∀ f : Fnd, f.length ≤ 65536 → (∀ p ∈ f, p.2 = lev a p.1 ∧ over S p.1 ∧ p.1.length ≤ 6) → Q (.dK (kvsOf f))) : pf (n + 1) 19 [tx a, letD S, .int 3] Q E := by
  refine pF_code rfl ⟨rfl, by decide, ?_⟩
  show wSs _ _ b__law_out_from [.val (tx a), .val (letD S), .val (.int 3), .un, .un, .un, .un, .un, .un, .un, .un, .un] _
  unfold b__law_out_from
  subst_vars
  show dicD [(tx a, .int 0)] _
  unfold dicD
  simp only [keyPs, keyD, Option.bind_some, Option.map_some]
  show wEs _ _ _ _ _ _
  subst_vars
  refine rg_ok (.inl rfl) (by decide) (by decide) (by decide) (by decide) ?_
  have hr := rangeD_up 0 3
  rw [show ((0 : Int) + ((3 : Nat) : Int)) = (3 : Int) by omega] at hr
  rw [hr]
  have len : ((List.range 3).map fun i => D.int (0 + (i : Nat))).length = 3 := by simp
  refine forLoop_ix (fun t env => ∃ (s : Fnd × List (List Nat)) (s4 s5 s6 s7 s8 s9 s10 s11 : Sl), GI a S t s ∧ (s4 = .val (.lst (wdsD s.2)) ∨ s4 = .own (.lst (wdsD s.2))) ∧ env = envO a S s.1 s4 s5 s6 s7 s8 s9 s10 s11) (fun env hI => ?_) (fun t d env ht hd hI => ?_) ⟨([(a, 0)], [a]), .own (.lst (wdsD [a])), _, _, _, _, _, _, _, GI.start ha, .inr rfl, rfl⟩
  · rw [len] at hI
    obtain ⟨s, s4, s5, s6, s7, s8, s9, s10, s11, g, hs, rfl⟩ := hI
    subst_vars
    refine h s.1 g.g5 fun p hp => ?_
    obtain ⟨q1, q2, q3, q4⟩ := g.g1 p hp
    exact ⟨q1, q3, by omega⟩
  · rw [len] at ht
    obtain ⟨s, s4, s5, s6, s7, s8, s9, s10, s11, g, hs, rfl⟩ := hI
    rw [List.getElem?_map, List.getElem?_range ht] at hd
    have hd : some (D.int (0 + (t : Nat))) = some d := hd
    rw [Int.zero_add] at hd
    cases hd
    have p1 : 32 ^ t ≤ 1024 := by
      have : t = 0 ∨ t = 1 ∨ t = 2 := by omega
      rcases this with rfl | rfl | rfl <;> decide
    have g5 := g.g5
    have g6 := g.g6
    refine ⟨_, rfl, fun K' k1 k2 k3 => ?_⟩
    have gt := g.turn ha hS (by omega)
    have key : ∀ s7 s8 s9 s10 s11 : Sl, wSs (pF fns lms n) (pC fns lms n) (.cons (.asg [6] 4 (.slot 6)) .nil) (envO a S (turnO S t s).1 (.val (.lst (wdsD s.2))) (.val (.int (t : Nat))) (.own (.lst (wdsD (turnO S t s).2))) s7 s8 s9 s10 s11) K' := fun s7 s8 s9 s10 s11 => by
      subst_vars
      exact k3 _ ⟨turnO S t s, _, _, _, _, _, _, _, _, gt, .inl rfl, rfl⟩
    have rows : ∀ o ∈ s.2, o.length ≤ 5 := fun o ho => by
      have := (g.g3 o ho).2.2
      omega
    rcases hs with rfl | rfl
    · subst_vars
      refine nx_env (K := fun e => forLoop (fun d e => asg (.nm 7) d e) (fun e k => wSs (pF fns lms n) (pC fns lms n) bR e k) _ (wdsD s.2) e) (e2 := envO a S s.1 (.val (.lst (wdsD s.2))) (.val (.int (t : Nat))) (.own (.lst (wdsD []))) s7 s8 s9 s10 s11) rfl ?_
      exact w_rows (s := (s.1, [])) hS rows (by simp; omega) (by simp; omega) key
    · subst_vars
      refine nx_env (K := fun e => forLoop (fun d e => asg (.nm 7) d e) (fun e k => wSs (pF fns lms n) (pC fns lms n) bR e k) _ (wdsD s.2) e) (e2 := envO a S s.1 (.val (.lst (wdsD s.2))) (.val (.int (t : Nat))) (.own (.lst (wdsD []))) s7 s8 s9 s10 s11) rfl ?_
      exact w_rows (s := (s.1, [])) hS rows (by simp; omega) (by simp; omega) key
theorem ss_env {pf : PF} {pc : PC} {r : ISs} {env env2 : DEnv} {K : KS} (h : env = env2) (q : wSs pf pc r env2 K) : wSs pf pc r env K := by rw [h]; exact q
theorem plain_mk {l : List Nat} (h1 : l.length ≤ 60) (h2 : ∀ c ∈ l, sml c = true) : plainL l = true := by
  unfold plainL
  rw [decide_eq_true h1, Bool.true_and]
  exact List.all_eq_true.mpr h2
theorem f_mendsW {a b : List Nat} (pa : plainL a = true) (pb : plainL b = true) (h : Q (.int (lev a b : Nat))) : pf (n + 4) 5 [tx a, tx b] Q E :=
  f_mends ⟨true, rfl⟩ (fun _ => ⟨true, rfl⟩) (fun z => by rw [plain_of pa] at z; cases z) (fun _ z => by rw [plain_of pb] at z; cases z) fun x y e1 e2 _ _ => by
    have e1 := T_inj (D.str.inj e1)
    have e2 := T_inj (D.str.inj e2)
    subst e1 e2
    exact h
abbrev envL (s2 s3 s4 s5 s6 s7 s8 s9 s10 s11 s12 s13 s14 s15 : Sl) : DEnv := [.un, .val .strm, s2, s3, s4, s5, s6, s7, s8, s9, s10, s11, s12, s13, s14, s15]
/-- what follows the words in a turn -/
abbrev bW : ISs := (match b_law with | .cons (.for _ _ _ (.cons _ (.cons _ (.cons _ (.cons _ r))))) _ => r | _ => .nil)
theorem w_turn {K : KS} {ls w o : List Nat} {s2 s6 s7 s8 s9 s10 s11 s12 s13 s14 s15 : Sl} (L : Lets ls) (pw : plainL w = true) (po : plainL o = true) (hK : K.rt = fun d => d = .bl true) (h : ∀ s6 s7 s8 s9 s10 s11 s12, K.nx (envL s2 (.val (letD ls)) (.val (tx w)) (.val (tx o)) s6 s7 s8 s9 s10 s11 s12 s13 s14 s15)) :
    wSs (pF fns lms 30) (pC fns lms 30) bW (envL s2 (.val (letD ls)) (.val (tx w)) (.val (tx o)) s6 s7 s8 s9 s10 s11 s12 s13 s14 s15) K := by
  show wSs _ _ (.cons (.asg [4, 5] 6 _) _) _ _
  subst_vars
  refine f_klev (plainL_len pw) (plainL_len po) ?_
  refine ss_env (env2 := envL s2 (.val (letD ls)) (.val (tx w)) (.val (tx o)) (.val (.int (lev w o : Nat))) s7 s8 s9 s10 s11 s12 s13 s14 s15) rfl ?_
  subst_vars
  refine f_mendsW pw po ?_
  subst_vars
  refine f_mendsW pw po ?_
  subst_vars
  refine f_mendsW po pw ?_
  rw [lev_symm o w]
  subst_vars
  refine ⟨by decide, by decide, by show 1 * 3 ≤ sizeLine; decide, ?_⟩
  subst_vars
  refine same_lst (k := 1) (ds := [.int (lev w o : Nat), .int (lev w o : Nat), .int (lev w o : Nat)]) (fun d hd => ?_) 28 _ _ ?_
  · simp only [List.mem_cons, List.not_mem_nil, or_false, or_self] at hd
    rw [hd]
    exact same_int _
  refine d_bl (i_falseX rfl (i_nil ?_))
  refine ss_env (env2 := envL s2 (.val (letD ls)) (.val (tx w)) (.val (tx o)) (.val (.int (lev w o : Nat))) (.val (.lst [.int (lev w o : Nat), .int (lev w o : Nat), .int (lev w o : Nat)])) s8 s9 s10 s11 s12 s13 s14 s15) rfl ?_
  infer_instance
  infer_instance
  infer_instance
  refine j_picks (m := 28) (P := fun k => k = 60) rfl rfl (by decide) (by decide) L (fun Q' hQ => by subst_vars; exact hQ 60 rfl) (fun k hk => by omega) fun k long hk hl hc => ?_
  subst_vars
  refine f_below (by decide) (by decide) fun less hless => ?_
  refine s_nil ⟨_, rfl, ?_⟩
  refine ss_env (env2 := envL s2 (.val (letD ls)) (.val (tx w)) (.val (tx o)) (.val (.int (lev w o : Nat))) (.val (.lst [.int (lev w o : Nat), .int (lev w o : Nat), .int (lev w o : Nat)])) (.val (tx long)) (.val (.int less)) s10 s11 s12 s13 s14 s15) rfl ?_
  infer_instance
  infer_instance
  refine j_picks (m := 28) (P := fun k => k = 60 - less) rfl rfl (by decide) (by decide) L (fun Q' hQ => by
    subst_vars
    rw [show ((60 : Int) - less) = ((60 - less : Nat) : Int) by omega]
    exact hQ _ rfl) (fun k hk => by omega) fun k2 far hk2 hl2 hc2 => ?_
  have pl : plainL long = true := plain_mk (by omega) fun c hc' => L.sml c (hc c hc')
  have pf_ : plainL far = true := plain_mk (by omega) fun c hc' => L.sml c (hc2 c hc')
  refine ss_env (env2 := envL s2 (.val (letD ls)) (.val (tx w)) (.val (tx o)) (.val (.int (lev w o : Nat))) (.val (.lst [.int (lev w o : Nat), .int (lev w o : Nat), .int (lev w o : Nat)])) (.val (tx long)) (.val (.int less)) (.val (tx far)) s11 s12 s13 s14 s15) rfl ?_
  subst_vars
  refine f_mendsW pl pf_ ?_
  subst_vars
  refine f_klev (plainL_len pl) (plainL_len pf_) ?_
  refine s_nil (same_int _ 29 _ _ ?_)
  refine d_bl (i_falseX rfl (i_nil ?_))
  refine ss_env (env2 := envL s2 (.val (letD ls)) (.val (tx w)) (.val (tx o)) (.val (.int (lev w o : Nat))) (.val (.lst [.int (lev w o : Nat), .int (lev w o : Nat), .int (lev w o : Nat)])) (.val (tx long)) (.val (.int less)) (.val (tx far)) s11 s12 s13 s14 s15) rfl ?_
  subst_vars
  refine f_kno_word fun bad ob => ?_
  subst_vars
  refine f_kno_word fun odd oo => ?_
  refine s_nil ⟨_, rfl, ?_⟩
  refine ss_env (env2 := envL s2 (.val (letD ls)) (.val (tx w)) (.val (tx o)) (.val (.int (lev w o : Nat))) (.val (.lst [.int (lev w o : Nat), .int (lev w o : Nat), .int (lev w o : Nat)])) (.val (tx long)) (.val (.int less)) (.val (tx far)) (.val bad) (.val odd) s13 s14 s15) rfl ?_
  subst_vars
  refine ⟨pC_lam2 rfl, _, rfl, by simp [noCloL, ob.nc], ?_⟩
  subst_vars
  refine f_krefuses (n := 27) ob (fun Q E h => f_kraised9 (rais1 (n := 23) ob) h) ⟨rfl, ?_⟩
  refine d_bl (i_falseX rfl (i_nil ?_))
  refine ss_env (env2 := envL s2 (.val (letD ls)) (.val (tx w)) (.val (tx o)) (.val (.int (lev w o : Nat))) (.val (.lst [.int (lev w o : Nat), .int (lev w o : Nat), .int (lev w o : Nat)])) (.val (tx long)) (.val (.int less)) (.val (tx far)) (.val bad) (.val odd) s13 s14 s15) rfl ?_
  subst_vars
  refine ⟨pC_lam2 rfl, _, rfl, by simp [noCloL, oo.nc, noClo], ?_⟩
  subst_vars
  refine f_krefuses (n := 27) oo (fun Q E h => f_kraised5 (rais2 (n := 23) oo pw) h) ⟨rfl, ?_⟩
  refine d_bl (i_falseX rfl (i_nil ?_))
  refine ss_env (env2 := envL s2 (.val (letD ls)) (.val (tx w)) (.val (tx o)) (.val (.int (lev w o : Nat))) (.val (.lst [.int (lev w o : Nat), .int (lev w o : Nat), .int (lev w o : Nat)])) (.val (tx long)) (.val (.int less)) (.val (tx far)) (.val bad) (.val odd) s13 s14 s15) rfl ?_
  exact i_nil (h _ _ _ _ _ _ _)
theorem look_val {a l : List Nat} {f : Fnd} (h : ∀ p ∈ f, p.2 = lev a p.1) (hl : l ∈ f.map (·.1)) : lookD (kvsOf f) (.inr (T l)) = some (.int (lev a l : Nat)) := by
  have e := look_kvs l f
  rw [decide_eq_true hl] at e
  unfold lookD at e ⊢
  cases q : (kvsOf f).find? fun kv => decide (kv.1 = (.inr (T l) : Key)) with
  | none =>
    rw [q] at e
    cases e
  | some kv =>
    have m := List.mem_of_find?_eq_some q
    have p : kv.1 = (.inr (T l) : Key) := of_decide_eq_true (List.find?_some (p := fun kv : Key × D => decide (kv.1 = (.inr (T l) : Key))) q)
    obtain ⟨z, hz, rfl⟩ := List.mem_map.mp m
    have := (key_eq _ _).mp p
    subst this
    show some (D.int (z.2 : Nat)) = _
    rw [h z hz]
theorem w_words {K : KS} {a S : List Nat} {f : Fnd} {s2 s4 s5 s6 s7 s8 s9 s10 s11 s12 s15 : Sl} {ds : List D} (pa : plainL a = true) (hf : ∀ p ∈ f, p.2 = lev a p.1) (hp : ∀ p ∈ f, plainL p.1 = true) (hd : ∀ d ∈ ds, ∃ l, l ∈ f.map (·.1) ∧ d = tx l)
    (h : ∀ s4, K.nx (envL s2 (.val (letD S)) s4 s5 s6 s7 s8 s9 s10 s11 s12 (.val (tx a)) (.val (.dK (kvsOf f))) s15)) :
    forLoop (fun d e => asg (.nm 4) d e) (fun e k => wSs (pF fns lms 30) (pC fns lms 30) (.cons (.ite [13, 4] (.not (.call 11 (.cons (.call 5 (.cons (.slot 13) (.cons (.slot 4) .nil))) (.cons (.idx (.slot 14) (.slot 4)) .nil)))) (.cons (.ret [] (.cn (.bl false))) .nil) .nil) .nil) e k) K ds (envL s2 (.val (letD S)) s4 s5 s6 s7 s8 s9 s10 s11 s12 (.val (tx a)) (.val (.dK (kvsOf f))) s15) := by
  refine forLoop_inv (fun rest env => ∃ s4, (∀ d ∈ rest, ∃ l, l ∈ f.map (·.1) ∧ d = tx l) ∧ env = envL s2 (.val (letD S)) s4 s5 s6 s7 s8 s9 s10 s11 s12 (.val (tx a)) (.val (.dK (kvsOf f))) s15) (fun env hI => ?_) (fun d r env hI => ?_) _ _ ⟨s4, hd, rfl⟩
  · obtain ⟨s4, _, rfl⟩ := hI
    exact h s4
  · obtain ⟨s4, hr, rfl⟩ := hI
    obtain ⟨l, hl, rfl⟩ := hr d List.mem_cons_self
    have pl : plainL l = true := by
      obtain ⟨p, hp1, rfl⟩ := List.mem_map.mp hl
      exact hp p hp1
    refine ⟨_, rfl, fun K' k1 k2 k3 => ?_⟩
    refine ss_env (env2 := envL s2 (.val (letD S)) (.val (tx l)) s5 s6 s7 s8 s9 s10 s11 s12 (.val (tx a)) (.val (.dK (kvsOf f))) s15) rfl ?_
    subst_vars
    refine f_mendsW pa pl ?_
    subst_vars
    refine ⟨_, look_val hf hl, ?_⟩
    refine s_nil (same_int _ 29 _ _ ?_)
    refine d_bl (i_falseX rfl (i_nil ?_))
    refine ss_env (env2 := envL s2 (.val (letD S)) (.val (tx l)) s5 s6 s7 s8 s9 s10 s11 s12 (.val (tx a)) (.val (.dK (kvsOf f))) s15) rfl ?_
    exact i_nil (k3 _ ⟨_, fun d hd => hr d (List.mem_cons_of_mem _ hd), rfl⟩)
theorem y1 : (Str.ofString "abc" : Str) = T [97, 98, 99] := by decide +kernel
theorem y2 : (Str.ofString "abca" : Str) = T [97, 98, 99, 97] := by decide +kernel
theorem y3 : (Str.ofString "bcda" : Str) = T [98, 99, 100, 97] := by decide +kernel
theorem v1 : lev [] [97, 98, 99] = 3 := by rw [lev_nil]; rfl
theorem v2 : lev [97, 98, 99, 97] [98, 99, 100, 97] = 2 := by simp [lev_cons, lev_nil, lev_nil2]
theorem d_listK {f : Fnd} (h : Q (.lst (wdsD (f.map (·.1))))) : biD .list [.dK (kvsOf f)] Q := by
  have e : (kvsOf f).map (fun kv => keyVal kv.1) = wdsD (f.map (·.1)) := by
    unfold kvsOf wdsD
    rw [List.map_map, List.map_map]
    rfl
  show Q (.lst ((kvsOf f).map fun kv => keyVal kv.1))
  rw [e]
  exact h
theorem w_law : wSs (PFn 30) (PCn 30) b_law env0 lawKS := by
  show wSs (pF fns lms 30) (pC fns lms 30) (.cons (.for [] (.nm 2) (.rng (.cn (.int 0)) (.cn (.int 10)) 1) _) _) (envL .un .un .un .un .un .un .un .un .un .un .un .un .un .un) lawKS
  subst_vars
  refine rg_ok (.inl rfl) (by decide) (by decide) (by decide) (by decide) ?_
  refine forLoop_inv (fun rest env => ∃ s2 s3 s4 s5 s6 s7 s8 s9 s10 s11 s12 s13 s14 s15 : Sl, env = envL s2 s3 s4 s5 s6 s7 s8 s9 s10 s11 s12 s13 s14 s15) (fun env hI => ?_) (fun d r env hI => ?_) _ _ ⟨_, _, _, _, _, _, _, _, _, _, _, _, _, _, rfl⟩
  · obtain ⟨s2, s3, s4, s5, s6, s7, s8, s9, s10, s11, s12, s13, s14, s15, rfl⟩ := hI
    subst_vars
    refine f_kletters fun ls0 L0 => ?_
    subst_vars
    refine d_slcL ?_
    rw [show (2 : Int) = ((2 : Nat) : Int) from rfl, cut_to, ← List.map_take]
    generalize hls : ls0.take _ = ls
    have L : Lets ls := by
      subst hls
      refine ⟨fun z => ?_, ?_, fun c hc => L0.sml c (List.mem_of_mem_take hc)⟩
      · have := congrArg List.length z
        have p := List.length_pos_iff.mpr L0.ne
        rw [List.length_take, List.length_map, List.length_nil] at this
        omega
      · have := L0.le
        rw [List.length_take]
        omega
    have l2 : ls.length ≤ 2 := by
      subst hls
      rw [List.length_take]
      omega
    refine ss_env (env2 := envL s2 (.own (letD ls)) s4 s5 s6 s7 s8 s9 s10 s11 s12 s13 s14 s15) rfl ?_
    subst_vars
    refine f_kword (n := 27) (m := 3) L (by decide) fun start hl hc => ?_
    refine ss_env (env2 := envL s2 (.val (letD ls)) s4 s5 s6 s7 s8 s9 s10 s11 s12 (.val (tx start)) s14 s15) rfl ?_
    have pa : plainL start = true := plain_mk (by omega) fun c hc' => L.sml c (hc c hc')
    subst_vars
    refine f_out_from (n := 29) hc hl l2 fun f hf hp => ?_
    refine ss_env (env2 := envL s2 (.val (letD ls)) s4 s5 s6 s7 s8 s9 s10 s11 s12 (.val (tx start)) (.val (.dK (kvsOf f))) s15) rfl ?_
    subst_vars
    refine d_listK ?_
    subst_vars
    refine f_mixed (n := 29) (by rw [List.length_map, List.length_map]; omega) fun ys hy => ?_
    subst_vars
    refine d_slcL ?_
    rw [show (40 : Int) = ((40 : Nat) : Int) from rfl, cut_to]
    subst_vars
    refine nx_env (K := fun e => forLoop (fun d e => asg (.nm 4) d e) (fun e k => wSs (pF fns lms 30) (pC fns lms 30) _ e k) _ _ e) (e2 := envL s2 (.val (letD ls)) s4 s5 s6 s7 s8 s9 s10 s11 s12 (.val (tx start)) (.val (.dK (kvsOf f))) s15) rfl ?_
    refine w_words pa (fun p hp1 => (hp p hp1).1) (fun p hp1 => plain_mk (by have := (hp p hp1).2.2; omega) fun c hc' => L.sml c ((hp p hp1).2.1 c hc')) (fun d hd => ?_) fun s4 => ?_
    · obtain ⟨l, hl1, rfl⟩ := List.mem_map.mp (hy.mem_iff.mp (List.mem_of_mem_take hd))
      exact ⟨l, hl1, rfl⟩
    · rw [nil_T, y1, y2, y3]
      have p0 : plainL [] = true := by decide +kernel
      have p1 : plainL [97, 98, 99] = true := by decide +kernel
      have p2 : plainL [97, 98, 99, 97] = true := by decide +kernel
      have p3 : plainL [98, 99, 100, 97] = true := by decide +kernel
      subst_vars
      refine f_mendsW p0 p0 ?_
      subst_vars
      refine f_mendsW p0 p1 ?_
      subst_vars
      refine f_mendsW p2 p3 ?_
      rw [lev_nil, v1, v2]
      subst_vars
      refine same_lst (k := 1) (ds := [.int 0, .int 3, .int 2]) (fun d hd => ?_) 28 _ _ rfl
      simp only [List.mem_cons, List.not_mem_nil, or_false] at hd
      rcases hd with rfl | rfl | rfl <;> exact same_int _
  · obtain ⟨s2, s3, s4, s5, s6, s7, s8, s9, s10, s11, s12, s13, s14, s15, rfl⟩ := hI
    refine ⟨_, rfl, fun K' k1 k2 k3 => ?_⟩
    refine ss_env (env2 := envL (.val d) s3 s4 s5 s6 s7 s8 s9 s10 s11 s12 s13 s14 s15) rfl ?_
    subst_vars
    refine f_kletters fun ls L => ?_
    refine ss_env (env2 := envL (.val d) (.val (letD ls)) s4 s5 s6 s7 s8 s9 s10 s11 s12 s13 s14 s15) rfl ?_
    subst_vars
    refine f_kword (n := 27) (m := 9) L (by decide) fun w hl hc => ?_
    refine ss_env (env2 := envL (.val d) (.val (letD ls)) (.val (tx w)) s5 s6 s7 s8 s9 s10 s11 s12 s13 s14 s15) rfl ?_
    subst_vars
    refine f_kword (n := 27) (m := 9) L (by decide) fun o hl2 hc2 => ?_
    refine ss_env (env2 := envL (.val d) (.val (letD ls)) (.val (tx w)) (.val (tx o)) s6 s7 s8 s9 s10 s11 s12 s13 s14 s15) rfl ?_
    have pw : plainL w = true := plain_mk (by omega) fun c hc' => L.sml c (hc c hc')
    have fin : ∀ o : List Nat, plainL o = true → wSs (pF fns lms 30) (pC fns lms 30) bW (envL (.val d) (.val (letD ls)) (.val (tx w)) (.val (tx o)) s6 s7 s8 s9 s10 s11 s12 s13 s14 s15) K' := fun o po => w_turn L pw po k1 fun s6 s7 s8 s9 s10 s11 s12 => k3 _ ⟨_, _, _, _, _, _, _, _, _, _, _, _, _, _, rfl⟩
    subst_vars
    refine f_chance (by decide) (by decide) fun b => ?_
    cases b with
    | false =>
      refine d_bl (i_falseX rfl (i_nil ?_))
      exact fin o (plain_mk (by omega) fun c hc' => L.sml c (hc2 c hc'))
    | true =>
      refine d_bl (i_trueX rfl ?_)
      subst_vars
      refine f_below (by decide) (by decide) fun many hm => ?_
      subst_vars
      refine f_knear (n := 27) L (by omega) hl (fun c hc' => L.sml c (hc c hc')) fun l h1 h2 => ?_
      refine ss_env (pf := pF fns lms 30) (pc := pC fns lms 30) (r := .nil) (env2 := envL (.val d) (.val (letD ls)) (.val (tx w)) (.val (tx l)) s6 s7 s8 s9 s10 s11 s12 s13 s14 s15) rfl ?_
      exact i_nil (fin l (plain_mk (by omega) h2))
end K03
theorem PySem.Challenge.cw_lettermends_k03_mends_between_words_holds : PySem.Challenge.rw_lettermends_k03_mends_between_words.Holds :=
  PySem.Challenge.k03_of K03.w_law
