import PyProof.Rows.All
import Wide.All
import OpenK.AllK
import Wide.FinOn
import HandS.ForMost
import HandS.AnyAll
import HandS.TupAny
import HandS.TupMul
import HandS.Wide
import HandS.Style
import HandS.Flow
import KE.DataEq
import KE.DataCmp
import KE.DataAny
import KE.SortData
import KE.DataMinMax
import KE.DataIsa
import KE.DataFind
import HandS.Zip
import HandS.Iter
import HandS.Conv
import KE.GoesEnum
import HandS.WideMore
import HandS.Replace
import HandS.GenOver
import HandS.EndOwn
import PySem.Challenge.RW_allsounded_k57_commas_and_spelled_names
set_option Elab.async false
set_option linter.all false
set_option maxRecDepth 100000
set_option maxHeartbeats 4000000
namespace M
open PySem PySem.Spec PyProof.Rows L2
abbrev D := PyData
inductive U where
  | d (x : D)
  | ref (r : Nat)
  | own (x : D)
  | tmp (x : D)
  | scr (ns : List Int)
inductive MO where
  | v (x : D)
  | ins (c : Str) (fs : List (Str × U))
abbrev Sg := List (Option U)
abbrev Mh := List MO
abbrev CE := Sg → Mh → Option (U × Mh)
abbrev CB := Sg → Mh → Option (Bool × Mh)
abbrev CA := Sg → Mh → Option (List U × Mh)
inductive Fl where
  | nx | bk | ct
  | rt (u : U)
abbrev CS := Sg → Mh → Option (Fl × Sg × Mh)
structure Wd where
  F : Addr → Prop
  f : List Addr
def keyD : D → Option Key
  | .int i => some (.inl i)
  | .str s => some (.inr s)
  | _ => none
def keysDs : List D → Option (List Key)
  | [] => some []
  | d :: r => (keyD d).bind fun k => (keysDs r).map fun ks => k :: ks
def keysD : D → Option (List Key)
  | .tuple ds => keysDs ds
  | _ => none
mutual
def RelD (F : Addr → Prop) (H : Hp) : D → V → Prop
  | .none, v => v = .non
  | .bool b, v => v = .bl b
  | .int i, v => v = .int i
  | .str s, v => v = .str s
  | .tuple ds, v => ∃ a vs, v = .ref a ∧ H a = some (.tup vs) ∧ RelDs F H ds vs
  | .list ds, v => ∃ a vs, v = .ref a ∧ F a ∧ H a = some (.lst vs) ∧ RelDs F H ds vs
  | .dict kvs, v => ∃ a, v = .ref a ∧ F a ∧ ((∃ kk, Rd H a (.dK kk) ∧ RelK F H kvs kk) ∨ ∃ kk, Rd H a (.dT kk) ∧ RelT F H kvs kk)
def RelDs (F : Addr → Prop) (H : Hp) : List D → List V → Prop
  | [], vs => vs = []
  | d :: ds, vs => ∃ v r, vs = v :: r ∧ RelD F H d v ∧ RelDs F H ds r
def RelK (F : Addr → Prop) (H : Hp) : List (D × D) → List (Key × V) → Prop
  | [], kk => kk = []
  | (k, d) :: ds, kk => ∃ k' v r, kk = (k', v) :: r ∧ keyD k = some k' ∧ RelD F H d v ∧ RelK F H ds r
def RelT (F : Addr → Prop) (H : Hp) : List (D × D) → List (List Key × V) → Prop
  | [], kk => kk = []
  | (k, d) :: ds, kk => ∃ k' v r, kk = (k', v) :: r ∧ keysD k = some k' ∧ RelD F H d v ∧ RelT F H ds r
end
structure Stp (F : Addr → Prop) (H : Hp) (F' : Addr → Prop) (H' : Hp) : Prop where
  F1 : ∀ a, F a → F' a
  fz : ∀ a o, F a → H a = some o → H' a = some o
  tp : ∀ a vs, H a = some (.tup vs) → H' a = some (.tup vs)
theorem Stp.refl {F : Addr → Prop} {H : Hp} : Stp F H F H := ⟨fun _ h => h, fun _ _ _ h => h, fun _ _ h => h⟩
theorem Stp.trans {F F1 F2 : Addr → Prop} {H H1 H2 : Hp} (a : Stp F H F1 H1) (b : Stp F1 H1 F2 H2) : Stp F H F2 H2 :=
  ⟨fun x h => b.F1 x (a.F1 x h), fun x o h e => b.fz x o (a.F1 x h) (a.fz x o h e), fun x vs e => b.tp x vs (a.tp x vs e)⟩
theorem Stp.rd {F F' : Addr → Prop} {H H' : Hp} (s : Stp F H F' H') {a : Addr} {o : HO} (h : F a) (r : Rd H a o) : Rd H' a o := by
  rcases r with r | ⟨u, r⟩
  · exact .inl (s.fz a _ h r)
  · exact .inr ⟨u, s.fz a _ h r⟩
section
variable {F F' : Addr → Prop} {H H' : Hp}
mutual
theorem RelD.stp (s : Stp F H F' H') : ∀ (d : D) (v : V), RelD F H d v → RelD F' H' d v
  | .none, _, h => h
  | .bool _, _, h => h
  | .int _, _, h => h
  | .str _, _, h => h
  | .tuple ds, v, h => by
    obtain ⟨a, vs, e, h1, h2⟩ := h
    exact ⟨a, vs, e, s.tp a vs h1, RelDs.stp s ds vs h2⟩
  | .list ds, v, h => by
    obtain ⟨a, vs, e, h0, h1, h2⟩ := h
    exact ⟨a, vs, e, s.F1 a h0, s.fz a _ h0 h1, RelDs.stp s ds vs h2⟩
  | .dict kvs, v, h => by
    obtain ⟨a, e, h0, h1⟩ := h
    rcases h1 with ⟨kk, h1, h2⟩ | ⟨kk, h1, h2⟩
    · exact ⟨a, e, s.F1 a h0, .inl ⟨kk, s.rd h0 h1, RelK.stp s kvs kk h2⟩⟩
    · exact ⟨a, e, s.F1 a h0, .inr ⟨kk, s.rd h0 h1, RelT.stp s kvs kk h2⟩⟩
theorem RelDs.stp (s : Stp F H F' H') : ∀ (ds : List D) (vs : List V), RelDs F H ds vs → RelDs F' H' ds vs
  | [], _, h => h
  | d :: ds, vs, h => by
    obtain ⟨v, r, e, h1, h2⟩ := h
    exact ⟨v, r, e, RelD.stp s d v h1, RelDs.stp s ds r h2⟩
theorem RelK.stp (s : Stp F H F' H') : ∀ (ds : List (D × D)) (vs : List (Key × V)), RelK F H ds vs → RelK F' H' ds vs
  | [], _, h => h
  | (k, d) :: ds, vs, h => by
    obtain ⟨k', v, r, e, h0, h1, h2⟩ := h
    exact ⟨k', v, r, e, h0, RelD.stp s d v h1, RelK.stp s ds r h2⟩
theorem RelT.stp (s : Stp F H F' H') : ∀ (ds : List (D × D)) (vs : List (List Key × V)), RelT F H ds vs → RelT F' H' ds vs
  | [], _, h => h
  | (k, d) :: ds, vs, h => by
    obtain ⟨k', v, r, e, h0, h1, h2⟩ := h
    exact ⟨k', v, r, e, h0, RelD.stp s d v h1, RelT.stp s ds r h2⟩
end
theorem RelDs.len : ∀ {ds : List D} {vs : List V}, RelDs F H ds vs → ds.length = vs.length
  | [], vs, h => by
    have e : vs = [] := h
    subst e
    rfl
  | d :: ds, vs, h => by
    obtain ⟨v, r, e, h1, h2⟩ := h
    subst e
    simp [RelDs.len h2]
theorem RelDs.get : ∀ {ds : List D} {vs : List V} {i : Nat} {x : D}, RelDs F H ds vs → ds[i]? = some x → ∃ v, vs[i]? = some v ∧ RelD F H x v
  | [], vs, i, x, h, e => by simp at e
  | d :: ds, vs, 0, x, h, e => by
    obtain ⟨v, r, e', h1, h2⟩ := h
    subst e'
    simp at e
    subst e
    exact ⟨v, rfl, h1⟩
  | d :: ds, vs, i + 1, x, h, e => by
    obtain ⟨v, r, e', h1, h2⟩ := h
    subst e'
    simp at e
    obtain ⟨v', q, h⟩ := RelDs.get h2 e
    exact ⟨v', by simpa using q, h⟩
theorem RelDs.get' : ∀ {ds : List D} {vs : List V} {i : Nat} {v : V}, RelDs F H ds vs → vs[i]? = some v → ∃ x, ds[i]? = some x ∧ RelD F H x v
  | [], vs, i, x, h, e => by
    have e' : vs = [] := h
    subst e'
    simp at e
  | d :: ds, vs, 0, x, h, e => by
    obtain ⟨v, r, e', h1, h2⟩ := h
    subst e'
    simp at e
    subst e
    exact ⟨d, rfl, h1⟩
  | d :: ds, vs, i + 1, x, h, e => by
    obtain ⟨v, r, e', h1, h2⟩ := h
    subst e'
    simp at e
    obtain ⟨v', q, h⟩ := RelDs.get' h2 e
    exact ⟨v', by simpa using q, h⟩
theorem RelDs.app : ∀ {ds es : List D} {vs ws : List V}, RelDs F H ds vs → RelDs F H es ws → RelDs F H (ds ++ es) (vs ++ ws)
  | [], es, vs, ws, h, h' => by
    have e : vs = [] := h
    subst e
    exact h'
  | d :: ds, es, vs, ws, h, h' => by
    obtain ⟨v, r, e, h1, h2⟩ := h
    subst e
    exact ⟨v, r ++ ws, rfl, h1, RelDs.app h2 h'⟩
theorem RelDs.drop : ∀ {ds : List D} {vs : List V} (n : Nat), RelDs F H ds vs → RelDs F H (ds.drop n) (vs.drop n)
  | ds, vs, 0, h => h
  | [], vs, n + 1, h => by
    have e : vs = [] := h
    subst e
    exact rfl
  | d :: ds, vs, n + 1, h => by
    obtain ⟨v, r, e, h1, h2⟩ := h
    subst e
    exact RelDs.drop n h2
theorem RelDs.take : ∀ {ds : List D} {vs : List V} (n : Nat), RelDs F H ds vs → RelDs F H (ds.take n) (vs.take n)
  | ds, vs, 0, h => rfl
  | [], vs, n + 1, h => by
    have e : vs = [] := h
    subst e
    exact rfl
  | d :: ds, vs, n + 1, h => by
    obtain ⟨v, r, e, h1, h2⟩ := h
    subst e
    exact ⟨v, r.take n, rfl, h1, RelDs.take n h2⟩
theorem RelDs.set {x : D} {u : V} (hx : RelD F H x u) : ∀ {ds : List D} {vs : List V} (n : Nat), RelDs F H ds vs → RelDs F H (ds.set n x) (vs.set n u)
  | [], vs, n, h => by
    have e : vs = [] := h
    subst e
    exact rfl
  | d :: ds, vs, 0, h => by
    obtain ⟨v, r, e, h1, h2⟩ := h
    subst e
    exact ⟨u, r, rfl, hx, h2⟩
  | d :: ds, vs, n + 1, h => by
    obtain ⟨v, r, e, h1, h2⟩ := h
    subst e
    exact ⟨v, r.set n u, rfl, h1, RelDs.set hx n h2⟩
theorem RelDs.erase : ∀ {ds : List D} {vs : List V} (n : Nat), RelDs F H ds vs → RelDs F H (ds.eraseIdx n) (vs.eraseIdx n)
  | [], vs, n, h => by
    have e : vs = [] := h
    subst e
    exact rfl
  | d :: ds, vs, 0, h => by
    obtain ⟨v, r, e, h1, h2⟩ := h
    subst e
    exact h2
  | d :: ds, vs, n + 1, h => by
    obtain ⟨v, r, e, h1, h2⟩ := h
    subst e
    exact ⟨v, r.eraseIdx n, rfl, h1, RelDs.erase n h2⟩
theorem RelDs.rev {ds : List D} {vs : List V} (h : RelDs F H ds vs) : RelDs F H ds.reverse vs.reverse := by
  induction ds generalizing vs with
  | nil =>
    have e : vs = [] := h
    subst e
    exact rfl
  | cons d ds ih =>
    obtain ⟨v, r, e, h1, h2⟩ := h
    subst e
    rw [List.reverse_cons, List.reverse_cons]
    exact RelDs.app (ih h2) ⟨v, [], rfl, h1, rfl⟩
theorem RelDs.ints : ∀ {ns : List Int} {vs : List V}, RelDs F H (ns.map .int) vs → vs = ns.map .int
  | [], vs, h => h
  | n :: ns, vs, h => by
    obtain ⟨v, r, e, h1, h2⟩ := h
    have e1 : v = .int n := h1
    rw [e, e1, RelDs.ints h2]
    rfl
theorem RelDs.of_ints : ∀ {ns : List Int}, RelDs F H (ns.map .int) (ns.map .int)
  | [] => rfl
  | n :: ns => ⟨.int n, ns.map .int, rfl, rfl, RelDs.of_ints⟩
theorem RelDs.bls : ∀ {ns : List Bool} {vs : List V}, RelDs F H (ns.map .bool) vs → vs = ns.map .bl
  | [], vs, h => h
  | n :: ns, vs, h => by
    obtain ⟨v, r, e, h1, h2⟩ := h
    have e1 : v = .bl n := h1
    rw [e, e1, RelDs.bls h2]
    rfl
end
def RelR (F : Addr → Prop) (H : Hp) : D → V → Prop
  | .list ds, v => ∃ a vs, v = .ref a ∧ H a = some (.lst vs) ∧ RelDs F H ds vs
  | .dict kvs, v => ∃ a, v = .ref a ∧ ((∃ kk, Rd H a (.dK kk) ∧ RelK F H kvs kk) ∨ ∃ kk, Rd H a (.dT kk) ∧ RelT F H kvs kk)
  | d, v => RelD F H d v
theorem RelD.r {F : Addr → Prop} {H : Hp} : ∀ {d : D} {v : V}, RelD F H d v → RelR F H d v
  | .none, _, h => h
  | .bool _, _, h => h
  | .int _, _, h => h
  | .str _, _, h => h
  | .tuple ds, v, h => h
  | .list ds, v, ⟨a, vs, e, _, h⟩ => ⟨a, vs, e, h⟩
  | .dict kvs, v, ⟨a, e, _, h⟩ => ⟨a, e, h⟩
def RelC (F : Addr → Prop) (H : Hp) : D → Addr → Prop
  | .list ds, a => ∃ vs, H a = some (.lst vs) ∧ RelDs F H ds vs
  | .dict kvs, a => (∃ kk, H a = some (.dK kk) ∧ RelK F H kvs kk) ∨ ∃ kk, H a = some (.dT kk) ∧ RelT F H kvs kk
  | _, _ => False
theorem RelC.r {F : Addr → Prop} {H : Hp} {d : D} {a : Addr} (h : RelC F H d a) : RelR F H d (.ref a) := by
  cases d with
  | list ds => obtain ⟨vs, h1, h2⟩ := h; exact ⟨a, vs, rfl, h1, h2⟩
  | dict kvs =>
    rcases h with ⟨kk, h1, h2⟩ | ⟨kk, h1, h2⟩
    · exact ⟨a, rfl, .inl ⟨kk, .inl h1, h2⟩⟩
    · exact ⟨a, rfl, .inr ⟨kk, .inl h1, h2⟩⟩
  | _ => exact h.elim
theorem RelC.fz {F : Addr → Prop} {H : Hp} {d : D} {a : Addr} (h : RelC F H d a) (hF : F a) : RelD F H d (.ref a) := by
  cases d with
  | list ds => obtain ⟨vs, h1, h2⟩ := h; exact ⟨a, vs, rfl, hF, h1, h2⟩
  | dict kvs =>
    rcases h with ⟨kk, h1, h2⟩ | ⟨kk, h1, h2⟩
    · exact ⟨a, rfl, hF, .inl ⟨kk, .inl h1, h2⟩⟩
    · exact ⟨a, rfl, hF, .inr ⟨kk, .inl h1, h2⟩⟩
  | _ => exact h.elim
theorem RelC.mut2 {F : Addr → Prop} {H : Hp} {d : D} {a : Addr} (h : RelC F H d a) : ∃ o, H a = some o ∧ (∀ vs, o ≠ .tup vs) ∧ ∀ ps, o ≠ .tbl ps := by
  cases d with
  | list ds => obtain ⟨vs, h1, h2⟩ := h; exact ⟨_, h1, (fun _ e => nomatch e), (fun _ e => nomatch e)⟩
  | dict kvs =>
    rcases h with ⟨kk, h1, h2⟩ | ⟨kk, h1, h2⟩
    · exact ⟨_, h1, (fun _ e => nomatch e), (fun _ e => nomatch e)⟩
    · exact ⟨_, h1, (fun _ e => nomatch e), (fun _ e => nomatch e)⟩
  | _ => exact h.elim
theorem RelC.mut {F : Addr → Prop} {H : Hp} {d : D} {a : Addr} (h : RelC F H d a) : ∃ o, H a = some o ∧ ∀ vs, o ≠ .tup vs := let ⟨o, e, n, _⟩ := h.mut2; ⟨o, e, n⟩
theorem RelC.stp {F F' : Addr → Prop} {H H' : Hp} (s : Stp F H F' H') {d : D} {a : Addr} (k : ∀ o, H a = some o → H' a = some o) (h : RelC F H d a) : RelC F' H' d a := by
  cases d with
  | list ds => obtain ⟨vs, h1, h2⟩ := h; exact ⟨vs, k _ h1, RelDs.stp s _ _ h2⟩
  | dict kvs =>
    rcases h with ⟨kk, h1, h2⟩ | ⟨kk, h1, h2⟩
    · exact .inl ⟨kk, k _ h1, RelK.stp s _ _ h2⟩
    · exact .inr ⟨kk, k _ h1, RelT.stp s _ _ h2⟩
  | _ => exact h.elim
def KL (K : PySem.W.Frag) (a : Addr) (xs : List V) : Prop :=
  ∃ (o : Obj) (its : Array Value) (n : Nat), K.lookup a = some o ∧ o.cls = .type "list" ∧ o.dict = none ∧ o.data = .seq its n ∧ its.size ≤ sizeLine ∧ Vals xs its.toList
structure Ct where
  K : PySem.W.Frag
  mg : Str → Option Value
  T : Addr → Prop
class Tb where
  T : Addr → Prop
def RelU (C : Ct) (w : Wd) (H : Hp) : U → V → Prop
  | .d x, v => RelD w.F H x v
  | .ref r, v => ∃ a, w.f[r]? = some a ∧ v = .ref a
  | .own x, v => ∃ a, v = .ref a ∧ ¬ w.F a ∧ a ∉ w.f ∧ RelC w.F H x a
  | .tmp x, v => ∃ a, v = .ref a ∧ ¬ w.F a ∧ a ∉ w.f ∧ RelC w.F H x a
  | .scr ns, v => ∃ a, v = .ref a ∧ ((∃ o, H a = some (.frz o (.lst (ns.map V.int)))) ∨ KL C.K a (ns.map V.int) ∨ RelD w.F H (.list (ns.map .int)) (.ref a))
def RelUs (C : Ct) (w : Wd) (H : Hp) : List U → List V → Prop
  | [], vs => vs = []
  | u :: us, vs => ∃ v r, vs = v :: r ∧ RelU C w H u v ∧ RelUs C w H us r
def RelFs (C : Ct) (w : Wd) (H : Hp) : List (Str × U) → List (Str × V) → Prop
  | [], vs => vs = []
  | (n, u) :: us, vs => ∃ v r, vs = (n, v) :: r ∧ RelU C w H u v ∧ RelFs C w H us r
def okF : U → Bool
  | .d _ => true
  | .ref _ => true
  | _ => false
def RelO (C : Ct) (w : Wd) (H : Hp) : MO → Addr → Prop
  | .v x, a => RelC w.F H x a
  | .ins c fs, a => ∃ cl dx vs, C.mg c = some (.ref cl) ∧ H a = some (.ins cl dx vs) ∧ (fs.all fun p => okF p.2) = true ∧ RelFs C w H fs vs
structure RelH (C : Ct) (w : Wd) (m : Mh) (H : Hp) : Prop where
  len : w.f.length = m.length
  nd : w.f.Nodup
  at_ : ∀ (r : Nat) o a, m[r]? = some o → w.f[r]? = some a → RelO C w H o a
  nF : ∀ a ∈ w.f, ¬ w.F a
  tF : ∀ a, w.F a → ∃ o, H a = some o ∧ ∀ ps, o ≠ .tbl ps
  tb : ∀ P, C.T P → GxR.TabG H P
structure Nxt (w : Wd) (H : Hp) (w' : Wd) (H' : Hp) : Prop where
  F1 : ∀ a, w.F a → w'.F a
  F2 : ∀ a, w'.F a → w.F a ∨ H a = none
  f1 : ∃ g, w'.f = w.f ++ g ∧ ∀ a ∈ g, H a = none
  keep : ∀ a o, H a = some o → (∀ ps, o ≠ .tbl ps) → a ∉ w.f → H' a = some o
  tbl : ∀ a ps, H a = some (.tbl ps) → ∃ more, H' a = some (.tbl (ps ++ more))
  there : ∀ a o, H a = some o → ∃ o', H' a = some o'
theorem Nxt.refl {w : Wd} {H : Hp} : Nxt w H w H :=
  ⟨fun _ h => h, fun _ h => .inl h, ⟨[], by simp, fun _ h => by simp at h⟩, fun _ _ h _ _ => h, fun _ ps h => ⟨#[], by rw [h, Array.append_empty]⟩, fun _ o h => ⟨o, h⟩⟩
theorem Nxt.trans {w w1 w2 : Wd} {H H1 H2 : Hp} (a : Nxt w H w1 H1) (b : Nxt w1 H1 w2 H2) : Nxt w H w2 H2 := by
  have back : ∀ x, H1 x = none → H x = none := fun x e => by
    cases q : H x with
    | none => rfl
    | some o =>
      obtain ⟨o', e'⟩ := a.there x o q
      rw [e] at e'
      cases e'
  obtain ⟨g, eg, hg⟩ := a.f1
  obtain ⟨g', eg', hg'⟩ := b.f1
  refine ⟨fun x h => b.F1 x (a.F1 x h), fun x h => ?_, ⟨g ++ g', by rw [eg', eg, List.append_assoc], fun x hx => ?_⟩, fun x o e nt hx => ?_, fun x ps e => ?_, fun x o e => ?_⟩
  · rcases b.F2 x h with h | h
    · exact a.F2 x h
    · exact .inr (back x h)
  · rcases List.mem_append.mp hx with h | h
    · exact hg x h
    · exact back x (hg' x h)
  · refine b.keep x o (a.keep x o e nt hx) nt fun z => ?_
    rw [eg] at z
    rcases List.mem_append.mp z with h | h
    · exact hx h
    · rw [hg x h] at e
      cases e
  · obtain ⟨m1, e1⟩ := a.tbl x ps e
    obtain ⟨m2, e2⟩ := b.tbl x _ e1
    exact ⟨m1 ++ m2, by rw [e2, Array.append_assoc]⟩
  · obtain ⟨o', e'⟩ := a.there x o e
    exact b.there x o' e'
theorem Nxt.back {w w1 : Wd} {H H1 : Hp} (a : Nxt w H w1 H1) {x : Addr} (e : H1 x = none) : H x = none := by
  cases q : H x with
  | none => rfl
  | some o =>
    obtain ⟨o', e'⟩ := a.there x o q
    rw [e] at e'
    cases e'
theorem RelH.at' {C : Ct} {w : Wd} {m : Mh} {H : Hp} (h : RelH C w m H) {a : Addr} (ha : a ∈ w.f) : ∃ (r : Nat) (o : MO), w.f[r]? = some a ∧ m[r]? = some o ∧ RelO C w H o a := by
  obtain ⟨r, hr, e⟩ := List.getElem_of_mem ha
  have hr' : r < m.length := by rw [← h.len]; exact hr
  refine ⟨r, m[r], ?_, List.getElem?_eq_getElem hr', h.at_ r _ a (List.getElem?_eq_getElem hr') ?_⟩
  · rw [List.getElem?_eq_getElem hr, e]
  · rw [List.getElem?_eq_getElem hr, e]
theorem RelH.notup {C : Ct} {w : Wd} {m : Mh} {H : Hp} (h : RelH C w m H) {a : Addr} {vs : List V} (e : H a = some (.tup vs)) : a ∉ w.f := fun ha => by
  obtain ⟨r, o, _, _, q⟩ := h.at' ha
  cases o with
  | v x =>
    obtain ⟨o', e', n⟩ := RelC.mut q
    rw [e] at e'
    cases e'
    exact n vs rfl
  | ins c fs =>
    obtain ⟨cl, dx, vs', _, e', _⟩ := q
    rw [e] at e'
    cases e'
theorem RelH.nofrz {C : Ct} {w : Wd} {m : Mh} {H : Hp} (h : RelH C w m H) {a : Addr} {ob : Obj} {u : HO} (e : H a = some (.frz ob u)) : a ∉ w.f := fun ha => by
  obtain ⟨r, o, _, _, q⟩ := h.at' ha
  cases o with
  | v x =>
    cases x with
    | list ds => obtain ⟨vs, e', _⟩ := q; rw [e] at e'; cases e'
    | dict kvs =>
      rcases q with ⟨kk, e', _⟩ | ⟨kk, e', _⟩
      · rw [e] at e'; cases e'
      · rw [e] at e'; cases e'
    | _ => exact q.elim
  | ins c fs =>
    obtain ⟨cl, dx, vs', _, e', _⟩ := q
    rw [e] at e'
    cases e'
theorem Nxt.stp {C : Ct} {w w' : Wd} {m : Mh} {H H' : Hp} (n : Nxt w H w' H') (h : RelH C w m H) : Stp w.F H w'.F H' :=
  ⟨n.F1, fun a o hF e => n.keep a o e (fun ps z => by
    obtain ⟨o', e', nt⟩ := h.tF a hF
    rw [e] at e'
    cases e'
    exact nt ps z) fun ha => h.nF a ha hF, fun a vs e => n.keep a _ e (fun _ z => nomatch z) (h.notup e)⟩
theorem Nxt.free {w w' : Wd} {H H' : Hp} (n : Nxt w H w' H') {a : Addr} {o : HO} (e : H a = some o) (h1 : ¬ w.F a) (h2 : a ∉ w.f) (nt : ∀ ps, o ≠ .tbl ps := by intro _ z; cases z) : ¬ w'.F a ∧ a ∉ w'.f ∧ H' a = some o := by
  refine ⟨fun z => ?_, fun z => ?_, n.keep a o e nt h2⟩
  · rcases n.F2 a z with z | z
    · exact h1 z
    · rw [e] at z; cases z
  · obtain ⟨g, eg, hg⟩ := n.f1
    rw [eg] at z
    rcases List.mem_append.mp z with z | z
    · exact h2 z
    · rw [hg a z] at e; cases e
theorem RelU.nxt {C : Ct} {w w' : Wd} {m : Mh} {H H' : Hp} (n : Nxt w H w' H') (h : RelH C w m H) : ∀ {u : U} {v : V}, RelU C w H u v → RelU C w' H' u v
  | .d x, v, r => RelD.stp (n.stp h) x v r
  | .ref r, v, ⟨a, e, ev⟩ => by
    obtain ⟨g, eg, _⟩ := n.f1
    refine ⟨a, ?_, ev⟩
    rw [eg, List.getElem?_append_left (List.getElem?_eq_some_iff.mp e).1]
    exact e
  | .own x, v, ⟨a, ev, h1, h2, h3⟩ => by
    obtain ⟨o, eo, _, nt⟩ := RelC.mut2 h3
    obtain ⟨q1, q2, q3⟩ := n.free eo h1 h2 nt
    exact ⟨a, ev, q1, q2, RelC.stp (n.stp h) (fun o' e' => by rw [eo] at e'; cases e'; exact q3) h3⟩
  | .tmp x, v, ⟨a, ev, h1, h2, h3⟩ => by
    obtain ⟨o, eo, _, nt⟩ := RelC.mut2 h3
    obtain ⟨q1, q2, q3⟩ := n.free eo h1 h2 nt
    exact ⟨a, ev, q1, q2, RelC.stp (n.stp h) (fun o' e' => by rw [eo] at e'; cases e'; exact q3) h3⟩
  | .scr ns, v, ⟨a, ev, h1⟩ => ⟨a, ev, h1.imp (fun ⟨o, e⟩ => ⟨o, n.keep a _ e (fun _ z => nomatch z) (h.nofrz e)⟩) fun z => z.imp (fun z => z) fun z => RelD.stp (n.stp h) _ _ z⟩
theorem RelUs.nxt {C : Ct} {w w' : Wd} {m : Mh} {H H' : Hp} (n : Nxt w H w' H') (h : RelH C w m H) : ∀ {us : List U} {vs : List V}, RelUs C w H us vs → RelUs C w' H' us vs
  | [], _, r => r
  | u :: us, vs, ⟨v, r, e, h1, h2⟩ => ⟨v, r, e, RelU.nxt n h h1, RelUs.nxt n h h2⟩
theorem RelUs.len {C : Ct} {w : Wd} {H : Hp} : ∀ {us : List U} {vs : List V}, RelUs C w H us vs → us.length = vs.length
  | [], vs, r => by
    have e : vs = [] := r
    subst e
    rfl
  | u :: us, vs, ⟨v, r, e, h1, h2⟩ => by
    subst e
    simp [RelUs.len h2]
theorem RelUs.get {C : Ct} {w : Wd} {H : Hp} : ∀ {us : List U} {vs : List V} {i : Nat} {u : U}, RelUs C w H us vs → us[i]? = some u → ∃ v, vs[i]? = some v ∧ RelU C w H u v
  | [], vs, i, x, h, e => by simp at e
  | d :: ds, vs, 0, x, h, e => by
    obtain ⟨v, r, e', h1, h2⟩ := h
    subst e'
    simp at e
    subst e
    exact ⟨v, rfl, h1⟩
  | d :: ds, vs, i + 1, x, h, e => by
    obtain ⟨v, r, e', h1, h2⟩ := h
    subst e'
    simp at e
    obtain ⟨v', q, h⟩ := RelUs.get h2 e
    exact ⟨v', by simpa using q, h⟩
theorem RelFs.nxt {C : Ct} {w w' : Wd} {m : Mh} {H H' : Hp} (n : Nxt w H w' H') (h : RelH C w m H) : ∀ {us : List (Str × U)} {vs : List (Str × V)}, RelFs C w H us vs → RelFs C w' H' us vs
  | [], _, r => r
  | (_, u) :: us, vs, ⟨v, r, e, h1, h2⟩ => ⟨v, r, e, RelU.nxt n h h1, RelFs.nxt n h h2⟩
structure RelS (C : Ct) (w : Wd) (H : Hp) (ρ : Sg) (σ : L2.St) : Prop where
  len : ρ.length = σ.length
  at_ : ∀ (i : Nat) u, ρ[i]? = some (some u) → ∃ v, σ[i]? = some (some v) ∧ RelU C w H u v
  sep : ∀ (i j : Nat) x y v, i ≠ j → ρ[i]? = some (some (.own x)) → ρ[j]? = some (some (.own y)) → σ[i]? = some (some v) → σ[j]? ≠ some (some v)
  nt : ∀ (i : Nat) x, ρ[i]? ≠ some (some (.tmp x))
structure At (C : Ct) (w : Wd) (ρ : Sg) (σ : L2.St) (m : Mh) (H : Hp) : Prop where
  s : RelS C w H ρ σ
  h : RelH C w m H
theorem RelS.nxt {C : Ct} {w w' : Wd} {m : Mh} {H H' : Hp} {ρ : Sg} {σ : L2.St} (s : RelS C w H ρ σ) (n : Nxt w H w' H') (h : RelH C w m H) : RelS C w' H' ρ σ :=
  ⟨s.len, fun i u e => let ⟨v, e', r⟩ := s.at_ i u e; ⟨v, e', RelU.nxt n h r⟩, s.sep, s.nt⟩
theorem At.nxt {C : Ct} {w w' : Wd} {m m' : Mh} {H H' : Hp} {ρ : Sg} {σ : L2.St} (a : At C w ρ σ m H) (n : Nxt w H w' H') (h : RelH C w' m' H') : At C w' ρ σ m' H' := ⟨a.s.nxt n a.h, h⟩
def Frsh (H : Hp) : U → V → Prop
  | .tmp _, v => ∀ a, v = .ref a → H a = none
  | .own _, _ => True
  | _, _ => True
def PostE (C : Ct) (w : Wd) (H : Hp) (u : U) (m' : Mh) (Q : VK) : Prop :=
  ∀ w' H' v, Nxt w H w' H' → RelH C w' m' H' → RelU C w' H' u v → Frsh H u v → Q v H'
def TEc (C : Ct) (c : CE) : TE := fun σ H Q => ∃ w ρ m u m', At C w ρ σ m H ∧ c ρ m = some (u, m') ∧ PostE C w H u m' Q
def TBc (C : Ct) (c : CB) : TT := fun σ H Q => ∃ w ρ m b m', At C w ρ σ m H ∧ c ρ m = some (b, m') ∧ ∀ w' H', Nxt w H w' H' → RelH C w' m' H' → Q b H'
structure FrU (H : Hp) (us : List U) (vs : List V) : Prop where
  fr : ∀ (i : Nat) x a, us[i]? = some (.tmp x) → vs[i]? = some (.ref a) → H a = none
  ap : ∀ (i j : Nat) x y a, i ≠ j → us[i]? = some (.tmp x) → us[j]? = some (.tmp y) → vs[i]? = some (.ref a) → vs[j]? ≠ some (.ref a)
def TAc (C : Ct) (c : CA) : TA := fun σ H Q => ∃ w ρ m us m', At C w ρ σ m H ∧ c ρ m = some (us, m') ∧ ∀ w' H' vs, Nxt w H w' H' → RelH C w' m' H' → RelUs C w' H' us vs → FrU H us vs → Q vs H'
def OwnF (H0 : Hp) (ρ : Sg) (σ : L2.St) : Prop := ∀ (i : Nat) (x : D) (a : Addr), ρ[i]? = some (some (.own x)) → σ[i]? = some (some (V.ref a)) → H0 a = none
def Cont (C : Ct) (w0 : Wd) (H0 : Hp) (w : Wd) (H : Hp) (D : Ends) (ρ' : Sg) (m' : Mh) : Fl → Prop
  | .nx => ∀ w' σ' H', Nxt w0 H0 w' H' → OwnF H0 ρ' σ' → Stp w.F H w'.F H' → At C w' ρ' σ' m' H' → D.nx σ' H'
  | .bk => ∀ w' σ' H', Nxt w0 H0 w' H' → OwnF H0 ρ' σ' → Stp w.F H w'.F H' → At C w' ρ' σ' m' H' → D.bk σ' H'
  | .ct => ∀ w' σ' H', Nxt w0 H0 w' H' → OwnF H0 ρ' σ' → Stp w.F H w'.F H' → At C w' ρ' σ' m' H' → D.ct σ' H'
  | .rt u => ∀ w' H' v, Nxt w0 H0 w' H' → RelH C w' m' H' → RelU C w' H' u v → D.rt v H'
theorem Cont.later {C : Ct} {w0 w w1 : Wd} {H0 H H1 : Hp} {D : Ends} {ρ' : Sg} {m' : Mh} {fl : Fl} (p : Cont C w0 H0 w H D ρ' m' fl) (s : Stp w.F H w1.F H1) : Cont C w0 H0 w1 H1 D ρ' m' fl := by
  cases fl with
  | nx => exact fun w2 σ2 H2 n2 o2 s2 A2 => p w2 σ2 H2 n2 o2 (s.trans s2) A2
  | bk => exact fun w2 σ2 H2 n2 o2 s2 A2 => p w2 σ2 H2 n2 o2 (s.trans s2) A2
  | ct => exact fun w2 σ2 H2 n2 o2 s2 A2 => p w2 σ2 H2 n2 o2 (s.trans s2) A2
  | rt u => exact p
def TSc (C : Ct) (c : CS) : TS := fun D σ H => ∃ w0 H0 w ρ m fl ρ' m', Nxt w0 H0 w H ∧ OwnF H0 ρ σ ∧ At C w ρ σ m H ∧ c ρ m = some (fl, ρ', m') ∧ Cont C w0 H0 w H D ρ' m' fl
variable [Tb]
abbrev _root_.L2.Cx.ct [Tb] (X : Cx) : Ct := ⟨X.K, X.mg, Tb.T⟩
def SE (X : Cx) (e : Expr) (c : CE) : Prop := PE X e (TEc X.ct c)
def SB (X : Cx) (e : Expr) (c : CB) : Prop := PT X e (TBc X.ct c)
def SWh (X : Cx) (e : Expr) (c : CB) : Prop := PW X e (TBc X.ct c)
def SA (X : Cx) (es : List Expr) (c : CA) : Prop := PA X es (TAc X.ct c)
def SS (X : Cx) (st : Stmt) (c : CS) : Prop := PS X st (TSc X.ct c)
def SSs (X : Cx) (st : List Stmt) (c : CS) : Prop := PSs X st (TSc X.ct c)
section
variable {X : Cx} {e : Expr}
theorem _root_.L2.PE.imp {t t' : TE} (h : PE X e t) (i : ∀ σ H Q, t' σ H Q → t σ H Q) : PE X e t' := ⟨fun pins s σ H Q I q => h.run pins s σ H Q I (i σ H Q q)⟩
theorem _root_.L2.PT.imp {t t' : TT} (h : PT X e t) (i : ∀ σ H Q, t' σ H Q → t σ H Q) : PT X e t' := ⟨fun pins s σ H Q I q => h.run pins s σ H Q I (i σ H Q q)⟩
theorem _root_.L2.PW.imp {t t' : TT} (h : PW X e t) (i : ∀ σ H Q, t' σ H Q → t σ H Q) : PW X e t' := ⟨fun wh pins s σ H Q I q => h.run wh pins s σ H Q I (i σ H Q q)⟩
theorem _root_.L2.PA.imp {es : List Expr} {t t' : TA} (h : PA X es t) (i : ∀ σ H Q, t' σ H Q → t σ H Q) : PA X es t' := ⟨fun pos pins s σ H Q I q => h.run pos pins s σ H Q I (i σ H Q q)⟩
theorem _root_.L2.PS.imp {st : Stmt} {t t' : TS} (h : PS X st t) (i : ∀ D σ H, t' D σ H → t D σ H) : PS X st t' := ⟨fun pins s σ H D I q => h.run pins s σ H D I (i D σ H q)⟩
theorem _root_.L2.PSs.imp {st : List Stmt} {t t' : TS} (h : PSs X st t) (i : ∀ D σ H, t' D σ H → t D σ H) : PSs X st t' := ⟨fun pins s σ H D I q => h.run pins s σ H D I (i D σ H q)⟩
end
end M

namespace M
open PySem PySem.Spec PyProof.Rows L2
variable [Tb]
section
variable {X : Cx} {pins : List (Addr × Obj)} {σ : L2.St} {H : Hp} {s : Shared} {F : Addr → Prop}
mutual
theorem RelD.reads (I : Inv X pins σ H s) : ∀ (d : D) (v : V) (u : Value), d.plain = true → RelD F H d v → RelV v u → ∃ as, Reads s.heap u d as
  | .none, v, u, _, h, r => by
    have e : v = .non := h
    subst e
    have e : u = Value.none := r
    subst e
    exact ⟨_, .none⟩
  | .bool b, v, u, _, h, r => by
    have e : v = .bl b := h
    subst e
    have e : u = Value.bool b := r
    subst e
    exact ⟨_, .bool b⟩
  | .int i, v, u, _, h, r => by
    have e : v = .int i := h
    subst e
    obtain ⟨t, rfl⟩ := r
    exact ⟨_, .int i t⟩
  | .str x, v, u, _, h, r => by
    have e : v = .str x := h
    subst e
    obtain ⟨t, rfl⟩ := r
    exact ⟨_, .str x t⟩
  | .tuple ds, v, u, p, h, r => by
    obtain ⟨a, vs, e, h1, h2⟩ := h
    subst e
    have e : u = Value.ref a := r
    subst e
    obtain ⟨its, rv, ⟨o, ho, hc, n, hd⟩, _⟩ := I.tuple (SqT.of h1)
    obtain ⟨as, ra⟩ := RelDs.reads I ds vs its p h2 rv
    exact ⟨as, .tuple ho hc hd (by simpa using ra)⟩
  | .list ds, v, u, p, h, r => by
    obtain ⟨a, vs, e, _, h1, h2⟩ := h
    subst e
    have e : u = Value.ref a := r
    subst e
    obtain ⟨its, rv, ⟨o, n, ho, hc, _, hd⟩, _⟩ := I.list (SqL.of h1)
    obtain ⟨as, ra⟩ := RelDs.reads I ds vs its p h2 rv
    exact ⟨_, .list ho hc hd (by simpa using ra)⟩
  | .dict _, v, u, p, h, r => nomatch p
theorem RelDs.reads (I : Inv X pins σ H s) : ∀ (ds : List D) (vs : List V) (us : List Value), PyData.plainAll ds = true → RelDs F H ds vs → Vals vs us → ∃ as, ReadsAll s.heap us ds as
  | [], vs, us, _, h, r => by
    have e : vs = [] := h
    subst e
    cases r
    exact ⟨_, .nil⟩
  | d :: ds, vs, us, p, h, r => by
    obtain ⟨v, vr, e, h1, h2⟩ := h
    subst e
    have p' := p
    rw [PyData.plainAll, Bool.and_eq_true] at p'
    cases r with
    | cons r rr =>
      obtain ⟨as, ra⟩ := RelD.reads I d v _ p'.1 h1 r
      obtain ⟨bs, rb⟩ := RelDs.reads I ds vr _ p'.2 h2 rr
      exact ⟨_, .cons ra rb⟩
end
theorem RelR.reads (I : Inv X pins σ H s) {d : D} {v : V} {u : Value} (p : d.plain = true) (h : RelR F H d v) (r : RelV v u) : ∃ as, Reads s.heap u d as := by
  cases d with
  | list ds =>
    obtain ⟨a, vs, e, h1, h2⟩ := h
    subst e
    have e : u = Value.ref a := r
    subst e
    obtain ⟨its, rv, ⟨o, n, ho, hc, _, hd⟩, _⟩ := I.list (SqL.of h1)
    obtain ⟨as, ra⟩ := RelDs.reads I ds vs its p h2 rv
    exact ⟨_, .list ho hc hd (by simpa using ra)⟩
  | dict _ => exact nomatch p
  | none => exact RelD.reads (F := F) I .none v u p h r
  | bool b => exact RelD.reads (F := F) I (.bool b) v u p h r
  | int b => exact RelD.reads (F := F) I (.int b) v u p h r
  | str b => exact RelD.reads (F := F) I (.str b) v u p h r
  | tuple b => exact RelD.reads (F := F) I (.tuple b) v u p h r
end
def valU (m : Mh) : U → Option D
  | .d x => some x
  | .own x => some x
  | .tmp x => some x
  | .scr _ => none
  | .ref r => match m[r]? with
    | some (.v x) => some x
    | _ => none
theorem valU_rel {C : Ct} {w : Wd} {m : Mh} {H : Hp} (h : RelH C w m H) : ∀ {u : U} {v : V} {x : D}, RelU C w H u v → valU m u = some x → RelR w.F H x v
  | .d x, v, y, r, e => by
    cases e
    exact RelD.r r
  | .own x, v, y, ⟨a, ev, _, _, r⟩, e => by
    cases e
    subst ev
    exact r.r
  | .tmp x, v, y, ⟨a, ev, _, _, r⟩, e => by
    cases e
    subst ev
    exact r.r
  | .scr _, v, y, r, e => by cases e
  | .ref k, v, y, ⟨a, ea, ev⟩, e => by
    subst ev
    have e' : (match m[k]? with
      | some (.v x) => some x
      | _ => none) = some y := e
    cases q : m[k]? with
    | none => rw [q] at e'; cases e'
    | some o =>
      rw [q] at e'
      cases o with
      | v x =>
        cases e'
        exact (h.at_ k _ a q ea).r
      | ins c fs => cases e'
def fzU : U → Option U
  | .d x => some (.d x)
  | .ref r => some (.ref r)
  | .tmp x => some (.d x)
  | .own _ => none
  | .scr _ => none
theorem PostE.later {C : Ct} {w w2 : Wd} {H H2 : Hp} {u : U} {m' : Mh} {Q : VK} (p : PostE C w H u m' Q) (n : Nxt w H w2 H2) : PostE C w2 H2 u m' Q := fun w' H' v n' h r f => by
  refine p w' H' v (n.trans n') h r ?_
  cases u with
  | tmp x => exact fun a e => n.back (f a e)
  | _ => trivial
theorem PostE.now {C : Ct} {w : Wd} {H : Hp} {x : D} {m : Mh} {Q : VK} (p : PostE C w H (.d x) m Q) (h : RelH C w m H) {v : V} (r : RelD w.F H x v) : Q v H := p w H v Nxt.refl h r trivial
theorem RelO.mono {C : Ct} {w w' : Wd} {H : Hp} (f1 : ∀ a, w.F a → w'.F a) (e : w'.f = w.f) : ∀ {o : MO} {a : Addr}, RelO C w H o a → RelO C w' H o a := by
  have st : Stp w.F H w'.F H := ⟨f1, fun _ _ _ h => h, fun _ _ h => h⟩
  have fs : ∀ {us : List (Str × U)} {vs : List (Str × V)}, (us.all fun p => okF p.2) = true → RelFs C w H us vs → RelFs C w' H us vs := by
    intro us
    induction us with
    | nil => intro vs _ r; exact r
    | cons p us ih =>
      intro vs q r
      obtain ⟨n, u⟩ := p
      obtain ⟨v, r', ev, h1, h2⟩ := r
      rw [List.all_cons, Bool.and_eq_true] at q
      refine ⟨v, r', ev, ?_, ih q.2 h2⟩
      cases u with
      | d x => exact RelD.stp st x v h1
      | ref k =>
        obtain ⟨a, ea, e'⟩ := h1
        exact ⟨a, by rw [e]; exact ea, e'⟩
      | own _ => exact nomatch q.1
      | tmp _ => exact nomatch q.1
      | scr _ => exact nomatch q.1
  intro o a r
  cases o with
  | v x => exact RelC.stp st (fun _ h => h) r
  | ins c us =>
    obtain ⟨cl, dx, vs, h1, h2, h3, h4⟩ := r
    exact ⟨cl, dx, vs, h1, h2, h3, fs h3 h4⟩
theorem RelH.freeze {C : Ct} {w : Wd} {m : Mh} {H : Hp} (h : RelH C w m H) {a : Addr} (ha : a ∉ w.f) {o : HO} (ho : H a = some o) (nt : ∀ ps, o ≠ .tbl ps) : RelH C ⟨fun b => w.F b ∨ b = a, w.f⟩ m H :=
  ⟨h.len, h.nd, fun r o b e1 e2 => RelO.mono (w' := ⟨fun b => w.F b ∨ b = a, w.f⟩) (fun _ z => Or.inl z) rfl (h.at_ r o b e1 e2), fun b hb z => by
    rcases z with z | z
    · exact h.nF b hb z
    · rw [z] at hb; exact ha hb, fun b z => by
    rcases z with z | z
    · exact h.tF b z
    · exact ⟨o, z ▸ ho, nt⟩, h.tb⟩
section
variable {X : Cx} {e a b : Expr} {c ca cb : CE} {pos : Pos}
def cFz (c : CE) : CE := fun ρ m => (c ρ m).bind fun p => (fzU p.1).map fun u => (u, p.2)
theorem PostE.fz {C : Ct} {w : Wd} {H : Hp} {u u' : U} {m' : Mh} {Q : VK} (p : PostE C w H u' m' Q) (e : fzU u = some u') : PostE C w H u m' Q := fun w' H' v n h r f => by
  cases u with
  | d x => cases e; exact p w' H' v n h r trivial
  | ref k => cases e; exact p w' H' v n h r trivial
  | own x => cases e
  | scr x => cases e
  | tmp x =>
    cases e
    obtain ⟨a, ev, h1, h2, h3⟩ := r
    have fr := f a ev
    obtain ⟨oo, ho, _, nt⟩ := h3.mut2
    refine p ⟨fun b => w'.F b ∨ b = a, w'.f⟩ H' v ⟨fun b z => .inl (n.F1 b z), fun b z => ?_, n.f1, n.keep, n.tbl, n.there⟩ (h.freeze h2 ho nt) ?_ trivial
    · rcases z with z | z
      · exact n.F2 b z
      · exact .inr (z ▸ fr)
    · subst ev
      refine RelC.fz (RelC.stp ⟨fun b z => .inl z, fun _ _ _ z => z, fun _ _ z => z⟩ (fun _ z => z) h3) (.inr rfl)
theorem se_fz (h : SE X e c) : SE X e (cFz c) := PE.imp h fun σ H Q ⟨w, ρ, m, u, m', A, ec, p⟩ => by
  unfold cFz at ec
  cases q : c ρ m with
  | none => rw [q] at ec; cases ec
  | some r =>
    rw [q] at ec
    obtain ⟨u1, m1⟩ := r
    simp only [Option.bind_some, Option.map_eq_some_iff, Prod.mk.injEq] at ec
    obtain ⟨u2, e1, rfl, rfl⟩ := ec
    exact ⟨w, ρ, m, u1, m1, A, q, p.fz e1⟩
def cVar (i : Nat) : CE := fun ρ m => match ρ[i]? with
  | some (some u) => some (u, m)
  | _ => none
theorem se_var (i : Nat) {x : Str} (hN : X.N[i]? = some x := by rfl) (hv : Vis X.env.scope x := by first | exact Or.inl rfl | exact Or.inr (Or.inl rfl) | exact Or.inr (Or.inr rfl)) (hd : (x == ("__debug__" : Str)) = false := by decide)
    (hcd : (x == ("__classdict__" : Str)) = false := by decide) : SE X (.Name x pos) (cVar i) := (pv i hN hv hd hcd).imp fun σ H Q ⟨w, ρ, m, u, m', A, ec, p⟩ => by
  unfold cVar at ec
  cases q : ρ[i]? with
  | none => rw [q] at ec; cases ec
  | some o =>
    rw [q] at ec
    cases o with
    | none => cases ec
    | some u' =>
      cases ec
      obtain ⟨v, e, r⟩ := A.s.at_ i u q
      refine ⟨v, e, p w H v Nxt.refl A.h r ?_⟩
      cases u with
      | tmp x => exact (A.s.nt i x q).elim
      | _ => trivial
def cC (x : D) : CE := fun _ m => some (.d x, m)
theorem imp_c {C : Ct} {x : D} {v : V} (hx : ∀ F H, RelD F H x v) : ∀ σ H Q, TEc C (cC x) σ H Q → tC v σ H Q := fun σ H Q ⟨w, ρ, m, u, m', A, ec, p⟩ => by
  cases ec
  exact p.now A.h (hx _ _)
theorem se_int {i : Int} {j : Nat} : SE X (.Constant (.int i) j pos) (cC (.int i)) := pe_int.imp (imp_c fun _ _ => rfl)
theorem se_bl {i : Bool} {j : Nat} : SE X (.Constant (.bool i) j pos) (cC (.bool i)) := pe_bl.imp (imp_c fun _ _ => rfl)
theorem se_non {j : Nat} : SE X (.Constant .none j pos) (cC .none) := pe_non.imp (imp_c fun _ _ => rfl)
theorem se_str {x : Str} {j : Nat} : SE X (.Constant (.str x) j pos) (cC (.str x)) := pe_str.imp (imp_c fun _ _ => rfl)
theorem se_glob {x : Str} {d : D} {v : V} {u : Value} (hg : Gl X x) (hm : X.mg x = some u) (r : RelV v u) (hx : ∀ F H, RelD F H d v) (hd : (x == ("__debug__" : Str)) = false := by decide) : SE X (.Name x pos) (cC d) := (pe_glob hg hm r hd).imp (imp_c hx)
def c2 (g : D → D → Option U) (ca cb : CE) : CE := fun ρ m => (ca ρ m).bind fun p => (cb ρ p.2).bind fun q => (valU q.2 p.1).bind fun x => (valU q.2 q.1).bind fun y => (g x y).map fun z => (z, q.2)
def cB2 (g : D → D → Option Bool) (ca cb : CE) : CB := fun ρ m => (ca ρ m).bind fun p => (cb ρ p.2).bind fun q => (valU q.2 p.1).bind fun x => (valU q.2 q.1).bind fun y => (g x y).map fun z => (z, q.2)
def O2 (C : Ct) (r : R2) (g : D → D → Option U) : Prop :=
  ∀ w m H x y u v z Q, RelH C w m H → RelR w.F H x u → RelR w.F H y v → g x y = some z → PostE C w H z m Q → r u v H Q
theorem bind2 {α : Type} {ρ : Sg} {m m' : Mh} {f : D → D → Option α} {z : α} (h : ((ca ρ m).bind fun p => (cb ρ p.2).bind fun q => (valU q.2 p.1).bind fun x => (valU q.2 q.1).bind fun y => (f x y).map fun z => (z, q.2)) = some (z, m')) :
    ∃ u1 m1 u2 x y, ca ρ m = some (u1, m1) ∧ cb ρ m1 = some (u2, m') ∧ valU m' u1 = some x ∧ valU m' u2 = some y ∧ f x y = some z := by
  cases q : ca ρ m with
  | none => rw [q] at h; cases h
  | some p =>
    obtain ⟨u1, m1⟩ := p
    rw [q] at h
    simp only [Option.bind_some] at h
    cases q2 : cb ρ m1 with
    | none => rw [q2] at h; cases h
    | some p2 =>
      obtain ⟨u2, m2⟩ := p2
      rw [q2] at h
      simp only [Option.bind_some] at h
      cases q3 : valU m2 u1 with
      | none => rw [q3] at h; cases h
      | some x =>
        rw [q3] at h
        simp only [Option.bind_some] at h
        cases q4 : valU m2 u2 with
        | none => rw [q4] at h; cases h
        | some y =>
          rw [q4] at h
          simp only [Option.bind_some] at h
          cases q5 : f x y with
          | none => rw [q5] at h; cases h
          | some z' =>
            rw [q5] at h
            simp only [Option.map_some, Option.some.injEq, Prod.mk.injEq] at h
            obtain ⟨rfl, rfl⟩ := h
            exact ⟨u1, m1, u2, x, y, rfl, q2, q3, q4, q5⟩
theorem imp_2 {C : Ct} {r : R2} {g : D → D → Option U} (o : O2 C r g) : ∀ σ H Q, TEc C (c2 g ca cb) σ H Q → tOp r (TEc C ca) (TEc C cb) σ H Q := fun σ H Q ⟨w, ρ, m, z, m', A, ec, p⟩ => by
  obtain ⟨u1, m1, u2, x, y, q1, q2, q3, q4, q5⟩ := bind2 ec
  refine ⟨w, ρ, m, u1, m1, A, q1, fun w1 H1 v1 n1 h1 r1 _ => ?_⟩
  refine ⟨w1, ρ, m1, u2, m', A.nxt n1 h1, q2, fun w2 H2 v2 n2 h2 r2 _ => ?_⟩
  exact o w2 m' H2 x y v1 v2 z Q h2 (valU_rel h2 (RelU.nxt n2 h1 r1) q3) (valU_rel h2 r2 q4) q5 (p.later (n1.trans n2))
theorem se_2 {op : Operator} {r : R2} {g : D → D → Option U} (ho : OpR X (binaryOp op) r) (o : O2 X.ct r g) (ha : SE X a ca) (hb : SE X b cb) : SE X (.BinOp a op b pos) (c2 g ca cb) := (pe_op ho ha hb).imp (imp_2 o)
theorem O2.or {C : Ct} {r r' : R2} {g g' : D → D → Option U} (h : O2 C r g) (h' : O2 C r' g') : O2 C (fun x y H Q => r x y H Q ∨ r' x y H Q) (fun x y => (g x y).or (g' x y)) := fun w m H x y u v z Q hh r1 r2 e p => by
  have e : (g x y).or (g' x y) = some z := e
  cases q : g x y with
  | some z' =>
    rw [q] at e
    cases e
    exact .inl (h w m H x y u v _ Q hh r1 r2 q p)
  | none =>
    rw [q] at e
    exact .inr (h' w m H x y u v z Q hh r1 r2 e p)
theorem O2.as {C : Ct} {r : R2} {g g' : D → D → Option U} (h : O2 C r g) (e : ∀ x y z, g' x y = some z → g x y = some z) : O2 C r g' := fun w m H x y u v z Q hh r1 r2 e' p => h w m H x y u v z Q hh r1 r2 (e x y z e') p
def gInt (C : Int → Int → Bool) (g : Int → Int → D) : D → D → Option U := fun x y => match x, y with
  | .int i, .int j => if C i j = true then some (.d (g i j)) else none
  | _, _ => none
theorem o2_int {C : Ct} {Cp : Int → Int → Prop} {Cb : Int → Int → Bool} {g : Int → Int → V} {gd : Int → Int → D} (hC : ∀ i j, Cb i j = true → Cp i j) (hg : ∀ i j F H, RelD F H (gd i j) (g i j)) : O2 C (rI Cp g) (gInt Cb gd) := fun w m H x y u v z Q hh r1 r2 e p => by
  cases x with
  | int i =>
    cases y with
    | int j =>
      unfold gInt at e
      simp only at e
      split at e
      · rename_i hc
        cases e
        exact ⟨i, j, r1, r2, hC i j hc, p.now hh (hg i j _ _)⟩
      · cases e
    | _ => cases e
  | _ => cases e
theorem o2_int0 {C : Ct} {g : Int → Int → V} {gd : Int → Int → D} (hg : ∀ i j F H, RelD F H (gd i j) (g i j)) : O2 C (rI0 g) (gInt (fun _ _ => true) gd) := fun w m H x y u v z Q hh r1 r2 e p => by
  cases x with
  | int i =>
    cases y with
    | int j =>
      cases e
      exact ⟨i, j, r1, r2, p.now hh (hg i j _ _)⟩
    | _ => cases e
  | _ => cases e
theorem RelH.fresh {C : Ct} {w : Wd} {m : Mh} {H : Hp} (h : RelH C w m H) {p : Addr} (hp : H p = none) : p ∉ w.f := fun hm => by
  obtain ⟨r, o, _, _, q⟩ := h.at' hm
  cases o with
  | v x => obtain ⟨o, e, _⟩ := q.mut; rw [hp] at e; cases e
  | ins c fs => obtain ⟨_, _, _, _, e, _⟩ := q; rw [hp] at e; cases e
theorem Nxt.laid {w : Wd} {H : Hp} {p : Addr} {o : HO} (hp : H p = none) : Nxt w H w (upd H p o) :=
  ⟨fun _ h => h, fun _ h => .inl h, ⟨[], by simp, fun _ h => by simp at h⟩, fun a u e _ _ => by rw [upd_ne (ne_of_none e hp)]; exact e, fun a ps e => ⟨#[], by rw [upd_ne (ne_of_none e hp), e, Array.append_empty]⟩, fun a u e => ⟨u, by rw [upd_ne (ne_of_none e hp)]; exact e⟩⟩
theorem RelO.nxt {C : Ct} {w w' : Wd} {m : Mh} {H H' : Hp} (n : Nxt w H w' H') (h : RelH C w m H) {o : MO} {a : Addr} (k : ∀ u, H a = some u → H' a = some u) (r : RelO C w H o a) : RelO C w' H' o a := by
  cases o with
  | v x => exact RelC.stp (n.stp h) k r
  | ins c fs =>
    obtain ⟨cl, dx, vs, h1, h2, h3, h4⟩ := r
    exact ⟨cl, dx, vs, h1, k _ h2, h3, h4.nxt n h⟩
theorem RelH.stands {C : Ct} {w w' : Wd} {m : Mh} {H H' : Hp} (n : Nxt w H w' H') (h : RelH C w m H) (e : w'.f = w.f) (k : ∀ a ∈ w.f, ∀ u, H a = some u → H' a = some u) (tf : ∀ a, w'.F a → ∃ o, H' a = some o ∧ ∀ ps, o ≠ .tbl ps) (kt : ∀ a ps, H a = some (.tbl ps) → H' a = some (.tbl ps)) : RelH C w' m H' :=
  ⟨by rw [e]; exact h.len, by rw [e]; exact h.nd, fun r o a e1 e2 => by
    rw [e] at e2
    exact RelO.nxt n h (k a (List.mem_of_getElem? e2)) (h.at_ r o a e1 e2), fun a ha z => by
    rw [e] at ha
    rcases n.F2 a z with z | z
    · exact h.nF a ha z
    · exact h.fresh z ha, tf, fun P hP => let ⟨ps, e, q⟩ := h.tb P hP; ⟨ps, kt P ps e, q⟩⟩
theorem RelH.laid {C : Ct} {w : Wd} {m : Mh} {H : Hp} {p : Addr} {o : HO} (h : RelH C w m H) (hp : H p = none) : RelH C w m (upd H p o) :=
  h.stands (Nxt.laid hp) rfl (fun a _ u e => by rw [upd_ne (ne_of_none e hp)]; exact e) (fun a z => let ⟨u, e, nt⟩ := h.tF a z; ⟨u, by rw [upd_ne (ne_of_none e hp)]; exact e, nt⟩) fun a ps e => by rw [upd_ne (ne_of_none e hp)]; exact e
theorem PostE.tup {C : Ct} {w : Wd} {m : Mh} {H : Hp} {ds : List D} {vs : List V} {Q : VK} (p : PostE C w H (.d (.tuple ds)) m Q) (h : RelH C w m H) (r : RelDs w.F H ds vs) {a : Addr} (ha : H a = none) : Q (.ref a) (upd H a (.tup vs)) :=
  p w _ _ (Nxt.laid ha) (h.laid ha) ⟨a, vs, rfl, upd_same, RelDs.stp ((Nxt.laid ha).stp h) ds vs r⟩ trivial
theorem PostE.lst {C : Ct} {w : Wd} {m : Mh} {H : Hp} {ds : List D} {vs : List V} {Q : VK} (p : PostE C w H (.tmp (.list ds)) m Q) (h : RelH C w m H) (r : RelDs w.F H ds vs) {a : Addr} (ha : H a = none) : Q (.ref a) (upd H a (.lst vs)) :=
  p w _ _ (Nxt.laid ha) (h.laid ha) ⟨a, rfl, fun z => (by obtain ⟨o, e, _⟩ := h.tF a z; rw [ha] at e; cases e), h.fresh ha, vs, upd_same, RelDs.stp ((Nxt.laid ha).stp h) ds vs r⟩ fun b e => by cases e; exact ha
end
end M

namespace M
open PySem PySem.Spec PyProof.Rows L2
variable [Tb]
structure Good (X : Cx) : Prop where
  calm : X.calm = true
  nd : X.N.Nodup
  hu : X.A.units + 150 < cLine
  np : PassesOwn (model X.prog X.w) X.A X.env X.xe
theorem Good.blk {X : Cx} (G : Good X) {s : Shared} {H : Hp} {scope : Scope} {cenv : Env} {fp : List Addr} : Good (X.blk s H scope cenv fp) := ⟨G.calm, G.nd, G.hu, PassesOwn.never⟩
section
variable {X : Cx} {e a b : Expr} {c ca cb : CE} {pos : Pos}
def addG : D → D → Option U
  | .int a, .int b => some (.d (.int (a + b)))
  | .tuple a, .tuple b => if a.length + b.length ≤ sizeLine then some (.d (.tuple (a ++ b))) else none
  | .list a, .list b => if a.length + b.length ≤ sizeLine then some (.tmp (.list (a ++ b))) else none
  | .str a, .str b => if a.length + b.length ≤ sizeLine then some (.d (.str (a ++ b))) else none
  | _, _ => none
def rAddA (K : PySem.W.Frag) : R2 := fun x y H Q => rI0 (fun i j => .int (i + j)) x y H Q ∨ rCatA K x y H Q ∨ rCat x y H Q ∨ ∃ i j, x = .str i ∧ y = .str j ∧ i.length + j.length ≤ sizeLine ∧ Q (.str (i ++ j)) H
theorem op_addA : OpR X (binaryOp .Add) (rAddA X.K) := OpR.or op_add (OpR.or op_catA (OpR.or op_cat op_add_str))
theorem o2_add {C : Ct} : O2 C (rAddA C.K) addG := fun w m H x y u v z Q hh r1 r2 e p => by
  cases x with
  | int i =>
    cases y with
    | int j =>
      cases e
      exact .inl ⟨i, j, r1, r2, p.now hh rfl⟩
    | _ => cases e
  | str i =>
    cases y with
    | str j =>
      unfold addG at e
      simp only at e
      split at e
      · rename_i hc
        cases e
        exact .inr (.inr (.inr ⟨i, j, r1, r2, hc, p.now hh rfl⟩))
      · cases e
    | _ => cases e
  | list xs =>
    cases y with
    | list ys =>
      unfold addG at e
      simp only at e
      split at e
      · rename_i hc
        cases e
        obtain ⟨a, vs, rfl, h1, h2⟩ := r1
        obtain ⟨b, ws, rfl, h3, h4⟩ := r2
        refine .inr (.inr (.inl ⟨a, b, vs, ws, rfl, rfl, h1, h3, by rw [← h2.len, ← h4.len]; exact hc, fun q hq => p.lst hh (h2.app h4) hq⟩))
      · cases e
    | _ => cases e
  | tuple xs =>
    cases y with
    | tuple ys =>
      unfold addG at e
      simp only at e
      split at e
      · rename_i hc
        cases e
        have R1 := r1
        have R2 := r2
        obtain ⟨a, vs, rfl, h1, h2⟩ := r1
        obtain ⟨b, ws, rfl, h3, h4⟩ := r2
        refine .inr (.inl ⟨a, b, vs, ws, rfl, rfl, SqT.of h1, SqT.of h3, by rw [← h2.len, ← h4.len]; exact hc, fun e1 => ?_, fun _ e2 => ?_, fun _ _ q hq => p.tup hh (h2.app h4) hq⟩)
        · have : xs = [] := by
            have := h2.len
            rw [e1] at this
            exact List.length_eq_zero_iff.mp this
          subst this
          exact p.now hh R2
        · have : ys = [] := by
            have := h4.len
            rw [e2] at this
            exact List.length_eq_zero_iff.mp this
          subst this
          rw [List.append_nil] at p
          exact p.now hh R1
      · cases e
    | _ => cases e
  | _ => cases e
def cAdd : CE → CE → CE := c2 addG
theorem se_add (ha : SE X a ca) (hb : SE X b cb) : SE X (.BinOp a .Add b pos) (cAdd ca cb) := se_2 op_addA o2_add ha hb
def subG : D → D → Option U
  | .int a, .int b => some (.d (.int (a - b)))
  | _, _ => none
theorem o2_sub {C : Ct} : O2 C (rI0 fun i j => .int (i - j)) subG := fun w m H x y u v z Q hh r1 r2 e p => by
  cases x with
  | int i =>
    cases y with
    | int j =>
      cases e
      exact ⟨i, j, r1, r2, p.now hh rfl⟩
    | _ => cases e
  | _ => cases e
def cSub : CE → CE → CE := c2 subG
theorem se_sub (ha : SE X a ca) (hb : SE X b cb) : SE X (.BinOp a .Sub b pos) (cSub ca cb) := se_2 op_sub o2_sub ha hb
def mulOk (i j : Int) : Bool := (decide (i.natAbs < 2 ^ 64) || decide (j.natAbs < 2 ^ 64)) || decide (i.natAbs.log2 + j.natAbs.log2 < 1000000)
def mulG : D → D → Option U
  | .int a, .int b => if mulOk a b = true then some (.d (.int (a * b))) else none
  | .list a, .int k => if k < 16777216 ∧ a.length * k.toNat ≤ sizeLine ∧ -16777216 < k then some (.tmp (.list (List.replicate k.toNat a).flatten)) else none
  | .tuple a, .int k => if a ≠ [] ∧ 2 ≤ k ∧ k ≤ 1000 ∧ a.length ≤ 1000 then some (.d (.tuple (List.replicate k.toNat a).flatten)) else none
  | _, _ => none
def rMulA (K : PySem.W.Frag) : R2 := fun x y H Q => rI CMul (fun i j => .int (i * j)) x y H Q ∨ rI CMulW (fun i j => .int (i * j)) x y H Q ∨ rRep x y H Q ∨ rRepT K x y H Q
theorem op_mulA : OpR X (binaryOp .Mult) (rMulA X.K) := OpR.or op_mul (OpR.or op_mulW (OpR.or op_rep op_repT))
theorem RelDs.rep {F : Addr → Prop} {H : Hp} {ds : List D} {vs : List V} (h : RelDs F H ds vs) : ∀ n : Nat, RelDs F H (List.replicate n ds).flatten (List.replicate n vs).flatten
  | 0 => rfl
  | n + 1 => by
    rw [List.replicate_succ, List.replicate_succ, List.flatten_cons, List.flatten_cons]
    exact h.app (RelDs.rep h n)
theorem o2_mul {C : Ct} : O2 C (rMulA C.K) mulG := fun w m H x y u v z Q hh r1 r2 e p => by
  cases x with
  | int i =>
    cases y with
    | int j =>
      unfold mulG at e
      simp only at e
      split at e
      · rename_i hc
        cases e
        unfold mulOk at hc
        rw [Bool.or_eq_true, Bool.or_eq_true, decide_eq_true_eq, decide_eq_true_eq, decide_eq_true_eq] at hc
        rcases hc with (hc | hc) | hc
        · exact .inl ⟨i, j, r1, r2, .inl (by omega), p.now hh rfl⟩
        · exact .inl ⟨i, j, r1, r2, .inr (by omega), p.now hh rfl⟩
        · exact .inr (.inl ⟨i, j, r1, r2, hc, p.now hh rfl⟩)
      · cases e
    | _ => cases e
  | list xs =>
    cases y with
    | int k =>
      unfold mulG at e
      simp only at e
      split at e
      · rename_i hc
        cases e
        obtain ⟨a, vs, rfl, h1, h2⟩ := r1
        refine .inr (.inr (.inl ⟨a, k, vs, rfl, r2, h1, by omega, by omega, by rw [← h2.len]; exact hc.2.1, fun q hq => p.lst hh (h2.rep _) hq⟩))
      · cases e
    | _ => cases e
  | tuple xs =>
    cases y with
    | int k =>
      unfold mulG at e
      simp only at e
      split at e
      · rename_i hc
        cases e
        obtain ⟨a, vs, rfl, h1, h2⟩ := r1
        refine .inr (.inr (.inr ⟨a, k, vs, rfl, r2, SqT.of h1, fun ez => hc.1 ?_, hc.2.1, hc.2.2.1, by rw [← h2.len]; exact hc.2.2.2, fun q hq => p.tup hh (h2.rep _) hq⟩))
        have := h2.len
        rw [ez] at this
        exact List.length_eq_zero_iff.mp this
      · cases e
    | _ => cases e
  | _ => cases e
def cMul : CE → CE → CE := c2 mulG
theorem se_mul (ha : SE X a ca) (hb : SE X b cb) : SE X (.BinOp a .Mult b pos) (cMul ca cb) := se_2 op_mulA o2_mul ha hb
def fdivI (a b : Int) : Int := if 0 < b then a / b else a.fdiv b
def fdivOk (b : Int) : Bool := (b != 0 && decide (b.natAbs < 1073741824)) || (decide (0 < b) && decide (b.natAbs.log2 < 9000))
def fdivG : D → D → Option U
  | .int a, .int b => if fdivOk b = true then some (.d (.int (fdivI a b))) else none
  | _, _ => none
def rFdA : R2 := fun x y H Q => rI CDivW (fun i j => .int (i / j)) x y H Q ∨ rI CDivN (fun i j => .int (i.fdiv j)) x y H Q
theorem op_fdA : OpR X (binaryOp .FloorDiv) rFdA := OpR.or op_fdivW op_fdivN
theorem o2_fdiv {C : Ct} : O2 C rFdA fdivG := fun w m H x y u v z Q hh r1 r2 e p => by
  cases x with
  | int i =>
    cases y with
    | int j =>
      unfold fdivG at e
      simp only at e
      split at e
      · rename_i hc
        cases e
        unfold fdivOk at hc
        rw [Bool.or_eq_true, Bool.and_eq_true, Bool.and_eq_true, decide_eq_true_eq, decide_eq_true_eq, decide_eq_true_eq] at hc
        rcases hc with hc | hc
        · refine .inr ⟨i, j, r1, r2, ⟨by simpa using hc.1, hc.2⟩, p.now hh ?_⟩
          show V.int _ = V.int _
          unfold fdivI
          split
          · rw [Int.fdiv_eq_ediv_of_nonneg _ (by omega)]
          · rfl
        · refine .inl ⟨i, j, r1, r2, hc, p.now hh ?_⟩
          show V.int _ = V.int _
          unfold fdivI
          rw [if_pos hc.1]
      · cases e
    | _ => cases e
  | _ => cases e
def cFdiv : CE → CE → CE := c2 fdivG
theorem se_fdiv (ha : SE X a ca) (hb : SE X b cb) : SE X (.BinOp a .FloorDiv b pos) (cFdiv ca cb) := se_2 op_fdA o2_fdiv ha hb
def fmodI (a b : Int) : Int := if 0 < b then a % b else a.fmod b
def modG : D → D → Option U
  | .int a, .int b => if b = 0 then none else some (.d (.int (fmodI a b)))
  | _, _ => none
theorem o2_mod {C : Ct} : O2 C (rI (fun _ j => j ≠ 0) fun i j => .int (i.fmod j)) modG := fun w m H x y u v z Q hh r1 r2 e p => by
  cases x with
  | int i =>
    cases y with
    | int j =>
      unfold modG at e
      simp only at e
      split at e
      · cases e
      · rename_i hc
        cases e
        refine ⟨i, j, r1, r2, hc, p.now hh ?_⟩
        show V.int _ = V.int _
        unfold fmodI
        split
        · rw [Int.fmod_eq_emod_of_nonneg _ (by omega)]
        · rfl
    | _ => cases e
  | _ => cases e
def cMod : CE → CE → CE := c2 modG
theorem se_mod (ha : SE X a ca) (hb : SE X b cb) : SE X (.BinOp a .Mod b pos) (cMod ca cb) := se_2 op_modN o2_mod ha hb
def powG : D → D → Option U
  | .int a, .int b => if 0 ≤ b ∧ b ≤ 1000000 ∧ a.natAbs < 2 ^ 64 then some (.d (.int (a ^ b.toNat))) else none
  | _, _ => none
theorem o2_pow {C : Ct} : O2 C (rI CPow fun i j => .int (i ^ j.toNat)) powG := fun w m H x y u v z Q hh r1 r2 e p => by
  cases x with
  | int i =>
    cases y with
    | int j =>
      unfold powG at e
      simp only at e
      split at e
      · rename_i hc
        cases e
        exact ⟨i, j, r1, r2, hc, p.now hh rfl⟩
      · cases e
    | _ => cases e
  | _ => cases e
def cPow : CE → CE → CE := c2 powG
theorem se_pow (ha : SE X a ca) (hb : SE X b cb) : SE X (.BinOp a .Pow b pos) (cPow ca cb) := se_2 op_pow o2_pow ha hb
def c1 (g : D → Option U) (ca : CE) : CE := fun ρ m => (ca ρ m).bind fun p => (valU p.2 p.1).bind fun x => (g x).map fun z => (z, p.2)
theorem bind1 {α : Type} {ρ : Sg} {m m' : Mh} {f : D → Option α} {z : α} (h : ((ca ρ m).bind fun p => (valU p.2 p.1).bind fun x => (f x).map fun z => (z, p.2)) = some (z, m')) :
    ∃ u1 x, ca ρ m = some (u1, m') ∧ valU m' u1 = some x ∧ f x = some z := by
  cases q : ca ρ m with
  | none => rw [q] at h; cases h
  | some p =>
    obtain ⟨u1, m1⟩ := p
    rw [q] at h
    simp only [Option.bind_some] at h
    cases q2 : valU m1 u1 with
    | none => rw [q2] at h; cases h
    | some x =>
      rw [q2] at h
      simp only [Option.bind_some] at h
      cases q5 : f x with
      | none => rw [q5] at h; cases h
      | some z' =>
        rw [q5] at h
        simp only [Option.map_some, Option.some.injEq, Prod.mk.injEq] at h
        obtain ⟨rfl, rfl⟩ := h
        exact ⟨u1, x, rfl, q2, q5⟩
def negG : D → Option U
  | .int a => some (.d (.int (-a)))
  | _ => none
def cNeg : CE → CE := c1 negG
theorem se_neg (ha : SE X a ca) : SE X (.UnaryOp .USub a pos) (cNeg ca) := (pe_un un_neg ha).imp fun σ H Q ⟨w, ρ, m, z, m', A, ec, p⟩ => by
  obtain ⟨u1, x, q1, q2, q3⟩ := bind1 ec
  refine ⟨w, ρ, m, u1, m', A, q1, fun w1 H1 v1 n1 h1 r1 _ => ?_⟩
  have r := valU_rel h1 r1 q2
  cases x with
  | int i =>
    cases q3
    exact ⟨i, r, (p.later n1).now h1 rfl⟩
  | _ => cases q3
def eqOk (x y : D) : Bool := (x.plain && y.plain) && (decide (x.depth ≤ 100) || decide (y.depth ≤ 100))
def eqB : D → D → Option Bool
  | .int a, .int b => some (decide (a = b))
  | x, y => if eqOk x y = true then some (PyData.eqv x y) else none
def neB (x y : D) : Option Bool := (eqB x y).map (!·)
theorem eqB_ok {x y : D} {k : Bool} (h : eqB x y = some k) : eqOk x y = true ∧ k = PyData.eqv x y := by
  unfold eqB at h
  split at h
  · cases h
    refine ⟨rfl, ?_⟩
    rw [PyData.eqv]
    exact (Bool.beq_eq_decide_eq _ _).symm
  · split at h
    · rename_i hc
      cases h
      exact ⟨hc, rfl⟩
    · cases h
def rEqP : R2 := fun u v H Q => ∃ F x y, RelR F H x u ∧ RelR F H y v ∧ eqOk x y = true ∧ Q (.bl (PyData.eqv x y)) H
def rNeP : R2 := fun u v H Q => ∃ F x y, RelR F H x u ∧ RelR F H y v ∧ eqOk x y = true ∧ Q (.bl (!PyData.eqv x y)) H
theorem eqOk_d {x y : D} (h : eqOk x y = true) : x.plain = true ∧ y.plain = true ∧ min x.depth y.depth ≤ 100 := by
  unfold eqOk at h
  rw [Bool.and_eq_true, Bool.and_eq_true, Bool.or_eq_true, decide_eq_true_eq, decide_eq_true_eq] at h
  exact ⟨h.1.1, h.1.2, by omega⟩
theorem op_eqP (G : Good X) : OpR X (compareOp .Eq) rEqP := fun pins s σ H x y v u Q I rx ry ⟨F, d, e, r1, r2, ok, q⟩ => by
  obtain ⟨p1, p2, p3⟩ := eqOk_d ok
  obtain ⟨as, ra⟩ := RelR.reads I p1 r1 rx
  obtain ⟨bs, rb⟩ := RelR.reads I p2 r2 ry
  exact SeqAt.eq_plain ra rb p1 p2 (by have := G.hu; omega) ⟨.bl _, H, I, rfl, q⟩
theorem op_neP (G : Good X) : OpR X (compareOp .NotEq) rNeP := fun pins s σ H x y v u Q I rx ry ⟨F, d, e, r1, r2, ok, q⟩ => by
  obtain ⟨p1, p2, p3⟩ := eqOk_d ok
  obtain ⟨as, ra⟩ := RelR.reads I p1 r1 rx
  obtain ⟨bs, rb⟩ := RelR.reads I p2 r2 ry
  exact SeqAt.ne_plain ra rb p1 p2 (by have := G.hu; omega) ⟨.bl _, H, I, rfl, q⟩
def ltOk (x y : D) : Bool := ((PySem.W.alike x y && !x.isNoneType) && (x.plain && y.plain)) && (decide (x.depth ≤ 100) || decide (y.depth ≤ 100))
theorem ltOk_d {x y : D} (h : ltOk x y = true) : PySem.W.alike x y = true ∧ x ≠ .none ∧ x.plain = true ∧ y.plain = true ∧ min x.depth y.depth ≤ 100 := by
  unfold ltOk at h
  rw [Bool.and_eq_true, Bool.and_eq_true, Bool.and_eq_true, Bool.and_eq_true, Bool.or_eq_true, decide_eq_true_eq, decide_eq_true_eq] at h
  exact ⟨h.1.1.1, fun e => by rw [e] at h; exact absurd h.1.1.2 (by decide), h.1.2.1, h.1.2.2, by omega⟩
def ltB : D → D → Option Bool
  | .int a, .int b => some (decide (a < b))
  | x, y => if ltOk x y = true then some (PySem.W.dataLt x y) else none
def gtB : D → D → Option Bool
  | .int a, .int b => some (decide (b < a))
  | x, y => if ltOk x y = true then some (PySem.W.dataLt y x) else none
def leB : D → D → Option Bool
  | .int a, .int b => some (decide (a ≤ b))
  | x, y => if ltOk x y = true then some (!PySem.W.dataLt y x) else none
def geB : D → D → Option Bool
  | .int a, .int b => some (decide (b ≤ a))
  | x, y => if ltOk x y = true then some (!PySem.W.dataLt x y) else none
def rCmpA (g : Int → Int → Bool) (k : D → D → Bool) : R2 := fun u v H Q => rI0 (fun i j => .bl (g i j)) u v H Q ∨ ∃ F x y, RelR F H x u ∧ RelR F H y v ∧ ltOk x y = true ∧ Q (.bl (k x y)) H
theorem op_ltA (G : Good X) : OpR X (compareOp .Lt) (rCmpA (fun i j => decide (i < j)) fun x y => PySem.W.dataLt x y) := OpR.or op_lt fun pins s σ H x y v u Q I rx ry ⟨F, d, e, r1, r2, ok, q⟩ => by
  obtain ⟨p1, p2, p3, p4, p5⟩ := ltOk_d ok
  obtain ⟨as, ra⟩ := RelR.reads I p3 r1 rx
  obtain ⟨bs, rb⟩ := RelR.reads I p4 r2 ry
  exact PySem.W.lt_data ra rb p1 p2 (by have := G.hu; omega) ⟨.bl _, H, I, rfl, q⟩
theorem op_gtA (G : Good X) : OpR X (compareOp .Gt) (rCmpA (fun i j => decide (j < i)) fun x y => PySem.W.dataLt y x) := OpR.or op_gt fun pins s σ H x y v u Q I rx ry ⟨F, d, e, r1, r2, ok, q⟩ => by
  obtain ⟨p1, p2, p3, p4, p5⟩ := ltOk_d ok
  obtain ⟨as, ra⟩ := RelR.reads I p3 r1 rx
  obtain ⟨bs, rb⟩ := RelR.reads I p4 r2 ry
  exact PySem.W.gt_data ra rb p1 p2 (by have := G.hu; omega) ⟨.bl _, H, I, rfl, q⟩
theorem op_leA (G : Good X) : OpR X (compareOp .LtE) (rCmpA (fun i j => decide (i ≤ j)) fun x y => !PySem.W.dataLt y x) := OpR.or op_le fun pins s σ H x y v u Q I rx ry ⟨F, d, e, r1, r2, ok, q⟩ => by
  obtain ⟨p1, p2, p3, p4, p5⟩ := ltOk_d ok
  obtain ⟨as, ra⟩ := RelR.reads I p3 r1 rx
  obtain ⟨bs, rb⟩ := RelR.reads I p4 r2 ry
  exact PySem.W.le_data ra rb p1 p2 (by have := G.hu; omega) ⟨.bl _, H, I, rfl, q⟩
theorem op_geA (G : Good X) : OpR X (compareOp .GtE) (rCmpA (fun i j => decide (j ≤ i)) fun x y => !PySem.W.dataLt x y) := OpR.or op_ge fun pins s σ H x y v u Q I rx ry ⟨F, d, e, r1, r2, ok, q⟩ => by
  obtain ⟨p1, p2, p3, p4, p5⟩ := ltOk_d ok
  obtain ⟨as, ra⟩ := RelR.reads I p3 r1 rx
  obtain ⟨bs, rb⟩ := RelR.reads I p4 r2 ry
  exact PySem.W.ge_data ra rb p1 p2 (by have := G.hu; omega) ⟨.bl _, H, I, rfl, q⟩
def O2B (C : Ct) (r : R2) (g : D → D → Option Bool) : Prop :=
  ∀ w m H x y u v k Q, RelH C w m H → RelR w.F H x u → RelR w.F H y v → g x y = some k → Q (.bl k) H → r u v H Q
theorem o2b_eq {C : Ct} : O2B C rEqP eqB := fun w m H x y u v k Q hh r1 r2 e q => by
  obtain ⟨ok, rfl⟩ := eqB_ok e
  exact ⟨w.F, x, y, r1, r2, ok, q⟩
theorem o2b_ne {C : Ct} : O2B C rNeP neB := fun w m H x y u v k Q hh r1 r2 e q => by
  unfold neB at e
  rw [Option.map_eq_some_iff] at e
  obtain ⟨k', e, rfl⟩ := e
  obtain ⟨ok, rfl⟩ := eqB_ok e
  exact ⟨w.F, x, y, r1, r2, ok, q⟩
theorem o2b_cmp {C : Ct} {g : Int → Int → Bool} {k : D → D → Bool} {gb : D → D → Option Bool} (h : ∀ x y z, gb x y = some z → (∃ i j, x = .int i ∧ y = .int j ∧ z = g i j) ∨ (ltOk x y = true ∧ z = k x y)) : O2B C (rCmpA g k) gb := fun w m H x y u v z Q hh r1 r2 e q => by
  rcases h x y z e with ⟨i, j, rfl, rfl, rfl⟩ | ⟨ok, rfl⟩
  · exact .inl ⟨i, j, r1, r2, q⟩
  · exact .inr ⟨w.F, x, y, r1, r2, ok, q⟩
theorem o2b_lt {C : Ct} : O2B C (rCmpA (fun i j => decide (i < j)) fun x y => PySem.W.dataLt x y) ltB := o2b_cmp fun x y z h => by
  unfold ltB at h
  split at h
  · cases h; exact .inl ⟨_, _, rfl, rfl, rfl⟩
  · split at h
    · cases h; rename_i hc; exact .inr ⟨hc, rfl⟩
    · cases h
theorem o2b_gt {C : Ct} : O2B C (rCmpA (fun i j => decide (j < i)) fun x y => PySem.W.dataLt y x) gtB := o2b_cmp fun x y z h => by
  unfold gtB at h
  split at h
  · cases h; exact .inl ⟨_, _, rfl, rfl, rfl⟩
  · split at h
    · cases h; rename_i hc; exact .inr ⟨hc, rfl⟩
    · cases h
theorem o2b_le {C : Ct} : O2B C (rCmpA (fun i j => decide (i ≤ j)) fun x y => !PySem.W.dataLt y x) leB := o2b_cmp fun x y z h => by
  unfold leB at h
  split at h
  · cases h; exact .inl ⟨_, _, rfl, rfl, rfl⟩
  · split at h
    · cases h; rename_i hc; exact .inr ⟨hc, rfl⟩
    · cases h
theorem o2b_ge {C : Ct} : O2B C (rCmpA (fun i j => decide (j ≤ i)) fun x y => !PySem.W.dataLt x y) geB := o2b_cmp fun x y z h => by
  unfold geB at h
  split at h
  · cases h; exact .inl ⟨_, _, rfl, rfl, rfl⟩
  · split at h
    · cases h; rename_i hc; exact .inr ⟨hc, rfl⟩
    · cases h
def vB (g : D → D → Option Bool) : D → D → Option U := fun x y => (g x y).map fun k => .d (.bool k)
theorem O2B.v {C : Ct} {r : R2} {g : D → D → Option Bool} (h : O2B C r g) : O2 C r (vB g) := fun w m H x y u v z Q hh r1 r2 e p => by
  unfold vB at e
  rw [Option.map_eq_some_iff] at e
  obtain ⟨k, e, rfl⟩ := e
  exact h w m H x y u v k Q hh r1 r2 e (p.now hh rfl)
theorem se_cmp {op : CmpOp} {r : R2} {g : D → D → Option Bool} (ho : OpR X (compareOp op) r) (o : O2B X.ct r g) (ha : SE X a ca) (hb : SE X b cb) (hm : behindInMarks op b = false) : SE X (.Compare a [op] [b] pos) (c2 (vB g) ca cb) := (pe_cmpR ho ha hb hm).imp (imp_2 o.v)
theorem sb_cmp {op : CmpOp} {r : R2} {g : D → D → Option Bool} (ho : OpR X (compareOp op) r) (o : O2B X.ct r g) (ha : SE X a ca) (hb : SE X b cb) (hm : behindInMarks op b = false) : SB X (.Compare a [op] [b] pos) (cB2 g ca cb) := (pt_cmpR ho ha hb hm).imp fun σ H Q ⟨w, ρ, m, k, m', A, ec, p⟩ => by
  obtain ⟨u1, m1, u2, x, y, q1, q2, q3, q4, q5⟩ := bind2 ec
  refine ⟨w, ρ, m, u1, m1, A, q1, fun w1 H1 v1 n1 h1 r1 _ => ?_⟩
  refine ⟨w1, ρ, m1, u2, m', A.nxt n1 h1, q2, fun w2 H2 v2 n2 h2 r2 _ => ?_⟩
  exact o w2 m' H2 x y v1 v2 k _ h2 (valU_rel h2 (RelU.nxt n2 h1 r1) q3) (valU_rel h2 r2 q4) q5 ⟨k, rfl, p w2 H2 (n1.trans n2) h2⟩
def cEq := c2 (vB eqB)
def cNe := c2 (vB neB)
def cLt := c2 (vB ltB)
def cLe := c2 (vB leB)
def cGt := c2 (vB gtB)
def cGe := c2 (vB geB)
def bEq := cB2 eqB
def bNe := cB2 neB
def bLt := cB2 ltB
def bLe := cB2 leB
def bGt := cB2 gtB
def bGe := cB2 geB
theorem se_eq (G : Good X) (ha : SE X a ca) (hb : SE X b cb) : SE X (.Compare a [.Eq] [b] pos) (cEq ca cb) := se_cmp (op_eqP G) o2b_eq ha hb (nomark _)
theorem se_ne (G : Good X) (ha : SE X a ca) (hb : SE X b cb) : SE X (.Compare a [.NotEq] [b] pos) (cNe ca cb) := se_cmp (op_neP G) o2b_ne ha hb (nomark _)
theorem se_lt (G : Good X) (ha : SE X a ca) (hb : SE X b cb) : SE X (.Compare a [.Lt] [b] pos) (cLt ca cb) := se_cmp (op_ltA G) o2b_lt ha hb (nomark _)
theorem se_le (G : Good X) (ha : SE X a ca) (hb : SE X b cb) : SE X (.Compare a [.LtE] [b] pos) (cLe ca cb) := se_cmp (op_leA G) o2b_le ha hb (nomark _)
theorem se_gt (G : Good X) (ha : SE X a ca) (hb : SE X b cb) : SE X (.Compare a [.Gt] [b] pos) (cGt ca cb) := se_cmp (op_gtA G) o2b_gt ha hb (nomark _)
theorem se_ge (G : Good X) (ha : SE X a ca) (hb : SE X b cb) : SE X (.Compare a [.GtE] [b] pos) (cGe ca cb) := se_cmp (op_geA G) o2b_ge ha hb (nomark _)
theorem sb_eq (G : Good X) (ha : SE X a ca) (hb : SE X b cb) : SB X (.Compare a [.Eq] [b] pos) (bEq ca cb) := sb_cmp (op_eqP G) o2b_eq ha hb (nomark _)
theorem sb_ne (G : Good X) (ha : SE X a ca) (hb : SE X b cb) : SB X (.Compare a [.NotEq] [b] pos) (bNe ca cb) := sb_cmp (op_neP G) o2b_ne ha hb (nomark _)
theorem sb_lt (G : Good X) (ha : SE X a ca) (hb : SE X b cb) : SB X (.Compare a [.Lt] [b] pos) (bLt ca cb) := sb_cmp (op_ltA G) o2b_lt ha hb (nomark _)
theorem sb_le (G : Good X) (ha : SE X a ca) (hb : SE X b cb) : SB X (.Compare a [.LtE] [b] pos) (bLe ca cb) := sb_cmp (op_leA G) o2b_le ha hb (nomark _)
theorem sb_gt (G : Good X) (ha : SE X a ca) (hb : SE X b cb) : SB X (.Compare a [.Gt] [b] pos) (bGt ca cb) := sb_cmp (op_gtA G) o2b_gt ha hb (nomark _)
theorem sb_ge (G : Good X) (ha : SE X a ca) (hb : SE X b cb) : SB X (.Compare a [.GtE] [b] pos) (bGe ca cb) := sb_cmp (op_geA G) o2b_ge ha hb (nomark _)
def isB (n : Bool) : D → D → Option Bool
  | .bool a, .bool b => some (decide (a = b) != n)
  | .none, .none => some (!n)
  | .int _, .none => some n
  | .bool _, .none => some n
  | .str _, .none => some n
  | .list _, .none => some n
  | .tuple _, .none => some n
  | .dict _, .none => some n
  | _, _ => none
def rIsA : R2 := fun x y H Q => rIsB x y H Q ∨ (y = .non ∧ Q (.bl (decide (x = .non))) H)
def rIsNotA : R2 := fun x y H Q => rNotB x y H Q ∨ (y = .non ∧ Q (.bl (!decide (x = .non))) H)
theorem relR_non {F : Addr → Prop} {H : Hp} {x : D} {v : V} (r : RelR F H x v) : decide (v = .non) = x.isNoneType := by
  cases x with
  | none => have e : v = .non := r; subst e; rfl
  | bool b => have e : v = .bl b := r; subst e; rfl
  | int b => have e : v = .int b := r; subst e; rfl
  | str b => have e : v = .str b := r; subst e; rfl
  | list _ => obtain ⟨a, vs, rfl, _⟩ := r; rfl
  | tuple _ => obtain ⟨a, vs, rfl, _⟩ := r; rfl
  | dict _ => obtain ⟨a, rfl, _⟩ := r; rfl
theorem isB_ok {n : Bool} {x y : D} {k : Bool} (h : isB n x y = some k) : (∃ a b, x = .bool a ∧ y = .bool b ∧ k = (decide (a = b) != n)) ∨ (y = .none ∧ k = (x.isNoneType != n)) := by
  unfold isB at h
  split at h
  all_goals first
    | (cases h; exact .inl ⟨_, _, rfl, rfl, rfl⟩)
    | (cases h; cases n <;> exact .inr ⟨rfl, rfl⟩)
    | cases h
theorem o2b_is {C : Ct} : O2B C rIsA (isB false) := fun w m H x y u v k Q hh r1 r2 e q => by
  rcases isB_ok e with ⟨a, b, rfl, rfl, rfl⟩ | ⟨rfl, rfl⟩
  · exact .inl ⟨a, b, r1, r2, by simpa using q⟩
  · exact .inr ⟨r2, by rw [relR_non r1]; simpa using q⟩
theorem o2b_isn {C : Ct} : O2B C rIsNotA (isB true) := fun w m H x y u v k Q hh r1 r2 e q => by
  rcases isB_ok e with ⟨a, b, rfl, rfl, rfl⟩ | ⟨rfl, rfl⟩
  · exact .inl ⟨a, b, r1, r2, by simpa using q⟩
  · exact .inr ⟨r2, by rw [relR_non r1]; simpa using q⟩
def cIs := c2 (vB (isB false))
def cIsN := c2 (vB (isB true))
def bIs := cB2 (isB false)
def bIsN := cB2 (isB true)
theorem se_is (ha : SE X a ca) (hb : SE X b cb) : SE X (.Compare a [.Is] [b] pos) (cIs ca cb) := se_cmp (OpR.or op_isBl op_isN) o2b_is ha hb (nomark _)
theorem sb_is (ha : SE X a ca) (hb : SE X b cb) : SB X (.Compare a [.Is] [b] pos) (bIs ca cb) := sb_cmp (OpR.or op_isBl op_isN) o2b_is ha hb (nomark _)
theorem se_isn (ha : SE X a ca) (hb : SE X b cb) : SE X (.Compare a [.IsNot] [b] pos) (cIsN ca cb) := se_cmp (OpR.or op_notBl op_notN) o2b_isn ha hb (nomark _)
theorem sb_isn (ha : SE X a ca) (hb : SE X b cb) : SB X (.Compare a [.IsNot] [b] pos) (bIsN ca cb) := sb_cmp (OpR.or op_notBl op_notN) o2b_isn ha hb (nomark _)
def memD (ys : List D) (x : D) : Bool := ys.any fun y => PyData.eqv y x
def inOk (ys : List D) (x : D) : Bool := (PyData.plainAll ys && x.plain) && (decide (PyData.depthAll ys ≤ 100) || decide (x.depth ≤ 100))
def inB (n : Bool) : D → D → Option Bool
  | x, .list ys => if inOk ys x = true then some (memD ys x != n) else none
  | x, .tuple ys => if inOk ys x = true then some (memD ys x != n) else none
  | _, _ => none
def rInA (n : Bool) : R2 := fun u v H Q => ∃ F x ys, RelR F H x u ∧ (RelR F H (.list ys) v ∨ RelR F H (.tuple ys) v) ∧ inOk ys x = true ∧ Q (.bl (memD ys x != n)) H
theorem inOk_d {ys : List D} {x : D} (h : inOk ys x = true) : PyData.plainAll ys = true ∧ x.plain = true ∧ min (PyData.depthAll ys) x.depth ≤ 100 := by
  unfold inOk at h
  rw [Bool.and_eq_true, Bool.and_eq_true, Bool.or_eq_true, decide_eq_true_eq, decide_eq_true_eq] at h
  exact ⟨h.1.1, h.1.2, by omega⟩
theorem op_inA (G : Good X) : OpR X (compareOp .In) (rInA false) := fun pins s σ H x y v u Q I rx ry ⟨F, d, ys, r1, r2, ok, q⟩ => by
  obtain ⟨p1, p2, p3⟩ := inOk_d ok
  obtain ⟨as, ra⟩ := RelR.reads I p2 r1 rx
  have q' : Q (.bl (ys.any fun y => PyData.eqv y d)) H := by
    have : (memD ys d != false) = memD ys d := by simp
    rw [this] at q
    exact q
  rcases r2 with r2 | r2
  · obtain ⟨bs, rb⟩ := RelR.reads I (show (PyData.list ys).plain = true from p1) r2 ry
    exact SeqAt.in_list_data rb ra p1 p2 (by have := G.hu; omega) ⟨.bl _, H, I, rfl, q'⟩
  · obtain ⟨bs, rb⟩ := RelR.reads I (show (PyData.tuple ys).plain = true from p1) r2 ry
    exact SeqAt.in_tuple_data rb ra p1 p2 (by have := G.hu; omega) ⟨.bl _, H, I, rfl, q'⟩
theorem op_notInA (G : Good X) : OpR X (compareOp .NotIn) (rInA true) := fun pins s σ H x y v u Q I rx ry ⟨F, d, ys, r1, r2, ok, q⟩ => by
  obtain ⟨p1, p2, p3⟩ := inOk_d ok
  obtain ⟨as, ra⟩ := RelR.reads I p2 r1 rx
  have q' : Q (.bl (!ys.any fun y => PyData.eqv y d)) H := by
    have : (memD ys d != true) = !memD ys d := by simp
    rw [this] at q
    exact q
  rcases r2 with r2 | r2
  · obtain ⟨bs, rb⟩ := RelR.reads I (show (PyData.list ys).plain = true from p1) r2 ry
    exact SeqAt.notIn_list_data rb ra p1 p2 (by have := G.hu; omega) ⟨.bl _, H, I, rfl, q'⟩
  · obtain ⟨bs, rb⟩ := RelR.reads I (show (PyData.tuple ys).plain = true from p1) r2 ry
    exact SeqAt.notIn_tuple_data rb ra p1 p2 (by have := G.hu; omega) ⟨.bl _, H, I, rfl, q'⟩
theorem o2b_in {C : Ct} {n : Bool} : O2B C (rInA n) (inB n) := fun w m H x y u v k Q hh r1 r2 e q => by
  cases y with
  | list ys =>
    unfold inB at e
    simp only at e
    split at e
    · rename_i hc
      cases e
      exact ⟨w.F, x, ys, r1, .inl r2, hc, q⟩
    · cases e
  | tuple ys =>
    unfold inB at e
    simp only at e
    split at e
    · rename_i hc
      cases e
      exact ⟨w.F, x, ys, r1, .inr r2, hc, q⟩
    · cases e
  | _ => cases e
def cIn := c2 (vB (inB false))
def cNotIn := c2 (vB (inB true))
def bIn := cB2 (inB false)
def bNotIn := cB2 (inB true)
theorem se_in (G : Good X) (ha : SE X a ca) (hb : SE X b cb) (hm : behindInMarks .In b = false := by rfl) : SE X (.Compare a [.In] [b] pos) (cIn ca cb) := se_cmp (op_inA G) o2b_in ha hb hm
theorem sb_in (G : Good X) (ha : SE X a ca) (hb : SE X b cb) (hm : behindInMarks .In b = false := by rfl) : SB X (.Compare a [.In] [b] pos) (bIn ca cb) := sb_cmp (op_inA G) o2b_in ha hb hm
theorem se_notin (G : Good X) (ha : SE X a ca) (hb : SE X b cb) (hm : behindInMarks .NotIn b = false := by rfl) : SE X (.Compare a [.NotIn] [b] pos) (cNotIn ca cb) := se_cmp (op_notInA G) o2b_in ha hb hm
theorem sb_notin (G : Good X) (ha : SE X a ca) (hb : SE X b cb) (hm : behindInMarks .NotIn b = false := by rfl) : SB X (.Compare a [.NotIn] [b] pos) (bNotIn ca cb) := sb_cmp (op_notInA G) o2b_in ha hb hm
end
end M

namespace M
open PySem PySem.Spec PyProof.Rows L2
variable [Tb]
section
variable {X : Cx} {e a b : Expr} {c ca cb : CE} {pos : Pos}
def truD : D → Option Bool
  | .none => some false
  | .bool b => some b
  | .int i => some (i != 0)
  | .str s => if s.length ≤ sizeLine then some ((s.length : Int) != 0) else none
  | .list xs => some (!xs.isEmpty)
  | .tuple xs => some (!xs.isEmpty)
  | .dict _ => none
theorem RelDs.emp {F : Addr → Prop} {H : Hp} {ds : List D} {vs : List V} (h : RelDs F H ds vs) : ds.isEmpty = vs.isEmpty := by
  have := h.len
  cases ds <;> cases vs <;> first | rfl | (simp at this)
theorem truD_ok {K : PySem.W.Frag} {F : Addr → Prop} {H : Hp} {x : D} {v : V} {k : Bool} (r : RelR F H x v) (e : truD x = some k) : TruV K v H k := by
  cases x with
  | none => cases e; have e : v = .non := r; subst e; rfl
  | bool b => have ev : v = .bl b := r; cases e; subst ev; rfl
  | int b => have ev : v = .int b := r; cases e; subst ev; rfl
  | str b =>
    have ev : v = .str b := r
    subst ev
    unfold truD at e
    simp only at e
    split at e
    · rename_i hc
      cases e
      exact ⟨hc, rfl⟩
    · cases e
  | list xs =>
    cases e
    obtain ⟨a, vs, rfl, h1, h2⟩ := r
    exact .inl ⟨vs, SqL.of h1, by rw [h2.emp]⟩
  | tuple xs =>
    cases e
    obtain ⟨a, vs, rfl, h1, h2⟩ := r
    exact .inr (.inl ⟨vs, SqT.of h1, by rw [h2.emp]⟩)
  | dict _ => cases e
def bTru (ca : CE) : CB := fun ρ m => (ca ρ m).bind fun p => (valU p.2 p.1).bind fun x => (truD x).map fun k => (k, p.2)
theorem sb_tru (ha : SE X a ca) (he : ∀ whole, isTrue a X.env whole = (do let v ← whole; standAt a.pos; holding [v] (truthy v)) := by intro _; rfl) : SB X a (bTru ca) := (pt_truth ha he).imp fun σ H Q ⟨w, ρ, m, k, m', A, ec, p⟩ => by
  obtain ⟨u1, x, q1, q2, q3⟩ := bind1 ec
  exact ⟨w, ρ, m, u1, m', A, q1, fun w1 H1 v1 n1 h1 r1 _ => ⟨k, truD_ok (valU_rel h1 r1 q2) q3, p w1 H1 n1 h1⟩⟩
def bNot (t : CB) : CB := fun ρ m => (t ρ m).map fun p => (!p.1, p.2)
theorem sb_not {t : CB} (h : SB X a t) : SB X (.UnaryOp .Not a pos) (bNot t) := (pt_not h).imp fun σ H Q ⟨w, ρ, m, k, m', A, ec, p⟩ => by
  unfold bNot at ec
  rw [Option.map_eq_some_iff] at ec
  obtain ⟨⟨k', m1⟩, q, e⟩ := ec
  cases e
  exact ⟨w, ρ, m, k', _, A, q, fun w1 H1 n1 h1 => p w1 H1 n1 h1⟩
def bAnd (t u : CB) : CB := fun ρ m => (t ρ m).bind fun p => if p.1 = true then u ρ p.2 else some (false, p.2)
def bOr (t u : CB) : CB := fun ρ m => (t ρ m).bind fun p => if p.1 = true then some (true, p.2) else u ρ p.2
theorem sw_and1 {t : CB} (h : SB X a t) : SWh X (.BoolOp .And [a] pos) t := pw_and1 h
theorem sw_or1 {t : CB} (h : SB X a t) : SWh X (.BoolOp .Or [a] pos) t := pw_or1 h
theorem sw_and {rest : List Expr} {t u : CB} (ha : SB X a t) (hb : SWh X (.BoolOp .And (b :: rest) pos) u) : SWh X (.BoolOp .And (a :: b :: rest) pos) (bAnd t u) := (pw_and ha hb).imp fun σ H Q ⟨w, ρ, m, k, m', A, ec, p⟩ => by
  unfold bAnd at ec
  cases q : t ρ m with
  | none => rw [q] at ec; cases ec
  | some r =>
    obtain ⟨k1, m1⟩ := r
    rw [q, Option.bind_some] at ec
    refine ⟨w, ρ, m, k1, m1, A, q, fun w1 H1 n1 h1 => ?_⟩
    cases k1 with
    | true =>
      rw [if_pos rfl]
      exact ⟨w1, ρ, m1, k, m', A.nxt n1 h1, ec, fun w2 H2 n2 h2 => p w2 H2 (n1.trans n2) h2⟩
    | false =>
      rw [if_neg Bool.false_ne_true]
      cases ec
      exact p w1 H1 n1 h1
theorem sw_or {rest : List Expr} {t u : CB} (ha : SB X a t) (hb : SWh X (.BoolOp .Or (b :: rest) pos) u) : SWh X (.BoolOp .Or (a :: b :: rest) pos) (bOr t u) := (pw_or ha hb).imp fun σ H Q ⟨w, ρ, m, k, m', A, ec, p⟩ => by
  unfold bOr at ec
  cases q : t ρ m with
  | none => rw [q] at ec; cases ec
  | some r =>
    obtain ⟨k1, m1⟩ := r
    rw [q, Option.bind_some] at ec
    refine ⟨w, ρ, m, k1, m1, A, q, fun w1 H1 n1 h1 => ?_⟩
    cases k1 with
    | false =>
      rw [if_neg Bool.false_ne_true]
      exact ⟨w1, ρ, m1, k, m', A.nxt n1 h1, ec, fun w2 H2 n2 h2 => p w2 H2 (n1.trans n2) h2⟩
    | true =>
      rw [if_pos rfl]
      cases ec
      exact p w1 H1 n1 h1
theorem sb_w {t : CB} (h : SWh X e t) : SB X e t := PW.pt h
def cNotV (ca : CE) : CE := fun ρ m => (ca ρ m).bind fun p => (valU p.2 p.1).bind fun x => (truD x).map fun k => (.d (.bool (!k)), p.2)
theorem se_not (ha : SE X a ca) : SE X (.UnaryOp .Not a pos) (cNotV ca) := (pe_notT ha).imp fun σ H Q ⟨w, ρ, m, z, m', A, ec, p⟩ => by
  have ec' : ((ca ρ m).bind fun p => (valU p.2 p.1).bind fun x => ((truD x).map fun k => U.d (.bool (!k))).map fun z => (z, p.2)) = some (z, m') := by
    rw [← ec]
    unfold cNotV
    cases ca ρ m with
    | none => rfl
    | some r =>
      simp only [Option.bind_some]
      cases valU r.2 r.1 with
      | none => rfl
      | some x =>
        simp only [Option.bind_some]
        cases truD x <;> rfl
  obtain ⟨u1, x, q1, q2, q3⟩ := bind1 (f := fun x => (truD x).map fun k => U.d (.bool (!k))) ec'
  simp only [Option.map_eq_some_iff] at q3
  obtain ⟨k, q3, rfl⟩ := q3
  exact ⟨w, ρ, m, u1, m', A, q1, fun w1 H1 v1 n1 h1 r1 _ => ⟨k, truD_ok (valU_rel h1 r1 q2) q3, (p.later n1).now h1 rfl⟩⟩
def cAndV (ca cb : CE) : CE := fun ρ m => (ca ρ m).bind fun p => match p.1 with
  | .d x => (truD x).bind fun k => if k = true then cb ρ p.2 else some (.d x, p.2)
  | _ => none
def cOrV (ca cb : CE) : CE := fun ρ m => (ca ρ m).bind fun p => match p.1 with
  | .d x => (truD x).bind fun k => if k = true then some (.d x, p.2) else cb ρ p.2
  | _ => none
theorem se_one {op : BoolOp} (h : SE X a ca) : SE X (.BoolOp op [a] pos) ca := pe_one h
theorem se_and {rest : List Expr} (ha : SE X a ca) (hb : SE X (.BoolOp .And (b :: rest) pos) cb) : SE X (.BoolOp .And (a :: b :: rest) pos) (cAndV ca cb) := (pe_andT ha hb).imp fun σ H Q ⟨w, ρ, m, z, m', A, ec, p⟩ => by
  unfold cAndV at ec
  cases q : ca ρ m with
  | none => rw [q] at ec; cases ec
  | some r =>
    obtain ⟨u1, m1⟩ := r
    rw [q, Option.bind_some] at ec
    cases u1 with
    | d x =>
      simp only at ec
      cases q2 : truD x with
      | none => rw [q2] at ec; cases ec
      | some k =>
        rw [q2, Option.bind_some] at ec
        refine ⟨w, ρ, m, .d x, m1, A, q, fun w1 H1 v1 n1 h1 r1 _ => ⟨k, truD_ok r1.r q2, ?_⟩⟩
        cases k with
        | true =>
          rw [if_pos rfl]
          exact ⟨w1, ρ, m1, z, m', A.nxt n1 h1, ec, p.later n1⟩
        | false =>
          rw [if_neg Bool.false_ne_true]
          cases ec
          exact (p.later n1).now h1 r1
    | _ => cases ec
theorem se_or {rest : List Expr} (ha : SE X a ca) (hb : SE X (.BoolOp .Or (b :: rest) pos) cb) : SE X (.BoolOp .Or (a :: b :: rest) pos) (cOrV ca cb) := (pe_orT ha hb).imp fun σ H Q ⟨w, ρ, m, z, m', A, ec, p⟩ => by
  unfold cOrV at ec
  cases q : ca ρ m with
  | none => rw [q] at ec; cases ec
  | some r =>
    obtain ⟨u1, m1⟩ := r
    rw [q, Option.bind_some] at ec
    cases u1 with
    | d x =>
      simp only at ec
      cases q2 : truD x with
      | none => rw [q2] at ec; cases ec
      | some k =>
        rw [q2, Option.bind_some] at ec
        refine ⟨w, ρ, m, .d x, m1, A, q, fun w1 H1 v1 n1 h1 r1 _ => ⟨k, truD_ok r1.r q2, ?_⟩⟩
        cases k with
        | false =>
          rw [if_neg Bool.false_ne_true]
          exact ⟨w1, ρ, m1, z, m', A.nxt n1 h1, ec, p.later n1⟩
        | true =>
          rw [if_pos rfl]
          cases ec
          exact (p.later n1).now h1 r1
    | _ => cases ec
def cIf (t : CB) (ca cb : CE) : CE := fun ρ m => (t ρ m).bind fun p => if p.1 = true then ca ρ p.2 else cb ρ p.2
theorem se_if {t : CB} {g : Expr} (hc : SB X g t) (ha : SE X a ca) (hb : SE X b cb) : SE X (.IfExp g a b pos) (cIf t ca cb) := (pe_ifExp hc ha hb).imp fun σ H Q ⟨w, ρ, m, z, m', A, ec, p⟩ => by
  unfold cIf at ec
  cases q : t ρ m with
  | none => rw [q] at ec; cases ec
  | some r =>
    obtain ⟨k1, m1⟩ := r
    rw [q, Option.bind_some] at ec
    refine ⟨w, ρ, m, k1, m1, A, q, fun w1 H1 n1 h1 => ?_⟩
    cases k1 with
    | false =>
      rw [if_neg Bool.false_ne_true] at ec ⊢
      exact ⟨w1, ρ, m1, z, m', A.nxt n1 h1, ec, p.later n1⟩
    | true =>
      rw [if_pos rfl] at ec ⊢
      exact ⟨w1, ρ, m1, z, m', A.nxt n1 h1, ec, p.later n1⟩
def bChain (g g' : D → D → Option Bool) (ca cb cc : CE) : CB := fun ρ m => (ca ρ m).bind fun p => (cb ρ p.2).bind fun q => (valU q.2 p.1).bind fun x => (valU q.2 q.1).bind fun y => (g x y).bind fun k =>
  if k = true then (cc ρ q.2).bind fun r => (valU r.2 q.1).bind fun y => (valU r.2 r.1).bind fun z => (g' y z).map fun k' => (k', r.2) else some (false, q.2)
theorem sb_chain {op op' : CmpOp} {r r' : R2} {g g' : D → D → Option Bool} {d : Expr} {cc : CE} (ho : OpR X (compareOp op) r) (ho' : OpR X (compareOp op') r') (o : O2B X.ct r g) (o' : O2B X.ct r' g') (ha : SE X a ca) (hb : SE X b cb) (hc : SE X d cc)
    (hm : lastMarks [op, op'] [b, d] = false := by with_unfolding_all rfl) : SB X (.Compare a [op, op'] [b, d] pos) (bChain g g' ca cb cc) := (pt_chain ho ho' ha hb hc hm).imp fun σ H Q ⟨w, ρ, m, k, m', A, ec, p⟩ => by
  unfold bChain at ec
  cases q : ca ρ m with
  | none => rw [q] at ec; cases ec
  | some r1 =>
    obtain ⟨u1, m1⟩ := r1
    rw [q, Option.bind_some] at ec
    cases q2 : cb ρ m1 with
    | none => rw [q2] at ec; cases ec
    | some r2 =>
      obtain ⟨u2, m2⟩ := r2
      rw [q2, Option.bind_some] at ec
      simp only at ec
      cases q3 : valU m2 u1 with
      | none => rw [q3] at ec; cases ec
      | some x =>
        rw [q3, Option.bind_some] at ec
        cases q4 : valU m2 u2 with
        | none => rw [q4] at ec; cases ec
        | some y =>
          rw [q4, Option.bind_some] at ec
          cases q5 : g x y with
          | none => rw [q5] at ec; cases ec
          | some k1 =>
            rw [q5, Option.bind_some] at ec
            refine ⟨w, ρ, m, u1, m1, A, q, fun w1 H1 v1 n1 h1 r1 _ => ?_⟩
            refine ⟨w1, ρ, m1, u2, m2, A.nxt n1 h1, q2, fun w2 H2 v2 n2 h2 r2 _ => ?_⟩
            refine o w2 m2 H2 x y v1 v2 k1 _ h2 (valU_rel h2 (RelU.nxt n2 h1 r1) q3) (valU_rel h2 r2 q4) q5 ⟨k1, rfl, ?_⟩
            cases k1 with
            | false =>
              rw [if_neg Bool.false_ne_true] at ec ⊢
              cases ec
              exact ⟨false, rfl, p w2 H2 (n1.trans n2) h2⟩
            | true =>
              rw [if_pos rfl] at ec ⊢
              cases q6 : cc ρ m2 with
              | none => rw [q6] at ec; cases ec
              | some r3 =>
                obtain ⟨u3, m3⟩ := r3
                rw [q6, Option.bind_some] at ec
                simp only at ec
                cases q7 : valU m3 u2 with
                | none => rw [q7] at ec; cases ec
                | some y' =>
                  rw [q7, Option.bind_some] at ec
                  cases q8 : valU m3 u3 with
                  | none => rw [q8] at ec; cases ec
                  | some z =>
                    rw [q8, Option.bind_some, Option.map_eq_some_iff] at ec
                    obtain ⟨k2, q9, e9⟩ := ec
                    cases e9
                    refine ⟨w2, ρ, m2, u3, _, (A.nxt n1 h1).nxt n2 h2, q6, fun w3 H3 v3 n3 h3 r3 _ => ?_⟩
                    exact o' w3 _ H3 y' z v2 v3 k _ h3 (valU_rel h3 (RelU.nxt n3 h2 r2) q7) (valU_rel h3 r3 q8) q9 ⟨k, rfl, p w3 H3 ((n1.trans n2).trans n3) h3⟩
def caNil : CA := fun _ m => some ([], m)
def caCons (ca : CE) (t : CA) : CA := fun ρ m => (ca ρ m).bind fun p => (t ρ p.2).map fun q => (p.1 :: q.1, q.2)
theorem sa_nil : SA X [] caNil := pa_nil.imp fun σ H Q ⟨w, ρ, m, us, m', A, ec, p⟩ => by
  cases ec
  exact p w H [] Nxt.refl A.h rfl ⟨fun i x a e _ => by simp at e, fun i j x y a _ e _ _ => by simp at e⟩
theorem sa_cons {es : List Expr} {t : CA} (ha : SE X e ca) (hr : SA X es t) (hs : starEach (e :: es) X.env = (false, eval e X.env) :: starEach es X.env := by rfl) : SA X (e :: es) (caCons ca t) := (pa_cons ha hr hs).imp fun σ H Q ⟨w, ρ, m, us, m', A, ec, p⟩ => by
  unfold caCons at ec
  cases q : ca ρ m with
  | none => rw [q] at ec; cases ec
  | some r =>
    obtain ⟨u1, m1⟩ := r
    rw [q, Option.bind_some, Option.map_eq_some_iff] at ec
    obtain ⟨⟨us', m2⟩, q2, e⟩ := ec
    cases e
    refine ⟨w, ρ, m, u1, m1, A, q, fun w1 H1 v1 n1 h1 r1 f1 => ?_⟩
    refine ⟨w1, ρ, m1, us', _, A.nxt n1 h1, q2, fun w2 H2 vs n2 h2 r2 f2 => p w2 H2 (v1 :: vs) (n1.trans n2) h2 ⟨v1, vs, rfl, RelU.nxt n2 h1 r1, r2⟩ ?_⟩
    have no : ∀ x a, u1 = .tmp x → v1 = .ref a → H1 a ≠ none := fun x a e1 e2 => by
      subst e1
      obtain ⟨b, eb, _, _, g⟩ := r1
      rw [e2] at eb
      cases eb
      obtain ⟨o, ho, _⟩ := g.mut
      rw [ho]
      exact fun z => nomatch z
    refine ⟨fun i x a e1 e2 => ?_, fun i j x y a hij e1 e2 e3 e4 => ?_⟩
    · cases i with
      | zero =>
        simp only [List.getElem?_cons_zero, Option.some.injEq] at e1 e2
        subst e1
        exact f1 a e2
      | succ i =>
        rw [List.getElem?_cons_succ] at e1 e2
        exact n1.back (f2.fr i x a e1 e2)
    · cases i with
      | zero =>
        cases j with
        | zero => exact hij rfl
        | succ j =>
          simp only [List.getElem?_cons_zero, Option.some.injEq] at e1 e3
          rw [List.getElem?_cons_succ] at e2 e4
          exact no x a e1 e3 (f2.fr j y a e2 e4)
      | succ i =>
        rw [List.getElem?_cons_succ] at e1 e3
        cases j with
        | zero =>
          simp only [List.getElem?_cons_zero, Option.some.injEq] at e2 e4
          exact no y a e2 e4 (f2.fr i x a e1 e3)
        | succ j =>
          rw [List.getElem?_cons_succ] at e2 e4
          exact f2.ap i j x y a (fun z => hij (by rw [z])) e1 e2 e3 e4
def allD : List U → Option (List D)
  | [] => some []
  | .d x :: r => (allD r).map fun xs => x :: xs
  | _ => none
theorem allD_rel {C : Ct} {w : Wd} {H : Hp} : ∀ {us : List U} {vs : List V} {xs : List D}, allD us = some xs → RelUs C w H us vs → RelDs w.F H xs vs
  | [], vs, xs, e, r => by cases e; exact r
  | .d x :: us, vs, xs, e, ⟨v, r, ev, h1, h2⟩ => by
    have e' : ((allD us).map fun xs => x :: xs) = some xs := e
    rw [Option.map_eq_some_iff] at e'
    obtain ⟨ys, q, rfl⟩ := e'
    exact ⟨v, r, ev, h1, allD_rel q h2⟩
  | .ref _ :: _, _, _, e, _ => by cases e
  | .own _ :: _, _, _, e, _ => by cases e
  | .tmp _ :: _, _, _, e, _ => by cases e
  | .scr _ :: _, _, _, e, _ => by cases e
theorem allD_len : ∀ {us : List U} {xs : List D}, allD us = some xs → us.length = xs.length
  | [], xs, e => by cases e; rfl
  | .d x :: us, xs, e => by
    have e' : ((allD us).map fun xs => x :: xs) = some xs := e
    rw [Option.map_eq_some_iff] at e'
    obtain ⟨ys, q, rfl⟩ := e'
    simp [allD_len q]
  | .ref _ :: _, _, e => by cases e
  | .own _ :: _, _, e => by cases e
  | .tmp _ :: _, _, e => by cases e
  | .scr _ :: _, _, e => by cases e
def cDisp (f : List D → U) (t : CA) : CE := fun ρ m => (t ρ m).bind fun p => (allD p.1).bind fun xs => if xs.length ≤ 1000 then some (f xs, p.2) else none
theorem disp_ok {f : List D → U} {t : CA} {ρ : Sg} {m m' : Mh} {z : U} (h : cDisp f t ρ m = some (z, m')) : ∃ us xs, t ρ m = some (us, m') ∧ allD us = some xs ∧ xs.length ≤ 1000 ∧ z = f xs := by
  unfold cDisp at h
  cases q : t ρ m with
  | none => rw [q] at h; cases h
  | some r =>
    obtain ⟨us, m1⟩ := r
    rw [q, Option.bind_some] at h
    simp only at h
    cases q2 : allD us with
    | none => rw [q2] at h; cases h
    | some xs =>
      rw [q2, Option.bind_some] at h
      split at h
      · rename_i hc
        cases h
        exact ⟨us, xs, rfl, q2, hc, rfl⟩
      · cases h
def cTup (t : CA) : CE := cDisp (fun xs => .d (.tuple xs)) t
def cLst (t : CA) : CE := cDisp (fun xs => .tmp (.list xs)) t
theorem k1000 {n : Nat} (h : n ≤ 1000) : n ≤ sizeLine := Nat.le_of_lt (small1000 h)
theorem se_tup {es : List Expr} {t : CA} {k : Nat} (h : SA X es t) : SE X (.Tuple es k pos) (cTup t) := (pe_tup h).imp fun σ H Q ⟨w, ρ, m, z, m', A, ec, p⟩ => by
  obtain ⟨us, xs, q1, q2, q3, rfl⟩ := disp_ok ec
  exact ⟨w, ρ, m, us, m', A, q1, fun w1 H1 vs n1 h1 r1 _ => ⟨by rw [← (allD_rel q2 r1).len]; exact k1000 q3, fun a ha => (p.later n1).tup h1 (allD_rel q2 r1) ha⟩⟩
theorem se_lst {es : List Expr} {t : CA} (h : SA X es t) : SE X (.List es pos) (cLst t) := (pe_lst h).imp fun σ H Q ⟨w, ρ, m, z, m', A, ec, p⟩ => by
  obtain ⟨us, xs, q1, q2, q3, rfl⟩ := disp_ok ec
  exact ⟨w, ρ, m, us, m', A, q1, fun w1 H1 vs n1 h1 r1 _ => ⟨by rw [← (allD_rel q2 r1).len]; exact k1000 q3, fun a ha => (p.later n1).lst h1 (allD_rel q2 r1) ha⟩⟩
def ixG : D → D → Option U
  | .list xs, .int i => (atI xs i).map .d
  | .tuple xs, .int i => (atI xs i).map .d
  | .str z, .int i => if z.length ≤ sizeLine then (atI z.cps.toList i).map fun c => .d (.str ⟨#[c]⟩) else none
  | _, _ => none
theorem atI_rel {F : Addr → Prop} {H : Hp} {xs : List D} {vs : List V} {i : Int} {x : D} (r : RelDs F H xs vs) (e : atI xs i = some x) : ∃ v, atI vs i = some v ∧ RelD F H x v := by
  unfold atI at e ⊢
  rw [← r.len]
  cases q : ixN xs.length i with
  | none => rw [q] at e; cases e
  | some j =>
    rw [q, Option.bind_some] at e
    rw [Option.bind_some]
    exact r.get e
theorem o2_ix {C : Ct} : O2 C (rIx C.K) ixG := fun w m H x y u v z Q hh r1 r2 e p => by
  cases x with
  | list xs =>
    cases y with
    | int i =>
      unfold ixG at e
      simp only [Option.map_eq_some_iff] at e
      obtain ⟨x, e, rfl⟩ := e
      obtain ⟨a, vs, rfl, h1, h2⟩ := r1
      obtain ⟨v', e', r'⟩ := atI_rel h2 e
      exact .inl ⟨a, vs, i, v', rfl, r2, SqL.of h1, e', p.now hh r'⟩
    | _ => cases e
  | tuple xs =>
    cases y with
    | int i =>
      unfold ixG at e
      simp only [Option.map_eq_some_iff] at e
      obtain ⟨x, e, rfl⟩ := e
      obtain ⟨a, vs, rfl, h1, h2⟩ := r1
      obtain ⟨v', e', r'⟩ := atI_rel h2 e
      exact .inr (.inl ⟨a, vs, i, v', rfl, r2, SqT.of h1, e', p.now hh r'⟩)
    | _ => cases e
  | str s =>
    cases y with
    | int i =>
      unfold ixG at e
      simp only at e
      split at e
      · rename_i hc
        rw [Option.map_eq_some_iff] at e
        obtain ⟨c, e, rfl⟩ := e
        exact .inr (.inr ⟨s, i, c, r1, r2, hc, e, p.now hh rfl⟩)
      · cases e
    | _ => cases e
  | _ => cases e
def cIx : CE → CE → CE := c2 ixG
theorem se_ix (ha : SE X a ca) (hb : SE X b cb) (hs : PlainIx b := by intro _ _; rfl) : SE X (.Subscript a b pos) (cIx ca cb) := (pe_ix ix_seq ha hb hs).imp (imp_2 o2_ix)
def cGIx (xs : List D) (cb : CE) : CE := fun ρ m => (cb ρ m).bind fun p => match p.1 with
  | .d (.int i) => (atI xs i).map fun x => (.d x, p.2)
  | _ => none
def RelC0 : List D → List V → Prop := fun ds vs => ∀ F H, RelDs F H ds vs
theorem se_gix {x : Str} {g : Addr} {ds : List D} {vs : List V} {px : Pos} (hg : Gl X x) (hm : X.mg x = some (.ref g)) (hT : ∀ H, SqT X.K H g vs) (r : RelC0 ds vs) (hb : SE X b cb) (hs : PlainIx b := by intro _ _; rfl) (hd : (x == ("__debug__" : Str)) = false := by decide) :
    SE X (.Subscript (.Name x px) b pos) (cGIx ds cb) := (pe_ix ix_tup (pe_glob (v := .ref g) hg hm rfl hd) hb hs).imp fun σ H Q ⟨w, ρ, m, z, m', A, ec, p⟩ => by
  unfold cGIx at ec
  cases q : cb ρ m with
  | none => rw [q] at ec; cases ec
  | some r1 =>
    obtain ⟨u1, m1⟩ := r1
    rw [q, Option.bind_some] at ec
    cases u1 with
    | d y =>
      cases y with
      | int i =>
        simp only [Option.map_eq_some_iff] at ec
        obtain ⟨x, e, e2⟩ := ec
        cases e2
        refine ⟨w, ρ, m, .d (.int i), m', A, q, fun w1 H1 v1 n1 h1 r1 _ => ?_⟩
        obtain ⟨v', e', r'⟩ := atI_rel (r w1.F H1) e
        exact ⟨g, vs, i, v', rfl, r1, hT H1, e', (p.later n1).now h1 r'⟩
      | _ => cases ec
    | _ => cases ec
def cutD (xs : List D) (lo hi : Option Int) : List D := (xs.drop (HT.sIx xs.length 0 lo)).take (HT.sIx xs.length xs.length hi - HT.sIx xs.length 0 lo)
theorem cut_rel {F : Addr → Prop} {H : Hp} {xs : List D} {vs : List V} {lo hi : Option Int} (r : RelDs F H xs vs) : RelDs F H (cutD xs lo hi) (cutV vs lo hi) := by
  unfold cutD cutV
  rw [r.len]
  exact (r.drop _).take _
abbrev CO := Sg → Mh → Option (Option Int × Mh)
def TOc (C : Ct) (c : CO) : TO := fun σ H Q => ∃ w ρ m o m', At C w ρ σ m H ∧ c ρ m = some (o, m') ∧ ∀ w' H', Nxt w H w' H' → RelH C w' m' H' → Q o H'
def SO (X : Cx) (e : Option Expr) (c : CO) : Prop := PO X e (TOc X.ct c)
def coNone : CO := fun _ m => some (none, m)
def coSome (ca : CE) : CO := fun ρ m => (ca ρ m).bind fun p => match p.1 with
  | .d (.int i) => some (some i, p.2)
  | _ => none
theorem so_none : SO X none coNone := ⟨fun pins s σ H Q I ⟨w, ρ, m, o, m', A, ec, p⟩ => by
  cases ec
  exact po_none.run pins s σ H Q I (p w H Nxt.refl A.h)⟩
theorem so_some (ha : SE X a ca) : SO X (some a) (coSome ca) := ⟨fun pins s σ H Q I ⟨w, ρ, m, o, m', A, ec, p⟩ => by
  refine (po_some ha).run pins s σ H Q I ?_
  unfold coSome at ec
  cases q : ca ρ m with
  | none => rw [q] at ec; cases ec
  | some r1 =>
    obtain ⟨u1, m1⟩ := r1
    rw [q, Option.bind_some] at ec
    cases u1 with
    | d y =>
      cases y with
      | int i =>
        cases ec
        exact ⟨w, ρ, m, .d (.int i), _, A, q, fun w1 H1 v1 n1 h1 r1 _ => ⟨i, r1, p w1 H1 n1 h1⟩⟩
      | _ => cases ec
    | _ => cases ec⟩
def slG (x : D) (lo hi : Option Int) : Option U := match x with
  | .list xs => some (.tmp (.list (cutD xs lo hi)))
  | .tuple xs => some (.d (.tuple (cutD xs lo hi)))
  | _ => none
def cSl (ca : CE) (cl cu : CO) : CE := fun ρ m => (ca ρ m).bind fun p => (cl ρ p.2).bind fun q => (cu ρ q.2).bind fun r => (valU r.2 p.1).bind fun x => (slG x q.1 r.1).map fun z => (z, r.2)
theorem cut_whole {xs : List D} {lo hi : Option Int} (h : HT.sIx xs.length 0 lo = 0 ∧ HT.sIx xs.length xs.length hi = xs.length) : cutD xs lo hi = xs := by
  unfold cutD
  rw [h.1, h.2]
  simp
theorem se_sl {lo hi : Option Expr} {cl cu : CO} {p2 : Pos} (ha : SE X a ca) (hl : SO X lo cl) (hu : SO X hi cu) : SE X (.Subscript a (.Slice lo hi none p2) pos) (cSl ca cl cu) := (pe_slice (SlR.or sl_list sl_tupA) ha hl hu).imp fun σ H Q ⟨w, ρ, m, z, m', A, ec, p⟩ => by
  unfold cSl at ec
  cases q1 : ca ρ m with
  | none => rw [q1] at ec; cases ec
  | some r1 =>
    obtain ⟨u1, m1⟩ := r1
    rw [q1, Option.bind_some] at ec
    simp only at ec
    cases q2 : cl ρ m1 with
    | none => rw [q2] at ec; cases ec
    | some r2 =>
      obtain ⟨o1, m2⟩ := r2
      rw [q2, Option.bind_some] at ec
      simp only at ec
      cases q3 : cu ρ m2 with
      | none => rw [q3] at ec; cases ec
      | some r3 =>
        obtain ⟨o2, m3⟩ := r3
        rw [q3, Option.bind_some] at ec
        simp only at ec
        cases q4 : valU m3 u1 with
        | none => rw [q4] at ec; cases ec
        | some x =>
          rw [q4, Option.bind_some, Option.map_eq_some_iff] at ec
          obtain ⟨z', q5, e5⟩ := ec
          cases e5
          refine ⟨w, ρ, m, u1, m1, A, q1, fun w1 H1 v1 n1 h1 r1 _ => ?_⟩
          refine ⟨w1, ρ, m1, o1, m2, A.nxt n1 h1, q2, fun w2 H2 n2 h2 => ?_⟩
          refine ⟨w2, ρ, m2, o2, m', (A.nxt n1 h1).nxt n2 h2, q3, fun w3 H3 n3 h3 => ?_⟩
          have rr := valU_rel h3 (RelU.nxt n3 h2 (RelU.nxt n2 h1 r1)) q4
          have pp := p.later ((n1.trans n2).trans n3)
          cases x with
          | list xs =>
            cases q5
            obtain ⟨a, vs, rfl, g1, g2⟩ := rr
            exact .inl ⟨a, vs, rfl, SqL.of g1, fun b hb => pp.lst h3 (cut_rel g2) hb⟩
          | tuple xs =>
            cases q5
            have RR := rr
            obtain ⟨a, vs, rfl, g1, g2⟩ := rr
            refine .inr ⟨a, vs, rfl, SqT.of g1, fun hw => ?_, fun _ b hb => pp.tup h3 (cut_rel g2) hb⟩
            rw [← g2.len] at hw
            rw [cut_whole hw] at pp
            exact pp.now h3 RR
          | _ => cases q5
def cGSl (xs : List D) (cl cu : CO) : CE := fun ρ m => (cl ρ m).bind fun q => (cu ρ q.2).bind fun r =>
  if HT.sIx xs.length 0 q.1 = 0 ∧ HT.sIx xs.length xs.length r.1 = xs.length then none else some (.d (.tuple (cutD xs q.1 r.1)), r.2)
theorem se_gsl {x : Str} {g : Addr} {ds : List D} {vs : List V} {px p2 : Pos} {lo hi : Option Expr} {cl cu : CO} (hg : Gl X x) (hm : X.mg x = some (.ref g)) (hT : ∀ H, SqT X.K H g vs) (r : RelC0 ds vs) (hl : SO X lo cl) (hu : SO X hi cu) (hd : (x == ("__debug__" : Str)) = false := by decide) :
    SE X (.Subscript (.Name x px) (.Slice lo hi none p2) pos) (cGSl ds cl cu) := (pe_slice sl_tupA (pe_glob (v := .ref g) hg hm rfl hd) hl hu).imp fun σ H Q ⟨w, ρ, m, z, m', A, ec, p⟩ => by
  unfold cGSl at ec
  cases q2 : cl ρ m with
  | none => rw [q2] at ec; cases ec
  | some r2 =>
    obtain ⟨o1, m2⟩ := r2
    rw [q2, Option.bind_some] at ec
    simp only at ec
    cases q3 : cu ρ m2 with
    | none => rw [q3] at ec; cases ec
    | some r3 =>
      obtain ⟨o2, m3⟩ := r3
      rw [q3, Option.bind_some] at ec
      simp only at ec
      split at ec
      · cases ec
      · rename_i hc
        cases ec
        refine ⟨w, ρ, m, o1, m2, A, q2, fun w2 H2 n2 h2 => ?_⟩
        refine ⟨w2, ρ, m2, o2, m', A.nxt n2 h2, q3, fun w3 H3 n3 h3 => ?_⟩
        have hl := (r w3.F H3).len
        exact ⟨g, vs, rfl, hT H3, fun hw => (hc (by rw [hl]; exact hw)).elim, fun _ b hb => (p.later (n2.trans n3)).tup h3 (cut_rel (r w3.F H3)) hb⟩
end
end M

namespace M
open PySem PySem.Spec PyProof.Rows L2
variable [Tb]
section
variable {X : Cx} {e a b : Expr} {c ca cb : CE} {pos : Pos}
def OC (C : Ct) (r : List V → Hp → VK → Prop) (g : Mh → List U → Option U) : Prop :=
  ∀ w m H us vs z Q, RelH C w m H → RelUs C w H us vs → g m us = some z → PostE C w H z m Q → r vs H Q
def cCB (g : Mh → List U → Option U) (t : CA) : CE := fun ρ m => (t ρ m).bind fun p => (g p.2 p.1).map fun z => (z, p.2)
theorem imp_cb {C : Ct} {r : List V → Hp → VK → Prop} {g : Mh → List U → Option U} {t : CA} (o : OC C r g) : ∀ σ H Q, TEc C (cCB g t) σ H Q → tCB r (TAc C t) σ H Q := fun σ H Q ⟨w, ρ, m, z, m', A, ec, p⟩ => by
  unfold cCB at ec
  cases q : t ρ m with
  | none => rw [q] at ec; cases ec
  | some r1 =>
    obtain ⟨us, m1⟩ := r1
    rw [q, Option.bind_some, Option.map_eq_some_iff] at ec
    obtain ⟨z', q2, e2⟩ := ec
    cases e2
    exact ⟨w, ρ, m, us, _, A, q, fun w1 H1 vs n1 h1 r1 _ => o w1 _ H1 us vs z Q h1 r1 q2 (p.later n1)⟩
theorem se_cb {id : String} {r : List V → Hp → VK → Prop} {g : Mh → List U → Option U} {t : CA} {x : Str} {p : Pos} {es : List Expr} (hc : CallR X (.builtin id) r) (o : OC X.ct r g) (hg : Gl X x) (hm : X.mg x = none) (hv : bootBuiltins x = some (.builtin id)) (ha : SA X (e :: es) t) (hn : x ≠ "__name__" := by decide) (hdb : (x == ("__debug__" : Str)) = false := by decide)
    (he : starEach (e :: es) X.env = (false, eval e X.env) :: starEach es X.env := by rfl) (hpl : (backTo pos (starEach es X.env)).any (·.1) = false := by rfl) : SE X (.Call (.Name x p) (e :: es) [] pos) (cCB g t) := (pe_callB hc hg hm hv ha hn hdb he hpl).imp (imp_cb o)
theorem se_cty {id : String} {r : List V → Hp → VK → Prop} {g : Mh → List U → Option U} {t : CA} {x : Str} {p : Pos} {es : List Expr} (hc : CallR X (.type id) r) (o : OC X.ct r g) (hg : Gl X x) (hm : X.mg x = none) (hv : bootBuiltins x = some (.type id)) (ha : SA X (e :: es) t) (hn : x ≠ "__name__" := by decide) (hdb : (x == ("__debug__" : Str)) = false := by decide)
    (he : starEach (e :: es) X.env = (false, eval e X.env) :: starEach es X.env := by rfl) (hpl : (backTo pos (starEach es X.env)).any (·.1) = false := by rfl) : SE X (.Call (.Name x p) (e :: es) [] pos) (cCB g t) := (pe_callTy hc hg hm hv ha hn hdb he hpl).imp (imp_cb o)
def g1 (f : D → Option U) : Mh → List U → Option U := fun m us => match us with
  | [u] => (valU m u).bind f
  | _ => none
theorem oc_1 {C : Ct} {r : List V → Hp → VK → Prop} {f : D → Option U} (o : ∀ w m H x v z Q, RelH C w m H → RelR w.F H x v → f x = some z → PostE C w H z m Q → r [v] H Q) : OC C r (g1 f) := fun w m H us vs z Q h ru e p => by
  cases us with
  | nil => cases e
  | cons u us =>
    cases us with
    | cons u2 us => cases e
    | nil =>
      obtain ⟨v, r', rfl, r1, r2⟩ := ru
      have e2 : r' = [] := r2
      subst e2
      have e' : (valU m u).bind f = some z := e
      cases q : valU m u with
      | none => rw [q] at e'; cases e'
      | some x =>
        rw [q, Option.bind_some] at e'
        exact o w m H x v z Q h (valU_rel h r1 q) e' p
def g2 (f : D → D → Option U) : Mh → List U → Option U := fun m us => match us with
  | [u, v] => (valU m u).bind fun x => (valU m v).bind fun y => f x y
  | _ => none
theorem oc_2 {C : Ct} {r : List V → Hp → VK → Prop} {f : D → D → Option U} (o : ∀ w m H x y v v' z Q, RelH C w m H → RelR w.F H x v → RelR w.F H y v' → f x y = some z → PostE C w H z m Q → r [v, v'] H Q) : OC C r (g2 f) := fun w m H us vs z Q h ru e p => by
  cases us with
  | nil => cases e
  | cons u us =>
    cases us with
    | nil => cases e
    | cons u2 us =>
      cases us with
      | cons _ _ => cases e
      | nil =>
        obtain ⟨v, r', rfl, r1, v2, r'', rfl, r2, r3⟩ := ru
        have e2 : r'' = [] := r3
        subst e2
        have e' : ((valU m u).bind fun x => (valU m u2).bind fun y => f x y) = some z := e
        cases q : valU m u with
        | none => rw [q] at e'; cases e'
        | some x =>
          rw [q, Option.bind_some] at e'
          cases q2 : valU m u2 with
          | none => rw [q2] at e'; cases e'
          | some y =>
            rw [q2, Option.bind_some] at e'
            exact o w m H x y v v2 z Q h (valU_rel h r1 q) (valU_rel h r2 q2) e' p
def lenG : D → Option U
  | .str y => if y.length ≤ sizeLine then some (.d (.int y.length)) else none
  | .list xs => some (.d (.int xs.length))
  | .tuple xs => some (.d (.int xs.length))
  | _ => none
def rLenA (K : PySem.W.Frag) : List V → Hp → VK → Prop := fun xs H Q => ∃ x n, xs = [x] ∧ LenV K x H n ∧ Q (.int n) H
theorem oc_len {C : Ct} : OC C (rLenA C.K) (g1 lenG) := oc_1 fun w m H x v z Q h r e p => by
  cases x with
  | str y =>
    have ev : v = .str y := r
    subst ev
    unfold lenG at e
    simp only at e
    split at e
    · rename_i hc
      cases e
      exact ⟨_, y.length, rfl, ⟨hc, rfl⟩, p.now h rfl⟩
    · cases e
  | list xs =>
    cases e
    obtain ⟨a, vs, rfl, h1, h2⟩ := r
    exact ⟨_, xs.length, rfl, .inl ⟨vs, SqL.of h1, h2.len⟩, p.now h rfl⟩
  | tuple xs =>
    cases e
    obtain ⟨a, vs, rfl, h1, h2⟩ := r
    exact ⟨_, xs.length, rfl, .inr ⟨vs, SqT.of h1, h2.len⟩, p.now h rfl⟩
  | _ => cases e
def cLen (c : CE) : CE := cCB (g1 lenG) (caCons c caNil)
theorem se_len {p : Pos} (hg : Gl X "len") (hm : X.mg "len" = none) (ha : SE X a c) (hs : starEach (a :: []) X.env = (false, eval a X.env) :: starEach [] X.env := by rfl) : SE X (.Call (.Name "len" p) [a] [] pos) (cLen c) := se_cb call_len oc_len hg hm PySem.boot_len (sa_cons ha sa_nil hs) (by decide) (by decide) hs
def absG : D → Option U
  | .int i => some (.d (.int (if i < 0 then -i else i)))
  | _ => none
def rAbsA : List V → Hp → VK → Prop := fun xs H Q => ∃ i, xs = [.int i] ∧ Q (.int (if i < 0 then -i else i)) H
theorem oc_abs {C : Ct} : OC C rAbsA (g1 absG) := oc_1 fun w m H x v z Q h r e p => by
  cases x with
  | int i =>
    cases e
    have ev : v = .int i := r
    subst ev
    exact ⟨i, rfl, p.now h rfl⟩
  | _ => cases e
theorem boot_abs : bootBuiltins "abs" = some (.builtin "abs") := by decide +kernel
def cAbs (c : CE) : CE := cCB (g1 absG) (caCons c caNil)
theorem se_abs {p : Pos} (hg : Gl X "abs") (hm : X.mg "abs" = none) (ha : SE X a c) (hs : starEach (a :: []) X.env = (false, eval a X.env) :: starEach [] X.env := by rfl) : SE X (.Call (.Name "abs" p) [a] [] pos) (cAbs c) := se_cb call_abs oc_abs hg hm boot_abs (sa_cons ha sa_nil hs) (by decide) (by decide) hs
def intG : D → Option U
  | .int i => some (.d (.int i))
  | .bool k => some (.d (.int (if k then 1 else 0)))
  | _ => none
def rIntA : List V → Hp → VK → Prop := fun xs H Q => (∃ i, xs = [.int i] ∧ Q (.int i) H) ∨ ∃ k, xs = [.bl k] ∧ Q (.int (if k then 1 else 0)) H
theorem oc_int {C : Ct} : OC C rIntA (g1 intG) := oc_1 fun w m H x v z Q h r e p => by
  cases x with
  | int i =>
    cases e
    have ev : v = .int i := r
    subst ev
    exact .inl ⟨i, rfl, p.now h rfl⟩
  | bool k =>
    cases e
    have ev : v = .bl k := r
    subst ev
    exact .inr ⟨k, rfl, p.now h rfl⟩
  | _ => cases e
theorem boot_int' : bootBuiltins "int" = some (.type "int") := by decide +kernel
def cInt (c : CE) : CE := cCB (g1 intG) (caCons c caNil)
theorem se_int1 {p : Pos} (hg : Gl X "int") (hm : X.mg "int" = none) (ha : SE X a c) (hs : starEach (a :: []) X.env = (false, eval a X.env) :: starEach [] X.env := by rfl) : SE X (.Call (.Name "int" p) [a] [] pos) (cInt c) := se_cty call_int1 oc_int hg hm boot_int' (sa_cons ha sa_nil hs) (by decide) (by decide) hs
def intsD : List D → Option (List Int)
  | [] => some []
  | .int i :: r => (intsD r).map fun ns => i :: ns
  | _ => none
theorem intsD_eq : ∀ {xs : List D} {ns : List Int}, intsD xs = some ns → xs = ns.map .int
  | [], ns, e => by cases e; rfl
  | .int i :: xs, ns, e => by
    have e' : ((intsD xs).map fun ns => i :: ns) = some ns := e
    rw [Option.map_eq_some_iff] at e'
    obtain ⟨ys, q, rfl⟩ := e'
    rw [intsD_eq q]
    rfl
  | .none :: _, _, e => by cases e
  | .bool _ :: _, _, e => by cases e
  | .str _ :: _, _, e => by cases e
  | .list _ :: _, _, e => by cases e
  | .tuple _ :: _, _, e => by cases e
  | .dict _ :: _, _, e => by cases e
theorem intsD_map (ns : List Int) : intsD (ns.map .int) = some ns := by
  induction ns with
  | nil => rfl
  | cons n ns ih =>
    show ((intsD (ns.map .int)).map fun ms => n :: ms) = some (n :: ns)
    rw [ih]
    rfl
def sumG : D → Option U
  | .list xs => (intsD xs).map fun ns => .d (.int ns.sum)
  | .tuple xs => (intsD xs).map fun ns => .d (.int ns.sum)
  | _ => none
theorem sum_rawT {prog : Program} {w : World} {A : Around} {E : Value → Shared → Prop} {s : Shared} {l : Addr} {its : List Value} {ns : List Int} {Q : Value → Shared → Prop} (hh : A.handled = none) (hl : s.heap.IsTuple l its.toArray) (hi : IntsAre its ns)
    (h : ∀ h' tk t', (∀ b o, s.heap.get? b = some o → h'.get? b = some o) → Q (.int ns.sum t') { s with heap := h', toks := tk }) : wpAny (model prog w) A (call (.builtin "sum") [.ref l]) Q E s := by
  obtain ⟨xs, e⟩ := hi.allInts.items
  have hn : numsOf (intItems xs).toList = ns := by rw [← e]; exact hi.numsOf
  rw [nums_intItems] at hn
  rw [e] at hl
  have hlt : l < s.heap.objs.size := by obtain ⟨_, e, _⟩ := hl; exact Heap.lt_size e
  refine call_sum_walkG (wpAny_pyIter_tuple hl ?_)
  refine ⟨_, _, _, _, _, _, numAt xs, rfl, Walks.tuple (A := A.in1) hh _ l (Nat.ne_of_lt hlt) (intItems xs), ⟨⟨_, Heap.get?_push_size _ rfl, rfl, rfl⟩, hl.push _⟩, fun b hb => ?_, (fun _ _ => intItems_at), fun h' tk t' hk => ?_⟩
  · show b < (s.heap.push _).objs.size
    rw [Heap.size_push]
    rcases List.mem_cons.mp hb with rfl | hb
    · exact Nat.lt_succ_self _
    · rcases List.mem_cons.mp hb with rfl | hb
      · exact Nat.lt_succ_of_lt hlt
      · simp at hb
  · have hk' : ∀ b o, s.heap.get? b = some o → h'.get? b = some o := fun b o eb => hk b o (by
      intro z
      have := Heap.lt_size eb
      simp at z
      rw [z] at this
      exact Nat.lt_irrefl _ this) (Heap.get?_push_of_some _ eb)
    have := h h' tk t' hk'
    rw [← hn] at this
    have e9 : (intItems xs).size = xs.size := by simp [intItems]
    rw [e9, preSum_eq, List.take_of_length_le (by simp)]
    exact this
def rSumT (K : PySem.W.Frag) : List V → Hp → VK → Prop := fun vs H Q => ∃ (a : Addr) (ns : List Int), vs = [V.ref a] ∧ SqT K H a (ns.map V.int) ∧ Q (.int ns.sum) H
theorem cr_sumT (hc : X.calm = true) : CallR X (.builtin "sum") (rSumT X.K) := fun pins s σ H xs us Q I r ⟨a, ns, e, hT, q⟩ => by
  subst e
  obtain ⟨u, rfl, ru⟩ := r.one
  cases ru
  obtain ⟨its, rv, p, hz⟩ := I.tuple hT
  exact sum_rawT (I.ok.hd hc) p rv.ints fun h' tk t' k => ⟨.int ns.sum, H, I.kept k, ⟨_, rfl⟩, q⟩
def rSumA (K : PySem.W.Frag) : List V → Hp → VK → Prop := fun vs H Q => rSum K vs H Q ∨ rSumT K vs H Q
theorem oc_sum {C : Ct} : OC C (rSumA C.K) (g1 sumG) := oc_1 fun w m H x v z Q h r e p => by
  cases x with
  | list xs =>
    unfold sumG at e
    rw [Option.map_eq_some_iff] at e
    obtain ⟨ns, q, rfl⟩ := e
    obtain ⟨a, vs, rfl, h1, h2⟩ := r
    rw [intsD_eq q] at h2
    rw [h2.ints] at h1
    exact .inl ⟨a, ns, rfl, SqL.of h1, p.now h rfl⟩
  | tuple xs =>
    unfold sumG at e
    rw [Option.map_eq_some_iff] at e
    obtain ⟨ns, q, rfl⟩ := e
    obtain ⟨a, vs, rfl, h1, h2⟩ := r
    rw [intsD_eq q] at h2
    rw [h2.ints] at h1
    exact .inr ⟨a, ns, rfl, SqT.of h1, p.now h rfl⟩
  | _ => cases e
theorem boot_sum' : bootBuiltins "sum" = some (.builtin "sum") := by decide +kernel
def cSum (c : CE) : CE := cCB (g1 sumG) (caCons c caNil)
theorem se_sum {p : Pos} (G : Good X) (hg : Gl X "sum") (hm : X.mg "sum" = none) (ha : SE X a c) (hs : starEach (a :: []) X.env = (false, eval a X.env) :: starEach [] X.env := by rfl) : SE X (.Call (.Name "sum" p) [a] [] pos) (cSum c) := se_cb (CallR.or (cr_sum G.calm) (cr_sumT G.calm)) oc_sum hg hm boot_sum' (sa_cons ha sa_nil hs) (by decide) (by decide) hs
def min2G : D → D → Option U
  | .int i, .int j => some (.d (.int (if j < i then j else i)))
  | _, _ => none
def max2G : D → D → Option U
  | .int i, .int j => some (.d (.int (if j > i then j else i)))
  | _, _ => none
theorem oc_min2 {C : Ct} : OC C (fun xs H Q => ∃ i j, xs = [.int i, .int j] ∧ Q (.int (if j < i then j else i)) H) (g2 min2G) := oc_2 fun w m H x y v v' z Q h r r2 e p => by
  cases x with
  | int i =>
    cases y with
    | int j =>
      cases e
      have ev : v = .int i := r
      have ev2 : v' = .int j := r2
      subst ev ev2
      exact ⟨i, j, rfl, p.now h rfl⟩
    | _ => cases e
  | _ => cases e
theorem oc_max2 {C : Ct} : OC C (fun xs H Q => ∃ i j, xs = [.int i, .int j] ∧ Q (.int (if j > i then j else i)) H) (g2 max2G) := oc_2 fun w m H x y v v' z Q h r r2 e p => by
  cases x with
  | int i =>
    cases y with
    | int j =>
      cases e
      have ev : v = .int i := r
      have ev2 : v' = .int j := r2
      subst ev ev2
      exact ⟨i, j, rfl, p.now h rfl⟩
    | _ => cases e
  | _ => cases e
theorem boot_min' : bootBuiltins "min" = some (.builtin "min") := by decide +kernel
theorem boot_max' : bootBuiltins "max" = some (.builtin "max") := by decide +kernel
def cMin2 (c d : CE) : CE := cCB (g2 min2G) (caCons c (caCons d caNil))
def cMax2 (c d : CE) : CE := cCB (g2 max2G) (caCons c (caCons d caNil))
theorem se_min2 {p : Pos} (G : Good X) (hg : Gl X "min") (hm : X.mg "min" = none) (ha : SE X a ca) (hb : SE X b cb) (hs : starEach (a :: [b]) X.env = (false, eval a X.env) :: starEach [b] X.env := by rfl) (hs2 : starEach (b :: []) X.env = (false, eval b X.env) :: starEach [] X.env := by rfl) (hpl : (backTo pos (starEach [b] X.env)).any (·.1) = false := by rfl) :
    SE X (.Call (.Name "min" p) [a, b] [] pos) (cMin2 ca cb) := se_cb (call_min2 G.calm) oc_min2 hg hm boot_min' (sa_cons ha (sa_cons hb sa_nil hs2) hs) (by decide) (by decide) hs hpl
theorem se_max2 {p : Pos} (G : Good X) (hg : Gl X "max") (hm : X.mg "max" = none) (ha : SE X a ca) (hb : SE X b cb) (hs : starEach (a :: [b]) X.env = (false, eval a X.env) :: starEach [b] X.env := by rfl) (hs2 : starEach (b :: []) X.env = (false, eval b X.env) :: starEach [] X.env := by rfl) (hpl : (backTo pos (starEach [b] X.env)).any (·.1) = false := by rfl) :
    SE X (.Call (.Name "max" p) [a, b] [] pos) (cMax2 ca cb) := se_cb (call_max2 G.calm) oc_max2 hg hm boot_max' (sa_cons ha (sa_cons hb sa_nil hs2) hs) (by decide) (by decide) hs hpl
def lenOk (n : Nat) : Bool := Nat.blt n 9223372036854775808
theorem lenOk_d {n : Nat} (h : lenOk n = true) : (n : Int) < 2 ^ 63 := by
  have h' : n < 9223372036854775808 := Nat.blt_eq.mp h
  omega
def fitOk : D → Bool
  | .str x => lenOk x.length
  | .list xs => lenOk xs.length
  | .tuple xs => lenOk xs.length
  | _ => true
theorem fitOk_d {x : D} (h : fitOk x = true) : x.fits63 := by
  cases x with
  | str _ => exact lenOk_d h
  | list _ => exact lenOk_d h
  | tuple _ => exact lenOk_d h
  | none => exact True.intro
  | bool _ => exact True.intro
  | int _ => exact True.intro
  | dict _ => exact True.intro
def anyOk (xs : List D) : Bool := PyData.plainAll xs && xs.all fitOk
def anyG : D → Option U
  | .list xs => if anyOk xs = true then some (.d (.bool (xs.any PyData.truthy))) else none
  | .tuple xs => if anyOk xs = true then some (.d (.bool (xs.any PyData.truthy))) else none
  | _ => none
def allG : D → Option U
  | .list xs => if anyOk xs = true then some (.d (.bool (xs.all PyData.truthy))) else none
  | .tuple xs => if anyOk xs = true then some (.d (.bool (xs.all PyData.truthy))) else none
  | _ => none
def rQuant (f : List D → Bool) : List V → Hp → VK → Prop := fun vs H Q => ∃ F v xs, vs = [v] ∧ (RelR F H (.list xs) v ∨ RelR F H (.tuple xs) v) ∧ anyOk xs = true ∧ Q (.bl (f xs)) H
theorem reads_list {h : Heap} {u : Value} {xs : List D} {as : List Addr} (r : Reads h u (.list xs) as) : ∃ l vs bs, u = .ref l ∧ h.IsList l vs ∧ ReadsAll h vs.toList xs bs := by
  cases r with
  | @list a o vs n _ as' h1 h2 h3 h4 => exact ⟨a, vs, as', rfl, ⟨o, h1, h2, n, h3⟩, h4⟩
theorem reads_tuple {h : Heap} {u : Value} {xs : List D} {as : List Addr} (r : Reads h u (.tuple xs) as) : ∃ l vs bs, u = .ref l ∧ h.IsTuple l vs ∧ ReadsAll h vs.toList xs bs := by
  cases r with
  | @tuple a o vs n _ as' h1 h2 h3 h4 => exact ⟨a, vs, as, rfl, ⟨o, h1, h2, n, h3⟩, h4⟩
theorem anyOk_d {xs : List D} (h : anyOk xs = true) : PyData.plainAll xs = true ∧ ∀ x ∈ xs, x.fits63 := by
  unfold anyOk at h
  rw [Bool.and_eq_true] at h
  exact ⟨h.1, fun x hx => fitOk_d (List.all_eq_true.mp h.2 x hx)⟩
theorem cr_anyD (G : Good X) : CallR X (.builtin "any") (rQuant fun xs => xs.any PyData.truthy) := fun pins s σ H xs us Q I r ⟨F, v, ds, e, rr, ok, q⟩ => by
  subst e
  obtain ⟨u, rfl, ru⟩ := r.one
  obtain ⟨p1, p2⟩ := anyOk_d ok
  rcases rr with rr | rr
  · obtain ⟨as, ra⟩ := RelR.reads I (show (PyData.list ds).plain = true from p1) rr ru
    obtain ⟨l, vs, bs, rfl, hl, hr⟩ := reads_list ra
    exact PySem.W.any_list_data (I.ok.hd G.calm) hl hr p1 p2 fun h' tk k => ⟨.bl _, H, I.kept k, rfl, q⟩
  · obtain ⟨as, ra⟩ := RelR.reads I (show (PyData.tuple ds).plain = true from p1) rr ru
    obtain ⟨l, vs, bs, rfl, hl, hr⟩ := reads_tuple ra
    exact PySem.W.any_tuple_data (I.ok.hd G.calm) hl hr p1 p2 fun h' tk k => ⟨.bl _, H, I.kept k, rfl, q⟩
theorem cr_allD (G : Good X) : CallR X (.builtin "all") (rQuant fun xs => xs.all PyData.truthy) := fun pins s σ H xs us Q I r ⟨F, v, ds, e, rr, ok, q⟩ => by
  subst e
  obtain ⟨u, rfl, ru⟩ := r.one
  obtain ⟨p1, p2⟩ := anyOk_d ok
  rcases rr with rr | rr
  · obtain ⟨as, ra⟩ := RelR.reads I (show (PyData.list ds).plain = true from p1) rr ru
    obtain ⟨l, vs, bs, rfl, hl, hr⟩ := reads_list ra
    exact PySem.W.all_list_data (I.ok.hd G.calm) hl hr p1 p2 fun h' tk k => ⟨.bl _, H, I.kept k, rfl, q⟩
  · obtain ⟨as, ra⟩ := RelR.reads I (show (PyData.tuple ds).plain = true from p1) rr ru
    obtain ⟨l, vs, bs, rfl, hl, hr⟩ := reads_tuple ra
    exact PySem.W.all_tuple_data (I.ok.hd G.calm) hl hr p1 p2 fun h' tk k => ⟨.bl _, H, I.kept k, rfl, q⟩
theorem oc_quant {C : Ct} {f : List D → Bool} {g : D → Option U} (hg : ∀ x z, g x = some z → ∃ xs, (x = .list xs ∨ x = .tuple xs) ∧ anyOk xs = true ∧ z = .d (.bool (f xs))) : OC C (rQuant f) (g1 g) := oc_1 fun w m H x v z Q h r e p => by
  obtain ⟨xs, h1, h2, rfl⟩ := hg x z e
  rcases h1 with rfl | rfl
  · exact ⟨w.F, v, xs, rfl, .inl r, h2, p.now h rfl⟩
  · exact ⟨w.F, v, xs, rfl, .inr r, h2, p.now h rfl⟩
theorem oc_any {C : Ct} : OC C (rQuant fun xs => xs.any PyData.truthy) (g1 anyG) := oc_quant fun x z e => by
  unfold anyG at e
  split at e
  · split at e
    · cases e; exact ⟨_, .inl rfl, by assumption, rfl⟩
    · cases e
  · split at e
    · cases e; exact ⟨_, .inr rfl, by assumption, rfl⟩
    · cases e
  · cases e
theorem oc_all {C : Ct} : OC C (rQuant fun xs => xs.all PyData.truthy) (g1 allG) := oc_quant fun x z e => by
  unfold allG at e
  split at e
  · split at e
    · cases e; exact ⟨_, .inl rfl, by assumption, rfl⟩
    · cases e
  · split at e
    · cases e; exact ⟨_, .inr rfl, by assumption, rfl⟩
    · cases e
  · cases e
theorem boot_any' : bootBuiltins "any" = some (.builtin "any") := by decide +kernel
theorem boot_all' : bootBuiltins "all" = some (.builtin "all") := by decide +kernel
def cAny (c : CE) : CE := cCB (g1 anyG) (caCons c caNil)
def cAll (c : CE) : CE := cCB (g1 allG) (caCons c caNil)
theorem se_any {p : Pos} (G : Good X) (hg : Gl X "any") (hm : X.mg "any" = none) (ha : SE X a c) (hs : starEach (a :: []) X.env = (false, eval a X.env) :: starEach [] X.env := by rfl) : SE X (.Call (.Name "any" p) [a] [] pos) (cAny c) := se_cb (cr_anyD G) oc_any hg hm boot_any' (sa_cons ha sa_nil hs) (by decide) (by decide) hs
theorem se_all {p : Pos} (G : Good X) (hg : Gl X "all") (hm : X.mg "all" = none) (ha : SE X a c) (hs : starEach (a :: []) X.env = (false, eval a X.env) :: starEach [] X.env := by rfl) : SE X (.Call (.Name "all" p) [a] [] pos) (cAll c) := se_cb (cr_allD G) oc_all hg hm boot_all' (sa_cons ha sa_nil hs) (by decide) (by decide) hs
def tupG : D → Option U
  | .list xs => some (.d (.tuple xs))
  | .tuple xs => some (.d (.tuple xs))
  | _ => none
def rTupA (K : PySem.W.Frag) : List V → Hp → VK → Prop := fun xs H Q => ∃ p ys, xs = [.ref p] ∧ ((SqL K H p ys ∧ ∀ l, H l = none → Q (.ref l) (upd H l (.tup ys))) ∨ (SqT K H p ys ∧ Q (.ref p) H))
theorem oc_tup {C : Ct} : OC C (rTupA C.K) (g1 tupG) := oc_1 fun w m H x v z Q h r e p => by
  cases x with
  | list xs =>
    cases e
    obtain ⟨a, vs, rfl, h1, h2⟩ := r
    exact ⟨a, vs, rfl, .inl ⟨SqL.of h1, fun l hl => p.tup h h2 hl⟩⟩
  | tuple xs =>
    cases e
    have R := r
    obtain ⟨a, vs, rfl, h1, h2⟩ := r
    exact ⟨a, vs, rfl, .inr ⟨SqT.of h1, p.now h R⟩⟩
  | _ => cases e
theorem boot_tuple' : bootBuiltins "tuple" = some (.type "tuple") := by decide +kernel
theorem boot_list' : bootBuiltins "list" = some (.type "list") := by decide +kernel
def cTupOf (c : CE) : CE := cCB (g1 tupG) (caCons c caNil)
theorem se_tupOf {p : Pos} (hg : Gl X "tuple") (hm : X.mg "tuple" = none) (ha : SE X a c) (hs : starEach (a :: []) X.env = (false, eval a X.env) :: starEach [] X.env := by rfl) : SE X (.Call (.Name "tuple" p) [a] [] pos) (cTupOf c) := se_cty call_tuple_of oc_tup hg hm boot_tuple' (sa_cons ha sa_nil hs) (by decide) (by decide) hs
def lstG : Mh → List U → Option U := fun m us => match us with
  | [.scr ns] => some (.tmp (.list (ns.map .int)))
  | [u] => match valU m u with
    | some (.list xs) => some (.tmp (.list xs))
    | some (.tuple xs) => some (.tmp (.list xs))
    | _ => none
  | _ => none
def rLstA (K : PySem.W.Frag) : List V → Hp → VK → Prop := fun xs H Q => ∃ p ys, xs = [.ref p] ∧ (SqL K H p ys ∨ SqT K H p ys) ∧ ∀ l, H l = none → Q (.ref l) (upd H l (.lst ys))
theorem oc_lst {C : Ct} : OC C (rLstA C.K) lstG := fun w m H us vs z Q h ru e p => by
  have go : ∀ u v, RelU C w H u v → (match valU m u with
    | some (.list xs) => some (U.tmp (.list xs))
    | some (.tuple xs) => some (U.tmp (.list xs))
    | _ => none) = some z → rLstA C.K [v] H Q := by
    intro u v r e
    cases q : valU m u with
    | none => rw [q] at e; cases e
    | some x =>
      rw [q] at e
      have rr := valU_rel h r q
      cases x with
      | list xs =>
        cases e
        obtain ⟨a, vs, rfl, h1, h2⟩ := rr
        exact ⟨a, vs, rfl, .inl (SqL.of h1), fun l hl => p.lst h h2 hl⟩
      | tuple xs =>
        cases e
        obtain ⟨a, vs, rfl, h1, h2⟩ := rr
        exact ⟨a, vs, rfl, .inr (SqT.of h1), fun l hl => p.lst h h2 hl⟩
      | _ => cases e
  cases us with
  | nil => cases e
  | cons u us =>
    cases us with
    | cons _ _ => cases u <;> cases e
    | nil =>
      obtain ⟨v, r', rfl, r1, r2⟩ := ru
      have e2 : r' = [] := r2
      subst e2
      cases u with
      | scr ns =>
        cases e
        obtain ⟨a, rfl, r1⟩ := r1
        have hS : SqL C.K H a (ns.map V.int) := by
          rcases r1 with ⟨o, r1⟩ | r1 | ⟨a', vs, ea, _, h1, h2⟩
          · exact .inl (.inr ⟨o, r1⟩)
          · exact .inr r1
          · cases ea
            rw [RelDs.ints h2] at h1
            exact .inl (.inl h1)
        exact ⟨a, _, rfl, .inl hS, fun l hl => p.lst h RelDs.of_ints hl⟩
      | d x => exact go _ v r1 e
      | ref k => exact go _ v r1 e
      | own x => exact go _ v r1 e
      | tmp x => exact go _ v r1 e
def cLstOf (c : CE) : CE := cCB lstG (caCons c caNil)
theorem se_lstOf {p : Pos} (hg : Gl X "list") (hm : X.mg "list" = none) (ha : SE X a c) (hs : starEach (a :: []) X.env = (false, eval a X.env) :: starEach [] X.env := by rfl) : SE X (.Call (.Name "list" p) [a] [] pos) (cLstOf c) := se_cty call_list_of oc_lst hg hm boot_list' (sa_cons ha sa_nil hs) (by decide) (by decide) hs
end
end M

namespace M
open PySem PySem.Spec PyProof.Rows L2
variable [Tb]
section
variable {X : Cx} {e a b : Expr} {c ca cb : CE} {pos : Pos} {st : Stmt} {rest : List Stmt} {cs ct : CS}
def sSkip : CS := fun ρ m => some (.nx, ρ, m)
def sSeq (s t : CS) : CS := fun ρ m => (s ρ m).bind fun p => match p.1 with
  | .nx => t p.2.1 p.2.2
  | fl => some (fl, p.2)
theorem imp_next {C : Ct} : ∀ D σ H, TSc C sSkip D σ H → tNext D σ H := fun D σ H ⟨w0, H0, w, ρ, m, fl, ρ', m', n, o, A, ec, p⟩ => by
  cases ec
  exact p w σ H n o Stp.refl A
theorem sss_nil : SSs X [] sSkip := pss_nil.imp imp_next
theorem ss_pass : SS X (.Pass pos) sSkip := ps_pass.imp imp_next
theorem ss_doc {x : Str} {j : Nat} {pos' : Pos} : SS X (.Expr (.Constant (.str x) j pos) pos') sSkip := ps_doc.imp imp_next
theorem sss_cons (h1 : SS X st cs) (h2 : SSs X rest ct) : SSs X (st :: rest) (sSeq cs ct) := (pss_cons h1 h2).imp fun D σ H ⟨w0, H0, w, ρ, m, fl, ρ', m', n, o, A, ec, p⟩ => by
  unfold sSeq at ec
  cases q : cs ρ m with
  | none => rw [q] at ec; cases ec
  | some r1 =>
    obtain ⟨f1, ρ1, m1⟩ := r1
    rw [q, Option.bind_some] at ec
    cases f1 with
    | nx =>
      refine ⟨w0, H0, w, ρ, m, .nx, ρ1, m1, n, o, A, q, fun w1 σ1 H1 n1 o1 s1 A1 => ?_⟩
      exact ⟨w0, H0, w1, ρ1, m1, fl, ρ', m', n1, o1, A1, ec, p.later s1⟩
    | bk =>
      cases ec
      exact ⟨w0, H0, w, ρ, m, .bk, _, _, n, o, A, q, p⟩
    | ct =>
      cases ec
      exact ⟨w0, H0, w, ρ, m, .ct, _, _, n, o, A, q, p⟩
    | rt u =>
      cases ec
      exact ⟨w0, H0, w, ρ, m, .rt u, _, _, n, o, A, q, p⟩
def sBreak : CS := fun ρ m => some (.bk, ρ, m)
def sCont : CS := fun ρ m => some (.ct, ρ, m)
theorem ss_break : SS X (.Break pos) sBreak := ps_break.imp fun D σ H ⟨w0, H0, w, ρ, m, fl, ρ', m', n, o, A, ec, p⟩ => by
  cases ec
  exact p w σ H n o Stp.refl A
theorem ss_cont : SS X (.Continue pos) sCont := ps_continue.imp fun D σ H ⟨w0, H0, w, ρ, m, fl, ρ', m', n, o, A, ec, p⟩ => by
  cases ec
  exact p w σ H n o Stp.refl A
def sNever : CS := fun _ _ => none
theorem ss_never : SS X st sNever := ps_never.imp fun D σ H ⟨w0, H0, w, ρ, m, fl, ρ', m', n, o, A, ec, p⟩ => by cases ec
theorem sss_never : SSs X rest sNever := pss_never.imp fun D σ H ⟨w0, H0, w, ρ, m, fl, ρ', m', n, o, A, ec, p⟩ => by cases ec
def sExpr (c : CE) : CS := fun ρ m => (c ρ m).map fun p => (.nx, ρ, p.2)
theorem ss_expr (he : SE X e c) (hs : swapsWith e none pos.line X.env = pure false := by rfl) : SS X (.Expr e pos) (sExpr c) := (ps_expr he hs).imp fun D σ H ⟨w0, H0, w, ρ, m, fl, ρ', m', n, o, A, ec, p⟩ => by
  unfold sExpr at ec
  rw [Option.map_eq_some_iff] at ec
  obtain ⟨⟨u1, m1⟩, q, e⟩ := ec
  cases e
  exact ⟨w, ρ, m, u1, _, A, q, fun w1 H1 v1 n1 h1 r1 _ => p w1 σ H1 (n.trans n1) o (n1.stp A.h) (A.nxt n1 h1)⟩
def sIf (t : CB) (s u : CS) : CS := fun ρ m => (t ρ m).bind fun p => if p.1 = true then s ρ p.2 else u ρ p.2
theorem ss_if {g : Expr} {A B : List Stmt} {t : CB} (hc : SB X g t) (ha : SSs X A cs) (hb : SSs X B ct) : SS X (.If g A B pos) (sIf t cs ct) := (ps_if hc ha hb).imp fun D σ H ⟨w0, H0, w, ρ, m, fl, ρ', m', n, o, A, ec, p⟩ => by
  unfold sIf at ec
  cases q : t ρ m with
  | none => rw [q] at ec; cases ec
  | some r =>
    obtain ⟨k1, m1⟩ := r
    rw [q, Option.bind_some] at ec
    refine ⟨w, ρ, m, k1, m1, A, q, fun w1 H1 n1 h1 => ?_⟩
    cases k1 with
    | false =>
      rw [if_neg Bool.false_ne_true] at ec ⊢
      exact ⟨w0, H0, w1, ρ, m1, fl, ρ', m', n.trans n1, o, A.nxt n1 h1, ec, p.later (n1.stp A.h)⟩
    | true =>
      rw [if_pos rfl] at ec ⊢
      exact ⟨w0, H0, w1, ρ, m1, fl, ρ', m', n.trans n1, o, A.nxt n1 h1, ec, p.later (n1.stp A.h)⟩
theorem freeze_rt {C : Ct} {w0 w : Wd} {H0 H : Hp} {m : Mh} {x : D} {v : V} (n : Nxt w0 H0 w H) (h : RelH C w m H) {a : Addr} (ev : v = .ref a) (h1 : ¬ w.F a) (h2 : a ∉ w.f) (h3 : RelC w.F H x a) (fr : H0 a = none) :
    ∃ w', w'.f = w.f ∧ Nxt w0 H0 w' H ∧ Stp w.F H w'.F H ∧ RelH C w' m H ∧ RelU C w' H (.d x) v ∧ ∀ b, w'.F b → w.F b ∨ b = a := by
  obtain ⟨oo, ho, _, nt⟩ := h3.mut2
  refine ⟨⟨fun b => w.F b ∨ b = a, w.f⟩, rfl, ⟨fun b z => .inl (n.F1 b z), fun b z => ?_, n.f1, n.keep, n.tbl, n.there⟩, ⟨fun b z => .inl z, fun _ _ _ z => z, fun _ _ z => z⟩, h.freeze h2 ho nt, ?_, fun b z => z⟩
  · rcases z with z | z
    · exact n.F2 b z
    · exact .inr (z ▸ fr)
  · subst ev
    exact RelC.fz (RelC.stp ⟨fun b z => .inl z, fun _ _ _ z => z, fun _ _ z => z⟩ (fun _ z => z) h3) (.inr rfl)
def TRc (C : Ct) (c : CE) : TE := fun σ H Q => ∃ w0 H0 w ρ m u m', Nxt w0 H0 w H ∧ OwnF H0 ρ σ ∧ At C w ρ σ m H ∧ c ρ m = some (u, m') ∧ ∀ w' H' v, Nxt w0 H0 w' H' → RelH C w' m' H' → RelU C w' H' u v → Q v H'
def SR (X : Cx) (e : Expr) (c : CE) : Prop := PE X e (TRc X.ct c)
def rtU : U → Option U
  | .d x => some (.d x)
  | .ref r => some (.ref r)
  | .tmp x => some (.d x)
  | .own _ => none
  | .scr _ => none
def cRt (c : CE) : CE := fun ρ m => (c ρ m).bind fun p => (rtU p.1).map fun u => (u, p.2)
theorem sr_of (he : SE X e c) : SR X e (cRt c) := PE.imp he fun σ H Q ⟨w0, H0, w, ρ, m, u, m', n, o, A, ec, p⟩ => by
  unfold cRt at ec
  cases q : c ρ m with
  | none => rw [q] at ec; cases ec
  | some r =>
    obtain ⟨u1, m1⟩ := r
    rw [q, Option.bind_some, Option.map_eq_some_iff] at ec
    obtain ⟨u2, e1, e2⟩ := ec
    cases e2
    refine ⟨w, ρ, m, u1, _, A, q, fun w1 H1 v1 n1 h1 r1 f1 => ?_⟩
    cases u1 with
    | d x => cases e1; exact p w1 H1 v1 (n.trans n1) h1 r1
    | ref x => cases e1; exact p w1 H1 v1 (n.trans n1) h1 r1
    | scr x => cases e1
    | own x => cases e1
    | tmp x =>
      cases e1
      obtain ⟨a, ev, g1, g2, g3⟩ := r1
      obtain ⟨w', _, n', _, h', r', _⟩ := freeze_rt (n.trans n1) h1 ev g1 g2 g3 (n.back (f1 a ev))
      exact p w' H1 v1 n' h' r'
def cOwnV (i : Nat) : CE := fun ρ m => match ρ[i]? with
  | some (some (.own x)) => some (.d x, m)
  | _ => none
theorem sr_own (i : Nat) {x : Str} (hN : X.N[i]? = some x := by rfl) (hv : Vis X.env.scope x := by first | exact Or.inl rfl | exact Or.inr (Or.inl rfl) | exact Or.inr (Or.inr rfl)) (hd : (x == ("__debug__" : Str)) = false := by decide)
    (hcd : (x == ("__classdict__" : Str)) = false := by decide) : SR X (.Name x pos) (cOwnV i) := (pv i hN hv hd hcd).imp fun σ H Q ⟨w0, H0, w, ρ, m, u, m', n, o, A, ec, p⟩ => by
  unfold cOwnV at ec
  cases q : ρ[i]? with
  | none => rw [q] at ec; cases ec
  | some r =>
    rw [q] at ec
    cases r with
    | none => cases ec
    | some u' =>
      cases u' with
      | own y =>
        cases ec
        obtain ⟨v, e, r⟩ := A.s.at_ i _ q
        refine ⟨v, e, ?_⟩
        obtain ⟨a, ev, g1, g2, g3⟩ := r
        obtain ⟨w', _, n', _, h', r', _⟩ := freeze_rt n A.h ev g1 g2 g3 (o i y a q (ev ▸ e))
        exact p w' H v n' h' r'
      | _ => cases ec
theorem sr_if {t : CB} {g : Expr} (hc : SB X g t) (ha : SR X a ca) (hb : SR X b cb) : SR X (.IfExp g a b pos) (cIf t ca cb) := (pe_ifExp hc ha hb).imp fun σ H Q ⟨w0, H0, w, ρ, m, z, m', n, o, A, ec, p⟩ => by
  unfold cIf at ec
  cases q : t ρ m with
  | none => rw [q] at ec; cases ec
  | some r =>
    obtain ⟨k1, m1⟩ := r
    rw [q, Option.bind_some] at ec
    refine ⟨w, ρ, m, k1, m1, A, q, fun w1 H1 n1 h1 => ?_⟩
    cases k1 with
    | false =>
      rw [if_neg Bool.false_ne_true] at ec ⊢
      exact ⟨w0, H0, w1, ρ, m1, z, m', n.trans n1, o, A.nxt n1 h1, ec, p⟩
    | true =>
      rw [if_pos rfl] at ec ⊢
      exact ⟨w0, H0, w1, ρ, m1, z, m', n.trans n1, o, A.nxt n1 h1, ec, p⟩
def sRet (c : CE) : CS := fun ρ m => (c ρ m).map fun p => (.rt p.1, ρ, p.2)
def sRetN : CS := fun ρ m => some (.rt (.d .none), ρ, m)
theorem ss_ret (he : SR X e c) : SS X (.Return (some e) pos) (sRet c) := (ps_ret he).imp fun D σ H ⟨w0, H0, w, ρ, m, fl, ρ', m', n, o, A, ec, p⟩ => by
  unfold sRet at ec
  rw [Option.map_eq_some_iff] at ec
  obtain ⟨⟨u1, m1⟩, q, e⟩ := ec
  cases e
  exact ⟨w0, H0, w, ρ, m, u1, _, n, o, A, q, p⟩
theorem ss_retN : SS X (.Return none pos) sRetN := ps_retN.imp fun D σ H ⟨w0, H0, w, ρ, m, fl, ρ', m', n, o, A, ec, p⟩ => by
  cases ec
  exact p w H .non n A.h rfl
theorem RelS.set {C : Ct} {w : Wd} {H : Hp} {ρ : Sg} {σ : L2.St} (s : RelS C w H ρ σ) {i : Nat} {u : U} {v : V} (r : RelU C w H u v) (h1 : ∀ x, u ≠ .own x) (h2 : ∀ x, u ≠ .tmp x) : RelS C w H (ρ.set i (some u)) (σ.set i (some v)) where
  len := by simp [s.len]
  at_ := fun j u' e => by
    rw [List.getElem?_set] at e ⊢
    by_cases hj : i = j
    · rw [if_pos hj] at e ⊢
      rw [← s.len]
      split at e
      · rename_i hl
        rw [if_pos hl]
        cases e
        exact ⟨v, rfl, r⟩
      · cases e
    · rw [if_neg hj] at e ⊢
      exact s.at_ j u' e
  sep := fun j k x y v' hjk e1 e2 e3 e4 => by
    rw [List.getElem?_set] at e1 e2 e3 e4
    by_cases hj : i = j
    · rw [if_pos hj] at e1
      split at e1
      · cases e1; exact (h1 x rfl).elim
      · cases e1
    · by_cases hk : i = k
      · rw [if_pos hk] at e2
        split at e2
        · cases e2; exact (h1 y rfl).elim
        · cases e2
      · rw [if_neg hj] at e1 e3
        rw [if_neg hk] at e2 e4
        exact s.sep j k x y v' hjk e1 e2 e3 e4
  nt := fun j x e => by
    rw [List.getElem?_set] at e
    by_cases hj : i = j
    · rw [if_pos hj] at e
      split at e
      · cases e; exact h2 x rfl
      · cases e
    · rw [if_neg hj] at e
      exact s.nt j x e
theorem OwnF.set {H0 : Hp} {ρ : Sg} {σ : L2.St} (o : OwnF H0 ρ σ) {i : Nat} {u : U} {v : V} (h1 : ∀ x, u ≠ .own x) : OwnF H0 (ρ.set i (some u)) (σ.set i (some v)) := fun j x a e1 e2 => by
  rw [List.getElem?_set] at e1 e2
  by_cases hj : i = j
  · rw [if_pos hj] at e1
    split at e1
    · cases e1; exact (h1 x rfl).elim
    · cases e1
  · rw [if_neg hj] at e1 e2
    exact o j x a e1 e2
theorem RelS.setOwn {C : Ct} {w : Wd} {H : Hp} {ρ : Sg} {σ : L2.St} (s : RelS C w H ρ σ) {i : Nat} {x : D} {a : Addr} (r : RelU C w H (.own x) (.ref a)) (fr : ∀ (j : Nat) y, i ≠ j → ρ[j]? = some (some (.own y)) → σ[j]? ≠ some (some (.ref a))) : RelS C w H (ρ.set i (some (.own x))) (σ.set i (some (.ref a))) where
  len := by simp [s.len]
  at_ := fun j u' e => by
    rw [List.getElem?_set] at e ⊢
    by_cases hj : i = j
    · rw [if_pos hj] at e ⊢
      rw [← s.len]
      split at e
      · rename_i hl
        rw [if_pos hl]
        cases e
        exact ⟨_, rfl, r⟩
      · cases e
    · rw [if_neg hj] at e ⊢
      exact s.at_ j u' e
  sep := fun j k x' y v' hjk e1 e2 e3 e4 => by
    rw [List.getElem?_set] at e1 e2 e3 e4
    by_cases hj : i = j
    · have hk : i ≠ k := fun z => hjk (hj.symm.trans z)
      rw [if_pos hj] at e3
      rw [if_neg hk] at e2 e4
      split at e3
      · cases e3; exact fr k y hk e2 e4
      · cases e3
    · by_cases hk : i = k
      · rw [if_pos hk] at e4
        rw [if_neg hj] at e1 e3
        split at e4
        · cases e4; exact fr j x' hj e1 e3
        · cases e4
      · rw [if_neg hj] at e1 e3
        rw [if_neg hk] at e2 e4
        exact s.sep j k x' y v' hjk e1 e2 e3 e4
  nt := fun j x' e => by
    rw [List.getElem?_set] at e
    by_cases hj : i = j
    · rw [if_pos hj] at e
      split at e
      · cases e
      · cases e
    · rw [if_neg hj] at e
      exact s.nt j x' e
theorem OwnF.setOwn {H0 : Hp} {ρ : Sg} {σ : L2.St} (o : OwnF H0 ρ σ) {i : Nat} {x : D} {a : Addr} (fr : H0 a = none) : OwnF H0 (ρ.set i (some (.own x))) (σ.set i (some (.ref a))) := fun j y b e1 e2 => by
  rw [List.getElem?_set] at e1 e2
  by_cases hj : i = j
  · rw [if_pos hj] at e2
    split at e2
    · cases e2; exact fr
    · cases e2
  · rw [if_neg hj] at e1 e2
    exact o j y b e1 e2
theorem RelS.ownAt {C : Ct} {w : Wd} {H : Hp} {ρ : Sg} {σ : L2.St} (s : RelS C w H ρ σ) {i : Nat} {x : D} (e : ρ[i]? = some (some (.own x))) : ∃ a, σ[i]? = some (some (.ref a)) ∧ ¬ w.F a ∧ a ∉ w.f ∧ RelC w.F H x a ∧ H a ≠ none := by
  obtain ⟨v, e', a, ev, h1, h2, h3⟩ := s.at_ i _ e
  subst ev
  obtain ⟨o, ho, _⟩ := h3.mut
  exact ⟨a, e', h1, h2, h3, by rw [ho]; exact fun z => nomatch z⟩
def asgU : U → Option U
  | .d x => some (.d x)
  | .ref r => some (.ref r)
  | _ => none
def sAsg (i : Nat) (c : CE) : CS := fun ρ m => (c ρ m).bind fun p => (asgU p.1).map fun u => (.nx, ρ.set i (some u), p.2)
theorem asgU_ok {u u' : U} (h : asgU u = some u') : u' = u ∧ (∀ x, u ≠ .own x) ∧ ∀ x, u ≠ .tmp x := by
  cases u with
  | d x => cases h; exact ⟨rfl, (fun _ e => by cases e), (fun _ e => by cases e)⟩
  | ref x => cases h; exact ⟨rfl, (fun _ e => by cases e), (fun _ e => by cases e)⟩
  | _ => cases h
theorem imp_asg {C : Ct} {i : Nat} : ∀ D σ H, TSc C (sAsg i c) D σ H → tAsg (TEc C c) (gName i) D σ H := fun D σ H ⟨w0, H0, w, ρ, m, fl, ρ', m', n, o, A, ec, p⟩ => by
  unfold sAsg at ec
  cases q : c ρ m with
  | none => rw [q] at ec; cases ec
  | some r =>
    obtain ⟨u1, m1⟩ := r
    rw [q, Option.bind_some, Option.map_eq_some_iff] at ec
    obtain ⟨u2, e1, e2⟩ := ec
    cases e2
    obtain ⟨rfl, g1, g2⟩ := asgU_ok e1
    refine ⟨w, ρ, m, _, _, A, q, fun w1 H1 v1 n1 h1 r1 f1 => ?_⟩
    exact p w1 _ H1 (n.trans n1) (o.set g1) (n1.stp A.h) ⟨(A.nxt n1 h1).s.set r1 g1 g2, h1⟩
theorem ss_asg (i : Nat) {x : Str} {pos' : Pos} (G : Good X) (he : SE X e c) (hi : X.N[i]? = some x := by rfl) (hx : Loc X.env.scope x := by first | exact Or.inl rfl | exact Or.inr rfl) (hs : swapsWith e (some (.Name x pos')) pos.line X.env = pure false := by rfl) (hf : X.fn x = true ∨ X.env.scope.names.lookup x = some .local := by first | exact .inl rfl | exact .inr rfl | assumption) :
    SS X (.Assign [.Name x pos'] e pos) (sAsg i c) := (ps_set G.nd hi hx he hs hf).imp imp_asg
def sAsgO (i : Nat) (c : CE) : CS := fun ρ m => (c ρ m).bind fun p => match p.1 with
  | .tmp x => some (.nx, ρ.set i (some (.own x)), p.2)
  | _ => none
theorem imp_asgO {C : Ct} {i : Nat} : ∀ D σ H, TSc C (sAsgO i c) D σ H → tAsg (TEc C c) (gName i) D σ H := fun D σ H ⟨w0, H0, w, ρ, m, fl, ρ', m', n, o, A, ec, p⟩ => by
  unfold sAsgO at ec
  cases q : c ρ m with
  | none => rw [q] at ec; cases ec
  | some r =>
    obtain ⟨u1, m1⟩ := r
    rw [q, Option.bind_some] at ec
    cases u1 with
    | tmp x =>
      cases ec
      refine ⟨w, ρ, m, _, _, A, q, fun w1 H1 v1 n1 h1 r1 f1 => ?_⟩
      have R := r1
      obtain ⟨a, ev, g1, g2, g3⟩ := r1
      subst ev
      have fr := f1 a rfl
      refine p w1 _ H1 (n.trans n1) (o.setOwn (n.back fr)) (n1.stp A.h) ⟨(A.nxt n1 h1).s.setOwn ⟨a, rfl, g1, g2, g3⟩ fun j y _ e1 e2 => ?_, h1⟩
      obtain ⟨b, e3, _, _, _, ne⟩ := A.s.ownAt e1
      rw [e3] at e2
      cases e2
      exact ne fr
    | _ => cases ec
theorem ss_asgO (i : Nat) {x : Str} {pos' : Pos} (G : Good X) (he : SE X e c) (hi : X.N[i]? = some x := by rfl) (hx : Loc X.env.scope x := by first | exact Or.inl rfl | exact Or.inr rfl) (hs : swapsWith e (some (.Name x pos')) pos.line X.env = pure false := by rfl) (hf : X.fn x = true ∨ X.env.scope.names.lookup x = some .local := by first | exact .inl rfl | exact .inr rfl | assumption) :
    SS X (.Assign [.Name x pos'] e pos) (sAsgO i c) := (ps_set G.nd hi hx he hs hf).imp imp_asgO
def sFz (i : Nat) (s : CS) : CS := fun ρ m => match ρ[i]? with
  | some (some (.own x)) => s (ρ.set i (some (.d x))) m
  | _ => none
theorem set_self {σ : L2.St} {i : Nat} {v : V} (e : σ[i]? = some (some v)) : σ.set i (some v) = σ := by
  apply List.ext_getElem?
  intro j
  rw [List.getElem?_set]
  by_cases hj : i = j
  · subst hj
    rw [if_pos rfl, e, if_pos (List.getElem?_eq_some_iff.mp e).1]
  · rw [if_neg hj]
theorem imp_fz {C : Ct} {i : Nat} {s : CS} : ∀ D σ H, TSc C (sFz i s) D σ H → TSc C s D σ H := fun D σ H ⟨w0, H0, w, ρ, m, fl, ρ', m', n, o, A, ec, p⟩ => by
  unfold sFz at ec
  cases q : ρ[i]? with
  | none => rw [q] at ec; cases ec
  | some r =>
    rw [q] at ec
    cases r with
    | none => cases ec
    | some u' =>
      cases u' with
      | own y =>
        simp only at ec
        obtain ⟨a, e1, g1, g2, g3, ne⟩ := A.s.ownAt q
        obtain ⟨w', ef, n', st', h', r', hF⟩ := freeze_rt (x := y) n A.h rfl g1 g2 g3 (o i y a q e1)
        have s1 : RelS C w' H ρ σ → False ∨ True := fun _ => .inr trivial
        have base : RelS C w' H (ρ.set i (some (.d y))) (σ.set i (some (.ref a))) := by
          refine ⟨by simp [A.s.len], fun j u' e => ?_, fun j k x' y' v' hjk z1 z2 z3 z4 => ?_, fun j x' z => ?_⟩
          · rw [List.getElem?_set] at e ⊢
            by_cases hj : i = j
            · rw [if_pos hj] at e ⊢
              rw [← A.s.len]
              split at e
              · rename_i hl
                rw [if_pos hl]
                cases e
                exact ⟨_, rfl, r'⟩
              · cases e
            · rw [if_neg hj] at e ⊢
              obtain ⟨v, e', ru⟩ := A.s.at_ j u' e
              refine ⟨v, e', ?_⟩
              cases u' with
              | d z => exact RelD.stp st' z v ru
              | ref k => obtain ⟨b, eb, ev⟩ := ru; exact ⟨b, by rw [ef]; exact eb, ev⟩
              | tmp z => exact (A.s.nt j z e).elim
              | scr z =>
                obtain ⟨b, ev, g⟩ := ru
                exact ⟨b, ev, g.imp (fun z => z) fun z => z.imp (fun z => z) fun z => RelD.stp st' _ _ z⟩
              | own z =>
                obtain ⟨b, ev, k1, k2, k3⟩ := ru
                subst ev
                refine ⟨b, rfl, fun zz => ?_, by rw [ef]; exact k2, RelC.stp st' (fun _ w => w) k3⟩
                rcases hF b zz with zz | zz
                · exact k1 zz
                · subst zz
                  exact A.s.sep i j y z _ hj q e e1 e'
          · rw [List.getElem?_set] at z1 z2 z3 z4
            by_cases hj : i = j
            · rw [if_pos hj] at z1
              split at z1 <;> cases z1
            · by_cases hk : i = k
              · rw [if_pos hk] at z2
                split at z2 <;> cases z2
              · rw [if_neg hj] at z1 z3
                rw [if_neg hk] at z2 z4
                exact A.s.sep j k x' y' v' hjk z1 z2 z3 z4
          · rw [List.getElem?_set] at z
            by_cases hj : i = j
            · rw [if_pos hj] at z
              split at z <;> cases z
            · rw [if_neg hj] at z
              exact A.s.nt j x' z
        rw [set_self e1] at base
        have o' : OwnF H0 (ρ.set i (some (.d y))) σ := by
          have := o.set (i := i) (u := .d y) (v := .ref a) (fun _ z => nomatch z)
          rw [set_self e1] at this
          exact this
        exact ⟨w0, H0, w', _, m, fl, ρ', m', n', o', ⟨base, h'⟩, ec, p.later st'⟩
      | _ => cases ec
theorem ss_fz {i : Nat} {s : CS} (h : SS X st s) : SS X st (sFz i s) := PS.imp h imp_fz
end
end M

namespace M
open PySem PySem.Spec PyProof.Rows L2
variable [Tb]
section
variable {X : Cx} {e a b : Expr} {c ca cb : CE} {pos : Pos} {st : Stmt} {rest : List Stmt} {cs ct : CS}
def belowU (n : Nat) : U → Bool
  | .ref r => decide (r < n)
  | _ => true
def belowO (n : Nat) : MO → Bool
  | .v _ => true
  | .ins _ fs => fs.all fun p => belowU n p.2
def trunc (n : Nat) (u : U) (m : Mh) : Mh := if m.length ≤ n then m else if (belowU n u && (m.take n).all (belowO n)) = true then m.take n else m
def cFn (k np : Nat) (body : CS) : List U → Mh → Option (U × Mh) := fun us m => if us.length = np then (body (us.map some ++ List.replicate (k - np) none) m).bind fun p => match p.1 with
  | .nx => some (.d .none, trunc m.length (.d .none) p.2.2)
  | .rt u => if okF u = true then some (u, trunc m.length u p.2.2) else none
  | _ => none else none
def argOk : U → Bool
  | .d _ => true
  | .ref _ => true
  | .scr _ => true
  | _ => false
def spF (C : Ct) (n : Nat) (F : List U → Mh → Option (U × Mh)) : Sp := fun vs H Q _ => vs.length = n ∧ ∃ w m us u m', RelH C w m H ∧ RelUs C w H us vs ∧ us.all argOk = true ∧ F us m = some (u, m') ∧
  ∀ w' H' v, Nxt w H w' H' → RelH C w' m' H' → RelU C w' H' u v → okF u = true → Q v H'
def cCall (F : List U → Mh → Option (U × Mh)) (t : CA) : CE := fun ρ m => (t ρ m).bind fun p => if p.1.all argOk = true then F p.1 p.2 else none
structure Cal (P : Program) (w : World) (K : PySem.W.Frag) (mg : Str → Option Value) (base : Heap) (k : Nat) (x : Str) (n : Nat) (F : List U → Mh → Option (U × Mh)) : Prop where
  ex : ∃ f fd ps, FnOk P w K mg base CX0 k f fd ps (spF ⟨K, mg, Tb.T⟩ n F) ∧ mg x = some (.ref f) ∧ PySem.W.keepIn K (.ref f) = true ∧ Binds K fd ps []
theorem Cal.mono {P : Program} {w : World} {K : PySem.W.Frag} {mg : Str → Option Value} {base : Heap} {j k : Nat} {x : Str} {n : Nat} {F : List U → Mh → Option (U × Mh)} (c : Cal P w K mg base j x n F) (h : j ≤ k) : Cal P w K mg base k x n F := by
  obtain ⟨f, fd, ps, h1, h2⟩ := c.ex
  exact ⟨f, fd, ps, h1.mono h, h2⟩
theorem imp_call {C : Ct} {n : Nat} {F : List U → Mh → Option (U × Mh)} {t : CA} {E : XK} (hn : ∀ us m u m', F us m = some (u, m') → us.length = n) : ∀ σ H Q, TEc C (cCall F t) σ H Q → tCall (spF C n F) [] E (TAc C t) σ H Q := fun σ H Q ⟨w, ρ, m, z, m', A, ec, p⟩ => by
  unfold cCall at ec
  cases q : t ρ m with
  | none => rw [q] at ec; cases ec
  | some r1 =>
    obtain ⟨us, m1⟩ := r1
    rw [q, Option.bind_some] at ec
    simp only at ec
    split at ec
    · rename_i ok
      refine ⟨w, ρ, m, us, m1, A, q, fun w1 H1 vs n1 h1 r1 _ => ?_⟩
      show spF C n F (vs ++ []) H1 Q E
      rw [List.append_nil]
      refine ⟨by rw [← r1.len]; exact hn us m1 z m' ec, w1, m1, us, z, m', h1, r1, ok, ec, fun w2 H2 v n2 h2 r2 k2 => p w2 H2 v (n1.trans n2) h2 r2 ?_⟩
      cases z with
      | tmp x => exact nomatch k2
      | _ => trivial
    · cases ec
theorem cFn_len {k np : Nat} {body : CS} : ∀ us m u m', cFn k np body us m = some (u, m') → us.length = np := fun us m u m' e => by
  unfold cFn at e
  split at e
  · assumption
  · cases e
theorem se_call {k j n : Nat} {x : Str} {p : Pos} {es : List Expr} {F : List U → Mh → Option (U × Mh)} {t : CA} (c : Cal X.prog X.w X.K X.mg X.base k x n F) (hr : Room j X.A) (hj : k ≤ j) (hn : ∀ us m u m', F us m = some (u, m') → us.length = n) (hg : Gl X x) (ha : SA X (e :: es) t)
    (hdb : (x == ("__debug__" : Str)) = false := by decide) (he : starEach (e :: es) X.env = (false, eval e X.env) :: starEach es X.env := by rfl) (hpl : (backTo pos (starEach es X.env)).any (·.1) = false := by rfl) :
    SE X (.Call (.Name x p) (e :: es) [] pos) (cCall F t) := by
  obtain ⟨f, fd, ps, h1, h2, h3, h4⟩ := c.ex
  exact (pe_call h1 (hr.mono hj) hg h2 h3 h4 .nil (E := E0) pass0 ha hdb he hpl).imp (imp_call hn)
theorem se_call0 {k j n : Nat} {x : Str} {p : Pos} {F : List U → Mh → Option (U × Mh)} (c : Cal X.prog X.w X.K X.mg X.base k x n F) (hr : Room j X.A) (hj : k ≤ j) (hn : ∀ us m u m', F us m = some (u, m') → us.length = n) (hg : Gl X x)
    (hdb : (x == ("__debug__" : Str)) = false := by decide) : SE X (.Call (.Name x p) [] [] pos) (cCall F caNil) := by
  obtain ⟨f, fd, ps, h1, h2, h3, h4⟩ := c.ex
  refine (pe_call0 h1 (hr.mono hj) hg h2 h3 h4 .nil (E := E0) pass0 hdb).imp fun σ H Q q => ?_
  have := imp_call (E := E0) hn σ H Q q
  obtain ⟨w, ρ, m, us, m', A, ec, g⟩ := this
  cases ec
  exact g w H [] Nxt.refl A.h rfl ⟨fun i x a e _ => by simp at e, fun i j x y a _ e _ _ => by simp at e⟩
theorem trunc_ok {C : Ct} {w0 w : Wd} {H0 H : Hp} {m0 m : Mh} {u : U} {v : V} (n : Nxt w0 H0 w H) (h0 : w0.f.length = m0.length) (h : RelH C w m H) (r : RelU C w H u v) (ok : okF u = true) : ∃ w', Nxt w0 H0 w' H ∧ RelH C w' (trunc m0.length u m) H ∧ RelU C w' H u v := by
  unfold trunc
  split
  · exact ⟨w, n, h, r⟩
  · split
    · rename_i hb
      rw [Bool.and_eq_true] at hb
      obtain ⟨g, eg, hg⟩ := n.f1
      have ew : w.f.take m0.length = w0.f := by rw [eg, ← h0]; simp
      refine ⟨⟨w.F, w.f.take m0.length⟩, ⟨n.F1, n.F2, ⟨[], by rw [List.append_nil]; exact ew, fun _ z => by simp at z⟩, n.keep, n.tbl, n.there⟩, ?_, ?_⟩
      · have sub : ∀ {u : U} {v : V}, okF u = true → belowU m0.length u = true → RelU C w H u v → RelU C ⟨w.F, w.f.take m0.length⟩ H u v := by
          intro u v k1 k2 r
          cases u with
          | d x => exact r
          | ref k =>
            obtain ⟨a, ea, ev⟩ := r
            refine ⟨a, ?_, ev⟩
            have hk : k < m0.length := of_decide_eq_true k2
            show (w.f.take m0.length)[k]? = some a
            rw [List.getElem?_take_of_lt hk]
            exact ea
          | _ => exact nomatch k1
        have subF : ∀ (us : List (Str × U)) (vs : List (Str × V)), (us.all fun p => okF p.2) = true → (us.all fun p => belowU m0.length p.2) = true → RelFs C w H us vs → RelFs C ⟨w.F, w.f.take m0.length⟩ H us vs := by
          intro us
          induction us with
          | nil => intro vs _ _ r; exact r
          | cons p us ih =>
            intro vs q1 q2 r
            obtain ⟨nm, u⟩ := p
            obtain ⟨v, r', ev, h1, h2⟩ := r
            rw [List.all_cons, Bool.and_eq_true] at q1 q2
            exact ⟨v, r', ev, sub q1.1 q2.1 h1, ih r' q1.2 q2.2 h2⟩
        refine ⟨by simp [h.len], h.nd.sublist (List.take_sublist _ _), fun k o a e1 e2 => ?_, fun a ha => h.nF a (List.mem_of_mem_take ha), h.tF, h.tb⟩
        by_cases hk : k < m0.length
        · have e2' : (w.f.take m0.length)[k]? = some a := e2
          rw [List.getElem?_take_of_lt hk] at e2'
          rw [List.getElem?_take_of_lt hk] at e1
          have q := h.at_ k o a e1 e2'
          cases o with
          | v x => exact q
          | ins c fs =>
            obtain ⟨cl, dx, vs, q1, q2, q3, q4⟩ := q
            have hb2 := List.all_eq_true.mp hb.2 (.ins c fs) (List.mem_of_getElem? (i := k) (by rw [List.getElem?_take_of_lt hk]; exact e1))
            exact ⟨cl, dx, vs, q1, q2, q3, subF fs vs q3 hb2 q4⟩
        · rw [List.getElem?_take_eq_none (by omega)] at e1
          cases e1
      · cases u with
        | d x => exact r
        | ref k =>
          obtain ⟨a, ea, ev⟩ := r
          refine ⟨a, ?_, ev⟩
          have hk : k < m0.length := of_decide_eq_true hb.1
          show (w.f.take m0.length)[k]? = some a
          rw [List.getElem?_take_of_lt hk]
          exact ea
        | _ => exact nomatch ok
    · exact ⟨w, n, h, r⟩
theorem start_at {C : Ct} {w : Wd} {H : Hp} {us : List U} {vs : List V} {N : List Str} (r : RelUs C w H us vs) (ok : us.all argOk = true) : RelS C w H (us.map some ++ List.replicate (N.length - us.length) none) (L2.start N vs) ∧ OwnF H (us.map some ++ List.replicate (N.length - us.length) none) (L2.start N vs) := by
  have hl := r.len
  have ok' : ∀ u ∈ us, argOk u = true := List.all_eq_true.mp ok
  have key : ∀ (i : Nat) u, (us.map some ++ List.replicate (N.length - us.length) none)[i]? = some (some u) → us[i]? = some u := fun i u e => by
    by_cases hi : i < us.length
    · rw [List.getElem?_append_left (by simpa using hi), List.getElem?_map] at e
      cases q : us[i]? with
      | none => rw [q] at e; cases e
      | some z => rw [q] at e; cases e; rfl
    · rw [List.getElem?_append_right (by simpa using Nat.le_of_not_lt hi), List.getElem?_replicate] at e
      split at e <;> cases e
  have mem : ∀ (i : Nat) u, us[i]? = some u → argOk u = true := fun i u e => ok' u (List.mem_of_getElem? e)
  refine ⟨⟨by unfold L2.start; simp [hl], fun i u e => ?_, fun i j x y v _ e _ _ => (by have := mem i _ (key i _ e); exact nomatch this), fun i x e => (by have := mem i _ (key i _ e); exact nomatch this)⟩, fun i x a e _ => (by have := mem i _ (key i _ e); exact nomatch this)⟩
  have e' := key i u e
  obtain ⟨v, ev, rv⟩ := r.get e'
  refine ⟨v, ?_, rv⟩
  have hi : i < vs.length := (List.getElem?_eq_some_iff.mp ev).1
  unfold L2.start
  rw [List.getElem?_append_left (by simpa using hi), List.getElem?_map, ev]
  rfl
theorem fn_post {K : PySem.W.Frag} {mg : Str → Option Value} {N ps : List Str} {cs : CS} {vs : List V} {H : Hp} {Q : VK} {E : XK} (h : spF ⟨K, mg, Tb.T⟩ ps.length (cFn N.length ps.length cs) vs H Q E) :
    TSc ⟨K, mg, Tb.T⟩ cs { nx := fun _ H' => Q .non H', rt := Q } (L2.start N vs) H := by
  obtain ⟨hl, w0, m, us, u, m', hh, ru, ok, ec, p⟩ := h
  have hlu : us.length = ps.length := ru.len.trans hl
  unfold cFn at ec
  rw [if_pos hlu] at ec
  obtain ⟨st1, st2⟩ := start_at (N := N) ru ok
  rw [hlu] at st1 st2
  cases q : cs (us.map some ++ List.replicate (N.length - ps.length) none) m with
  | none => rw [q] at ec; cases ec
  | some r =>
    obtain ⟨fl, ρ', m1⟩ := r
    rw [q, Option.bind_some] at ec
    refine ⟨w0, H, w0, _, m, fl, ρ', m1, Nxt.refl, st2, ⟨st1, hh⟩, q, ?_⟩
    cases fl with
    | nx =>
      cases ec
      intro w1 σ1 H1 n1 o1 s1 A1
      obtain ⟨w2, n2, h2, r2⟩ := trunc_ok (u := .d .none) (v := .non) n1 hh.len A1.h rfl rfl
      exact p w2 H1 .non n2 h2 r2 rfl
    | bk => cases ec
    | ct => cases ec
    | rt u1 =>
      simp only at ec
      split at ec
      · rename_i k1
        cases ec
        intro w1 H1 v n1 h1 r1
        obtain ⟨w2, n2, h2, r2⟩ := trunc_ok n1 hh.len h1 r1 k1
        exact p w2 H1 v n2 h2 r2 k1
      · cases ec
theorem fn_ok {P : Program} {w : World} {K : PySem.W.Frag} {mg : Str → Option Value} {base : Heap} {x qual : Str} {st : Stmt} {f : Addr} {fd : FuncData} {N ps : List Str} {k : Nat} {cs : CS} (F : Fun K x qual st f fd) (S : FnScope N ps (defScope st)) (hN : ps.length ≤ N.length)
    (hbody : ∀ (cdv : Value) (A : Around) (outer : List Env) (s : Shared) (H : Hp) (E : XK), Room k (A.deeper (envOfC qual (defScope st) s.heap.objs.size f cdv)) → Good (cxOf CX0 P w K mg base N qual (defScope st) f cdv A outer s H E).nox →
      SSs (cxOf CX0 P w K mg base N qual (defScope st) f cdv A outer s H E).nox (defBody st) cs) : FnOk P w K mg base CX0 (k + 1) f fd ps (spF ⟨K, mg, Tb.T⟩ ps.length (cFn N.length ps.length cs)) := by
  refine F.ok S (fun vs H Q E h => h.1) (fun cdv A outer s H vs Q E hr h => ?_)
  have G : Good (cxOf CX0 P w K mg base N qual (defScope st) f cdv A outer s H E).nox := ⟨rfl, S.nd, by have := hr.un; show (A.deeper _).units + 150 < cLine; omega, PassesOwn.never⟩
  exact ⟨_, hbody cdv A outer s H E hr G, fn_post h⟩
theorem cal_mk {P : Program} {w : World} {K : PySem.W.Frag} {mg : Str → Option Value} {base : Heap} {x qual : Str} {st : Stmt} {f : Addr} {fd : FuncData} {N ps : List Str} {k : Nat} {cs : CS} (F : Fun K x qual st f fd) (gm : mg x = some (.ref f)) (S : FnScope N ps (defScope st)) (hN : ps.length ≤ N.length) (b : Binds K fd ps [])
    (hbody : ∀ (cdv : Value) (A : Around) (outer : List Env) (s : Shared) (H : Hp) (E : XK), Room k (A.deeper (envOfC qual (defScope st) s.heap.objs.size f cdv)) → Good (cxOf CX0 P w K mg base N qual (defScope st) f cdv A outer s H E).nox →
      SSs (cxOf CX0 P w K mg base N qual (defScope st) f cdv A outer s H E).nox (defBody st) cs) : Cal P w K mg base (k + 1) x ps.length (cFn N.length ps.length cs) := ⟨f, fd, ps, fn_ok F S hN hbody, gm, F.kp, b⟩
end
end M

namespace M
open PySem PySem.Spec PyProof.Rows L2
variable [Tb]
abbrev CG := D → Option (List (Nat × D))
abbrev CGs := List D → Option (List (Nat × D))
def setL : Sg → List (Nat × D) → Sg
  | ρ, [] => ρ
  | ρ, p :: r => setL (ρ.set p.1 (some (.d p.2))) r
def setV : L2.St → List (Nat × V) → L2.St
  | σ, [] => σ
  | σ, p :: r => setV (σ.set p.1 (some p.2)) r
def RelL (F : Addr → Prop) (H : Hp) : List (Nat × D) → List (Nat × V) → Prop
  | [], lv => lv = []
  | (i, d) :: l, lv => ∃ v r, lv = (i, v) :: r ∧ RelD F H d v ∧ RelL F H l r
theorem RelL.app {F : Addr → Prop} {H : Hp} : ∀ {l l2 : List (Nat × D)} {lv lv2 : List (Nat × V)}, RelL F H l lv → RelL F H l2 lv2 → RelL F H (l ++ l2) (lv ++ lv2)
  | [], l2, lv, lv2, h, h2 => by
    have e : lv = [] := h
    subst e
    exact h2
  | (i, d) :: l, l2, lv, lv2, ⟨v, r, e, h1, h3⟩, h2 => by
    subst e
    exact ⟨v, r ++ lv2, rfl, h1, RelL.app h3 h2⟩
theorem RelL.split {F : Addr → Prop} {H : Hp} : ∀ {l l2 : List (Nat × D)} {lv : List (Nat × V)}, RelL F H (l ++ l2) lv → ∃ a b, lv = a ++ b ∧ RelL F H l a ∧ RelL F H l2 b
  | [], l2, lv, h => ⟨[], lv, rfl, rfl, h⟩
  | (i, d) :: l, l2, lv, ⟨v, r, e, h1, h3⟩ => by
    obtain ⟨a, b, e2, h4, h5⟩ := RelL.split h3
    subst e e2
    exact ⟨(i, v) :: a, b, rfl, ⟨v, a, rfl, h1, h4⟩, h5⟩
theorem setV_app : ∀ (l l2 : List (Nat × V)) (σ : L2.St), setV σ (l ++ l2) = setV (setV σ l) l2
  | [], l2, σ => rfl
  | p :: l, l2, σ => setV_app l l2 _
theorem setV_length : ∀ (l : List (Nat × V)) (σ : L2.St), (setV σ l).length = σ.length
  | [], σ => rfl
  | p :: l, σ => by rw [setV, setV_length l, List.length_set]
theorem RelL.slots {F : Addr → Prop} {H : Hp} : ∀ {l : List (Nat × D)} {lv : List (Nat × V)}, RelL F H l lv → lv.map (·.1) = l.map (·.1)
  | [], lv, h => by
    have e : lv = [] := h
    subst e
    rfl
  | (i, d) :: l, lv, ⟨v, r, e, h1, h3⟩ => by
    subst e
    simp [RelL.slots h3]
theorem setL_ok {C : Ct} {w : Wd} {H H0 : Hp} {m : Mh} : ∀ {l : List (Nat × D)} {lv : List (Nat × V)} {ρ : Sg} {σ : L2.St}, At C w ρ σ m H → RelL w.F H l lv → At C w (setL ρ l) (setV σ lv) m H
  | [], lv, ρ, σ, A, h => by
    have e : lv = [] := h
    subst e
    exact A
  | (i, d) :: l, lv, ρ, σ, A, ⟨v, r, e, h1, h3⟩ => by
    subst e
    exact setL_ok (H0 := H0) (l := l) (lv := r) (σ := σ.set i (some v)) ⟨A.s.set (u := .d d) h1 (fun _ z => nomatch z) (fun _ z => nomatch z), A.h⟩ h3
theorem setL_own {F : Addr → Prop} {H H0 : Hp} : ∀ {l : List (Nat × D)} {lv : List (Nat × V)} {ρ : Sg} {σ : L2.St}, OwnF H0 ρ σ → RelL F H l lv → OwnF H0 (setL ρ l) (setV σ lv)
  | [], lv, ρ, σ, A, h => by
    have e : lv = [] := h
    subst e
    exact A
  | (i, d) :: l, lv, ρ, σ, A, ⟨v, r, e, h1, h3⟩ => by
    subst e
    exact setL_own (l := l) (lv := r) (σ := σ.set i (some v)) (OwnF.set A (u := .d d) (fun _ z => nomatch z)) h3
def TGc (g : CG) : TG := fun v σ H Q => ∃ F d l, RelD F H d v ∧ g d = some l ∧ ∀ lv, RelL F H l lv → Q (setV σ lv) H
def TGsc (g : CGs) : TGs := fun vs σ H Q => ∃ F ds l, RelDs F H ds vs ∧ g ds = some l ∧ ∀ lv, RelL F H l lv → Q (setV σ lv) H
def SG (X : Cx) (e : Expr) (g : CG) : Prop := PG X e (TGc g)
def SGs (X : Cx) (es : List Expr) (g : CGs) : Prop := PGs X es (TGsc g)
theorem _root_.L2.PG.imp {X : Cx} {e : Expr} {t t' : TG} (h : PG X e t) (i : ∀ v σ H Q, t' v σ H Q → t v σ H Q) : PG X e t' := ⟨fun pins s σ H v u Q I r q => h.run pins s σ H v u Q I r (i v σ H Q q)⟩
theorem _root_.L2.PGs.imp {X : Cx} {e : List Expr} {t t' : TGs} (h : PGs X e t) (i : ∀ v σ H Q, t' v σ H Q → t v σ H Q) : PGs X e t' := ⟨fun pins s σ H v u Q I r q => h.run pins s σ H v u Q I r (i v σ H Q q)⟩
section
variable {X : Cx} {e a b : Expr} {c ca cb : CE} {pos : Pos} {st : Stmt} {rest : List Stmt} {cs ct : CS}
def gN (i : Nat) : CG := fun d => some [(i, d)]
theorem sg_name (i : Nat) {x : Str} (G : Good X) (hi : X.N[i]? = some x := by rfl) (hx : Loc X.env.scope x := by first | exact Or.inl rfl | exact Or.inr rfl) (hf : X.fn x = true ∨ X.env.scope.names.lookup x = some .local := by first | exact .inl rfl | exact .inr rfl | assumption) : SG X (.Name x pos) (gN i) :=
  (pg_name G.nd hi hx hf).imp fun v σ H Q ⟨F, d, l, r, eg, p⟩ => by
    cases eg
    exact p [(i, v)] ⟨v, [], rfl, r, rfl⟩
def gsN : CGs := fun ds => match ds with
  | [] => some []
  | _ => none
def gsC (g : CG) (gs : CGs) : CGs := fun ds => match ds with
  | d :: r => (g d).bind fun l => (gs r).map fun l2 => l ++ l2
  | _ => none
theorem sgs_nil : SGs X [] gsN := pgs_nil.imp fun vs σ H Q ⟨F, ds, l, r, eg, p⟩ => by
  cases ds with
  | nil =>
    cases eg
    exact ⟨r, p [] rfl⟩
  | cons => cases eg
theorem sgs_cons {es : List Expr} {g : CG} {gs : CGs} (h1 : SG X e g) (h2 : SGs X es gs) (hs : (assignEach (e :: es) X.env).map (·.2) = assign e X.env :: (assignEach es X.env).map (·.2) := by rfl) : SGs X (e :: es) (gsC g gs) :=
  (pgs_cons h1 h2 hs).imp fun vs σ H Q ⟨F, ds, l, r, eg, p⟩ => by
    cases ds with
    | nil => cases eg
    | cons d ds =>
      obtain ⟨v, vr, ev, r1, r2⟩ := r
      have eg : ((g d).bind fun l => (gs ds).map fun l2 => l ++ l2) = some l := eg
      cases q : g d with
      | none => rw [q] at eg; cases eg
      | some l1 =>
        rw [q, Option.bind_some] at eg
        cases q2 : gs ds with
        | none => rw [q2] at eg; cases eg
        | some l2 =>
          rw [q2] at eg
          cases eg
          refine ⟨v, vr, ev, F, d, l1, r1, q, fun lv hlv => ⟨F, ds, l2, r2, q2, fun lv2 hlv2 => ?_⟩⟩
          rw [← setV_app]
          exact p _ (hlv.app hlv2)
def gT (n : Nat) (gs : CGs) : CG := fun d => match d with
  | .tuple ds => if ds.length = n then gs ds else none
  | _ => none
theorem sg_tup {es : List Expr} {k : Nat} {gs : CGs} (n : Nat) (G : Good X) (h : SGs X es gs) (hn : (assignEach es X.env).length = n := by rfl) (hst : (assignEach es X.env).findIdx? (·.1) = none := by rfl) : SG X (.Tuple es k pos) (gT n gs) :=
  (pg_tup G.calm h hn hst).imp fun v σ H Q ⟨F, d, l, r, eg, p⟩ => by
    cases d with
    | tuple ds =>
      have eg : (if ds.length = n then gs ds else none) = some l := eg
      split at eg
      · rename_i hl
        obtain ⟨a, vs, ev, h1, h2⟩ := r
        exact ⟨a, vs, ev, SqT.of h1, by rw [← h2.len]; exact hl, F, ds, l, h2, eg, p⟩
      · cases eg
    | _ => cases eg
def sAsgG (g : CG) (c : CE) : CS := fun ρ m => (c ρ m).bind fun p => match p.1 with
  | .d d => (g d).map fun l => (.nx, setL ρ l, p.2)
  | _ => none
theorem ss_asgG {tg : Expr} {g : CG} (he : SE X e c) (hg : SG X tg g) (hs : swapsWithSole [tg] e pos.line X.env = pure false := by rfl) (hw : swappedStores [tg] e X.env = pure none := by rfl)
    (h1 : (assignEach [tg] X.env).map (·.2) = [assign tg X.env] := by rfl) : SS X (.Assign [tg] e pos) (sAsgG g c) := (ps_asg he hg hs hw h1).imp fun D σ H ⟨w0, H0, w, ρ, m, fl, ρ', m', n, o, A, ec, p⟩ => by
  unfold sAsgG at ec
  cases q : c ρ m with
  | none => rw [q] at ec; cases ec
  | some r =>
    obtain ⟨u1, m1⟩ := r
    rw [q, Option.bind_some] at ec
    cases u1 with
    | d x =>
      simp only [Option.map_eq_some_iff] at ec
      obtain ⟨l, gl, e2⟩ := ec
      cases e2
      refine ⟨w, ρ, m, _, _, A, q, fun w1 H1 v1 n1 h1 r1 f1 => ⟨w1.F, x, l, r1, gl, fun lv hlv => ?_⟩⟩
      exact p w1 _ H1 (n.trans n1) (setL_own o hlv) (n1.stp A.h) (setL_ok (H0 := H0) (A.nxt n1 h1) hlv)
    | _ => cases ec
end
theorem Stp.wr {F : Addr → Prop} {H : Hp} {a : Addr} {o u : HO} (h1 : ¬ F a) (h2 : H a = some o) (h3 : ∀ vs, o ≠ .tup vs) : Stp F H F (upd H a u) :=
  ⟨fun _ h => h, fun b o' hF e => by
    exact (upd_ne (by rintro rfl; exact h1 hF)).trans e, fun b vs e =>
    (upd_ne (by rintro rfl; rw [h2] at e; cases e; exact h3 vs rfl)).trans e⟩
theorem RelFs.stp {C : Ct} {w : Wd} {H H' : Hp} (s : Stp w.F H w.F H') : ∀ {us : List (Str × U)} {vs : List (Str × V)}, (us.all fun p => okF p.2) = true → RelFs C w H us vs → RelFs C w H' us vs
  | [], _, _, r => r
  | (nm, u) :: us, vs, q, ⟨v, r, e, h1, h2⟩ => by
    rw [List.all_cons, Bool.and_eq_true] at q
    refine ⟨v, r, e, ?_, RelFs.stp s q.2 h2⟩
    cases u with
    | d x => exact RelD.stp s x v h1
    | ref k => exact h1
    | _ => exact nomatch q.1
theorem RelO.stp {C : Ct} {w : Wd} {H H' : Hp} (s : Stp w.F H w.F H') {o : MO} {a : Addr} (k : ∀ u, H a = some u → H' a = some u) (r : RelO C w H o a) : RelO C w H' o a := by
  cases o with
  | v x => exact RelC.stp s k r
  | ins c fs =>
    obtain ⟨cl, dx, vs, h1, h2, h3, h4⟩ := r
    exact ⟨cl, dx, vs, h1, k _ h2, h3, RelFs.stp s h3 h4⟩
theorem RelH.wr {C : Ct} {w : Wd} {m : Mh} {H : Hp} {a : Addr} {o u : HO} (h : RelH C w m H) (h1 : ¬ w.F a) (h2 : a ∉ w.f) (h3 : H a = some o) (h4 : ∀ vs, o ≠ .tup vs) (h5 : ∀ ps, o ≠ .tbl ps := by intro _ z; cases z) : RelH C w m (upd H a u) :=
  ⟨h.len, h.nd, fun r o' b e1 e2 => RelO.stp (Stp.wr h1 h3 h4) (fun x e => (upd_ne (by rintro rfl; exact h2 (List.mem_of_getElem? e2))).trans e) (h.at_ r o' b e1 e2), h.nF, fun b z => by
    obtain ⟨o', e, q⟩ := h.tF b z
    exact ⟨o', (upd_ne (by rintro rfl; exact h1 z)).trans e, q⟩, fun P hP => let ⟨ps, e, q⟩ := h.tb P hP; ⟨ps, (upd_ne (by rintro rfl; rw [h3] at e; cases e; exact h5 ps rfl)).trans e, q⟩⟩
theorem RelU.wr {C : Ct} {w : Wd} {H : Hp} {a : Addr} {o x : HO} (h1 : ¬ w.F a) (h3 : H a = some o) (h4 : ∀ vs, o ≠ .tup vs) (h5 : ∀ ob y, o ≠ .frz ob y) {u : U} {v : V} (hu : (∃ y, u = .own y) ∨ (∃ y, u = .tmp y) → v ≠ .ref a) (r : RelU C w H u v) : RelU C w (upd H a x) u v := by
  cases u with
  | d y => exact RelD.stp (Stp.wr h1 h3 h4) y v r
  | ref k => exact r
  | own y =>
    obtain ⟨b, ev, g1, g2, g3⟩ := r
    exact ⟨b, ev, g1, g2, RelC.stp (Stp.wr h1 h3 h4) (fun z e => (upd_ne (by rintro rfl; exact hu (.inl ⟨y, rfl⟩) ev)).trans e) g3⟩
  | tmp y =>
    obtain ⟨b, ev, g1, g2, g3⟩ := r
    exact ⟨b, ev, g1, g2, RelC.stp (Stp.wr h1 h3 h4) (fun z e => (upd_ne (by rintro rfl; exact hu (.inr ⟨y, rfl⟩) ev)).trans e) g3⟩
  | scr ns =>
    obtain ⟨b, ev, g⟩ := r
    refine ⟨b, ev, g.imp (fun ⟨ob, e⟩ => ⟨ob, ?_⟩) fun z => z.imp (fun z => z) fun z => RelD.stp (Stp.wr h1 h3 h4) _ _ z⟩
    exact (upd_ne (by rintro rfl; rw [h3] at e; cases e; exact h5 _ _ rfl)).trans e
theorem RelS.wr {C : Ct} {w : Wd} {H : Hp} {ρ : Sg} {σ : L2.St} {a : Addr} {o x : HO} (s : RelS C w H ρ σ) (h1 : ¬ w.F a) (h3 : H a = some o) (h4 : ∀ vs, o ≠ .tup vs) (h5 : ∀ ob y, o ≠ .frz ob y) (ha : ∀ (i : Nat) y, ρ[i]? = some (some (.own y)) → σ[i]? ≠ some (some (.ref a))) : RelS C w (upd H a x) ρ σ :=
  ⟨s.len, fun i u e => by
    obtain ⟨v, ev, r⟩ := s.at_ i u e
    refine ⟨v, ev, RelU.wr h1 h3 h4 h5 (fun z => ?_) r⟩
    rcases z with ⟨y, rfl⟩ | ⟨y, rfl⟩
    · exact fun q => ha i y e (q ▸ ev)
    · exact (s.nt i y e).elim, s.sep, s.nt⟩
def wipeG (ρ : Sg) : List Nat → Sg
  | [] => ρ
  | v :: vs => (wipeG ρ vs).set v none
theorem wipeG_get {ρ : Sg} : ∀ {vs : List Nat} {i : Nat} {u : U}, (wipeG ρ vs)[i]? = some (some u) → ρ[i]? = some (some u) ∧ i ∉ vs
  | [], i, u, h => ⟨h, by simp⟩
  | v :: vs, i, u, h => by
    have h : ((wipeG ρ vs).set v none)[i]? = some (some u) := h
    rw [List.getElem?_set] at h
    by_cases hv : v = i
    · rw [if_pos hv] at h
      split at h <;> cases h
    · rw [if_neg hv] at h
      obtain ⟨h1, h2⟩ := wipeG_get h
      exact ⟨h1, by simp [h2, Ne.symm hv]⟩
theorem wipeG_length {ρ : Sg} : ∀ vs : List Nat, (wipeG ρ vs).length = ρ.length
  | [] => rfl
  | v :: vs => by rw [wipeG, List.length_set, wipeG_length vs]
theorem wipe_get {σ : L2.St} : ∀ {vs : List Nat} {i : Nat}, i ∉ vs → (wipe σ vs)[i]? = σ[i]?
  | [], i, _ => rfl
  | v :: vs, i, h => by
    have h1 : v ≠ i := fun z => h (by simp [z])
    show ((wipe σ vs).set v none)[i]? = _
    rw [List.getElem?_set, if_neg h1, wipe_get fun z => h (by simp [z])]
theorem wipe_in {σ : L2.St} : ∀ {vs : List Nat} {i : Nat}, i ∈ vs → (wipe σ vs)[i]? = if i < σ.length then some none else none
  | [], i, h => by simp at h
  | v :: vs, i, h => by
    show ((wipe σ vs).set v none)[i]? = _
    rw [List.getElem?_set, wipe_length]
    by_cases hv : v = i
    · rw [if_pos hv, hv]
    · rw [if_neg hv]
      refine wipe_in ?_
      rcases List.mem_cons.mp h with z | z
      · exact (hv z.symm).elim
      · exact z
theorem At.wiped {C : Ct} {w : Wd} {ρ : Sg} {σ : L2.St} {m : Mh} {H : Hp} (A : At C w ρ σ m H) (vs : List Nat) : At C w (wipeG ρ vs) (wipe σ vs) m H :=
  ⟨⟨by rw [wipeG_length, wipe_length]; exact A.s.len, fun i u e => by
    obtain ⟨h1, h2⟩ := wipeG_get e
    obtain ⟨v, ev, r⟩ := A.s.at_ i u h1
    exact ⟨v, by rw [wipe_get h2]; exact ev, r⟩, fun i j x y v hij e1 e2 e3 e4 => by
    obtain ⟨h1, h2⟩ := wipeG_get e1
    obtain ⟨h3, h4⟩ := wipeG_get e2
    rw [wipe_get h2] at e3
    rw [wipe_get h4] at e4
    exact A.s.sep i j x y v hij h1 h3 e3 e4, fun i x e => A.s.nt i x (wipeG_get e).1⟩, A.h⟩
theorem setV_get : ∀ {lv : List (Nat × V)} {σ : L2.St} {i : Nat}, i ∉ lv.map (·.1) → (setV σ lv)[i]? = σ[i]?
  | [], σ, i, _ => rfl
  | p :: lv, σ, i, h => by
    have h1 : p.1 ≠ i := fun z => h (by simp [z])
    show (setV (σ.set p.1 (some p.2)) lv)[i]? = _
    rw [setV_get (fun z => h (List.mem_cons_of_mem _ z)), List.getElem?_set, if_neg h1]
theorem wipe_set {σ : L2.St} {vs : List Nat} {lv : List (Nat × V)} (h : ∀ p ∈ lv, p.1 ∈ vs) : wipe (setV (wipe σ vs) lv) vs = wipe σ vs := by
  apply List.ext_getElem?
  intro i
  by_cases hi : i ∈ vs
  · rw [wipe_in hi, wipe_in hi, setV_length, wipe_length]
  · rw [wipe_get hi, setV_get]
    intro z
    obtain ⟨p, hp, e⟩ := List.mem_map.mp z
    exact hi (e ▸ h p hp)
end M

namespace M
open PySem PySem.Spec PyProof.Rows L2
variable [Tb]
abbrev CI := Sg → Mh → Option (List D × Mh)
def WlkP (C : Ct) (ok : Wd → Hp → Prop) (J : It) (xs : List D) : Prop := ∀ w2 m2 H2, ok w2 H2 → RelH C w2 m2 H2 →
  (∀ i, xs.length ≤ i → J.stop i H2) ∧ ∀ i d, xs[i]? = some d → J.go i H2 ∧ ∀ x H3, J.yld i H2 x H3 → Nxt w2 H2 w2 H3 ∧ RelH C w2 m2 H3 ∧ RelD w2.F H3 d x
def okS (w : Wd) (H : Hp) : Wd → Hp → Prop := fun w2 H2 => Stp w.F H w2.F H2
def okN (w : Wd) (H : Hp) : Wd → Hp → Prop := fun w2 H2 => Nxt w H w2 H2
def TIc (C : Ct) (ci : CI) : TI := fun σ H R => ∃ w ρ m xs m', At C w ρ σ m H ∧ ci ρ m = some (xs, m') ∧ ∀ w' H' J, Nxt w H w' H' → RelH C w' m' H' → WlkP C (okS w' H') J xs → R J H'
def TJc (C : Ct) (ci : CI) : TI := fun σ H R => ∃ w ρ m xs m', At C w ρ σ m H ∧ ci ρ m = some (xs, m') ∧ ∀ w' H' J, Nxt w H w' H' → RelH C w' m' H' → WlkP C (okN w' H') J xs → R J H'
def SI (X : Cx) (tg it : Expr) (ci : CI) : Prop := PI X tg it (TIc X.ct ci)
def SJ (X : Cx) (tg it : Expr) (ci : CI) : Prop := PI X tg it (TJc X.ct ci)
theorem _root_.L2.PI.imp {X : Cx} {tg it : Expr} {t t' : TI} (h : PI X tg it t) (i : ∀ σ H R, t' σ H R → t σ H R) : PI X tg it t' := ⟨fun pins s σ H R I q => h.run pins s σ H R I (i σ H R q)⟩
theorem _root_.L2.PI.or {X : Cx} {tg it : Expr} {t t' : TI} (h : PI X tg it t) (h' : PI X tg it t') : PI X tg it (fun σ H R => t σ H R ∨ t' σ H R) :=
  ⟨fun pins s σ H R I q => q.elim (h.run pins s σ H R I) (h'.run pins s σ H R I)⟩
theorem sj_of {X : Cx} {tg it : Expr} {ci : CI} (h : SI X tg it ci) : SJ X tg it ci := PI.imp h fun σ H R ⟨w, ρ, m, xs, m', A, ec, p⟩ =>
  ⟨w, ρ, m, xs, m', A, ec, fun w' H' J n h wk => p w' H' J n h fun w2 m2 H2 o h2 => wk w2 m2 H2 (n_stp o h) h2⟩
where n_stp {C : Ct} {w w2 : Wd} {m : Mh} {H H2 : Hp} (n : okN w H w2 H2) (h : RelH C w m H) : okS w H w2 H2 := Nxt.stp n h
section
variable {C : Ct} {ok : Wd → Hp → Prop} {xs ys : List D}
theorem wlk_list {K : PySem.W.Frag} {a : Addr} (h : ∀ w2 H2, ok w2 H2 → ∃ vs, H2 a = some (.lst vs) ∧ RelDs w2.F H2 xs vs) : WlkP C ok (Itl K a) xs := fun w2 m2 H2 o h2 => by
  obtain ⟨vs, e, r⟩ := h w2 H2 o
  refine ⟨fun i hi => ⟨vs, SqL.of e, by rw [← r.len]; exact hi⟩, fun i d hd => ?_⟩
  obtain ⟨v, ev, rv⟩ := r.get hd
  refine ⟨⟨vs, v, SqL.of e, ev⟩, fun x H3 ⟨e3, q⟩ => ?_⟩
  subst e3
  have e4 := q vs (SqL.of e)
  rw [ev] at e4
  cases e4
  exact ⟨Nxt.refl, h2, rv⟩
theorem wlk_tup {K : PySem.W.Frag} {a : Addr} (h : ∀ w2 H2, ok w2 H2 → ∃ vs, SqT K H2 a vs ∧ RelDs w2.F H2 xs vs) : WlkP C ok (Itt K a) xs := fun w2 m2 H2 o h2 => by
  obtain ⟨vs, e, r⟩ := h w2 H2 o
  refine ⟨fun i hi => ⟨vs, e, by rw [← r.len]; exact hi⟩, fun i d hd => ?_⟩
  obtain ⟨v, ev, rv⟩ := r.get hd
  refine ⟨⟨vs, v, e, ev⟩, fun x H3 ⟨e3, q⟩ => ?_⟩
  subst e3
  have e4 := q vs e
  rw [ev] at e4
  cases e4
  exact ⟨Nxt.refl, h2, rv⟩
def zipD : List D → List D → List D
  | x :: xs, y :: ys => .tuple [x, y] :: zipD xs ys
  | _, _ => []
theorem zipD_get : ∀ {xs ys : List D} {i : Nat} {d : D}, (zipD xs ys)[i]? = some d → ∃ x y, xs[i]? = some x ∧ ys[i]? = some y ∧ d = .tuple [x, y]
  | [], ys, i, d, h => by simp [zipD] at h
  | x :: xs, [], i, d, h => by simp [zipD] at h
  | x :: xs, y :: ys, 0, d, h => by
    simp [zipD] at h
    exact ⟨x, y, rfl, rfl, h.symm⟩
  | x :: xs, y :: ys, i + 1, d, h => by
    simp [zipD] at h
    obtain ⟨x', y', h1, h2, h3⟩ := zipD_get h
    exact ⟨x', y', by simpa using h1, by simpa using h2, h3⟩
theorem zipD_len : ∀ {xs ys : List D} {i : Nat}, (zipD xs ys).length ≤ i → xs.length ≤ i ∨ ys.length ≤ i
  | [], ys, i, h => .inl (by simp)
  | x :: xs, [], i, h => .inr (by simp)
  | x :: xs, y :: ys, 0, h => by simp [zipD] at h
  | x :: xs, y :: ys, i + 1, h => by
    simp [zipD] at h
    rcases zipD_len h with h | h
    · exact .inl (by simpa using h)
    · exact .inr (by simpa using h)
theorem pair_new {w2 : Wd} {m2 : Mh} {H2 : Hp} {T : Addr} {x y : D} {v u : V} (h2 : RelH C w2 m2 H2) (hT : H2 T = none) (rx : RelD w2.F H2 x v) (ry : RelD w2.F H2 y u) :
    Nxt w2 H2 w2 (upd H2 T (.tup [v, u])) ∧ RelH C w2 m2 (upd H2 T (.tup [v, u])) ∧ RelD w2.F (upd H2 T (.tup [v, u])) (.tuple [x, y]) (.ref T) := by
  have s : Stp w2.F H2 w2.F (upd H2 T (.tup [v, u])) := (Nxt.laid hT).stp h2
  exact ⟨Nxt.laid hT, h2.laid hT, T, [v, u], rfl, upd_same, v, [u], rfl, RelD.stp s x v rx, u, [], rfl, RelD.stp s y u ry, rfl⟩
theorem wlk_zipL {K : PySem.W.Frag} {a b : Addr} (h : ∀ w2 H2, ok w2 H2 → ∃ vs us, SqL K H2 a vs ∧ SqL K H2 b us ∧ RelDs w2.F H2 xs vs ∧ RelDs w2.F H2 ys us) : WlkP C ok (Itz K a b) (zipD xs ys) := fun w2 m2 H2 o h2 => by
  obtain ⟨vs, us, e1, e2, r1, r2⟩ := h w2 H2 o
  refine ⟨fun i hi => ⟨vs, us, e1, e2, by rw [← r1.len, ← r2.len]; exact zipD_len hi⟩, fun i d hd => ?_⟩
  obtain ⟨x, y, g1, g2, rfl⟩ := zipD_get hd
  obtain ⟨v, ev, rv⟩ := r1.get g1
  obtain ⟨u, eu, ru⟩ := r2.get g2
  refine ⟨⟨vs, us, v, u, e1, e2, ev, eu⟩, fun z H3 ⟨T, x', y', ez, hT, e3, q1, q2⟩ => ?_⟩
  have f1 := q1 vs e1
  have f2 := q2 us e2
  rw [ev] at f1
  rw [eu] at f2
  cases f1
  cases f2
  subst ez e3
  exact pair_new h2 hT rv ru
theorem wlk_zipT {K : PySem.W.Frag} {a b : Addr} (h : ∀ w2 H2, ok w2 H2 → ∃ vs us, SqT K H2 a vs ∧ SqT K H2 b us ∧ RelDs w2.F H2 xs vs ∧ RelDs w2.F H2 ys us) : WlkP C ok (RZ.ItzT K a b) (zipD xs ys) := fun w2 m2 H2 o h2 => by
  obtain ⟨vs, us, e1, e2, r1, r2⟩ := h w2 H2 o
  refine ⟨fun i hi => ⟨vs, us, e1, e2, by rw [← r1.len, ← r2.len]; exact zipD_len hi⟩, fun i d hd => ?_⟩
  obtain ⟨x, y, g1, g2, rfl⟩ := zipD_get hd
  obtain ⟨v, ev, rv⟩ := r1.get g1
  obtain ⟨u, eu, ru⟩ := r2.get g2
  refine ⟨⟨vs, us, v, u, e1, e2, ev, eu⟩, fun z H3 ⟨T, x', y', ez, hT, e3, q1, q2⟩ => ?_⟩
  have f1 := q1 vs e1
  have f2 := q2 us e2
  rw [ev] at f1
  rw [eu] at f2
  cases f1
  cases f2
  subst ez e3
  exact pair_new h2 hT rv ru
def enumD : Nat → List D → List D
  | _, [] => []
  | n, x :: xs => .tuple [.int (n : Nat), x] :: enumD (n + 1) xs
theorem enumD_len : ∀ {xs : List D} {n : Nat}, (enumD n xs).length = xs.length
  | [], n => rfl
  | x :: xs, n => by simp [enumD, enumD_len]
theorem enumD_get : ∀ {xs : List D} {n i : Nat} {d : D}, (enumD n xs)[i]? = some d → ∃ x, xs[i]? = some x ∧ d = .tuple [.int ((n + i : Nat) : Int), x]
  | [], n, i, d, h => by simp [enumD] at h
  | x :: xs, n, 0, d, h => by
    simp [enumD] at h
    exact ⟨x, rfl, h.symm⟩
  | x :: xs, n, i + 1, d, h => by
    simp [enumD] at h
    obtain ⟨x', h1, h2⟩ := enumD_get h
    refine ⟨x', by simpa using h1, ?_⟩
    rw [h2, show n + 1 + i = n + (i + 1) by omega]
theorem wlk_enum {K : PySem.W.Frag} {a : Addr} (h : ∀ w2 H2, ok w2 H2 → ∃ vs, H2 a = some (.lst vs) ∧ RelDs w2.F H2 xs vs) : WlkP C ok (Ite K a) (enumD 0 xs) := fun w2 m2 H2 o h2 => by
  obtain ⟨vs, e1, r1⟩ := h w2 H2 o
  refine ⟨fun i hi => ⟨vs, SqL.of e1, by rw [← r1.len, ← enumD_len (n := 0)]; exact hi⟩, fun i d hd => ?_⟩
  obtain ⟨x, g1, rfl⟩ := enumD_get hd
  obtain ⟨v, ev, rv⟩ := r1.get g1
  refine ⟨⟨vs, v, SqL.of e1, ev⟩, fun z H3 ⟨T, x', ez, hT, e3, q1⟩ => ?_⟩
  have f1 := q1 vs (SqL.of e1)
  rw [ev] at f1
  cases f1
  subst ez e3
  rw [Nat.zero_add]
  exact pair_new (x := .int ((i : Nat) : Int)) h2 hT rfl rv
def rngC (lo c : Int) (n : Nat) : List D := (List.range n).map fun i => .int (lo + (i : Nat) * c)
def rngD (lo : Int) (n : Nat) : List D := (List.range n).map fun i => .int (lo + (i : Nat))
theorem wlk_rng {lo : Int} {n : Nat} : WlkP C ok (Itr lo n) (rngD lo n) := fun w2 m2 H2 o h2 => by
  refine ⟨fun i hi => (by simpa [rngD] using hi : n ≤ i), fun i d hd => ?_⟩
  simp only [rngD, List.getElem?_map, Option.map_eq_some_iff] at hd
  obtain ⟨j, hj, rfl⟩ := hd
  rw [List.getElem?_eq_some_iff] at hj
  obtain ⟨hl, hj⟩ := hj
  simp at hl hj
  subst hj
  refine ⟨hl, fun x H3 ⟨e3, ex⟩ => ?_⟩
  subst e3 ex
  exact ⟨Nxt.refl, h2, rfl⟩
theorem wlk_rngC {lo c : Int} {n : Nat} : WlkP C ok (Itc lo c n) (rngC lo c n) := fun w2 m2 H2 o h2 => by
  refine ⟨fun i hi => (by simpa [rngC] using hi : n ≤ i), fun i d hd => ?_⟩
  simp only [rngC, List.getElem?_map, Option.map_eq_some_iff] at hd
  obtain ⟨j, hj, rfl⟩ := hd
  rw [List.getElem?_eq_some_iff] at hj
  obtain ⟨hl, hj⟩ := hj
  simp at hl hj
  subst hj
  refine ⟨hl, fun x H3 ⟨e3, ex⟩ => ?_⟩
  subst e3 ex
  exact ⟨Nxt.refl, h2, rfl⟩
theorem wlk_str {x : Str} : WlkP C ok (Its x) (x.cps.toList.map fun c => .str ⟨#[c]⟩) := fun w2 m2 H2 o h2 => by
  refine ⟨fun i hi => by simpa [Its] using hi, fun i d hd => ?_⟩
  simp only [List.getElem?_map, Option.map_eq_some_iff] at hd
  obtain ⟨j, hj, rfl⟩ := hd
  have hj' : x.cps[i]? = some j := by simpa using hj
  refine ⟨(Array.getElem?_eq_some_iff.mp hj').1, fun z H3 ⟨e3, c, ec, ez⟩ => ?_⟩
  subst e3 ez
  rw [hj'] at ec
  cases ec
  exact ⟨Nxt.refl, h2, rfl⟩
end
section
variable {X : Cx} {tg e e2 a b d : Expr} {c ca cb cd : CE} {pos p : Pos}
def seqS : U → Option (List D)
  | .d (.list xs) => some xs
  | .d (.tuple xs) => some xs
  | .tmp (.list xs) => some xs
  | _ => none
def seqN : U → Option (List D)
  | .d (.list xs) => some xs
  | .d (.tuple xs) => some xs
  | .tmp (.list xs) => some xs
  | .own (.list xs) => some xs
  | _ => none
def ciSeq (c : CE) : CI := fun ρ m => (c ρ m).bind fun p => (seqS p.1).map fun xs => (xs, p.2)
def cjSeq (c : CE) : CI := fun ρ m => (c ρ m).bind fun p => (seqN p.1).map fun xs => (xs, p.2)
theorem bindI {α : Type} {f : U → Option α} {ρ : Sg} {m m' : Mh} {xs : α} (h : ((c ρ m).bind fun p => (f p.1).map fun xs => (xs, p.2)) = some (xs, m')) : ∃ u, c ρ m = some (u, m') ∧ f u = some xs := by
  cases q : c ρ m with
  | none => rw [q] at h; cases h
  | some r =>
    obtain ⟨u1, m1⟩ := r
    rw [q, Option.bind_some, Option.map_eq_some_iff] at h
    obtain ⟨l, gl, e2⟩ := h
    cases e2
    exact ⟨u1, rfl, gl⟩
theorem si_seq (h : SE X e c) : SI X tg e (ciSeq c) := ((pi_list (se_fz h)).or (pi_tup (se_fz h))).imp fun σ H R ⟨w, ρ, m, xs, m', A, ec, p⟩ => by
  obtain ⟨u, hc, hu⟩ := bindI ec
  have hl : ∀ {d : D}, fzU u = some (.d d) → cFz c ρ m = some (.d d, m') := fun {d} e => by unfold cFz; rw [hc, Option.bind_some, e]; rfl
  have L : ∀ {xs : List D}, fzU u = some (.d (.list xs)) → (∀ w' H' J, Nxt w H w' H' → RelH X.ct w' m' H' → WlkP X.ct (okS w' H') J xs → R J H') → iList X.K (TEc X.ct (cFz c)) σ H R := fun {xs} e p => by
    refine ⟨w, ρ, m, _, m', A, hl e, fun w1 H1 v1 n1 h1 r1 _ => ?_⟩
    obtain ⟨a, vs, ev, hF, g1, g2⟩ := r1
    exact ⟨a, ev, ⟨vs, SqL.of g1⟩, p w1 H1 _ n1 h1 (wlk_list fun w2 H2 o => ⟨vs, o.fz a _ hF g1, RelDs.stp o _ _ g2⟩)⟩
  cases u with
  | d x =>
    cases x with
    | list ys => cases hu; exact .inl (L rfl p)
    | tuple ys =>
      cases hu
      refine .inr ⟨w, ρ, m, _, m', A, hl rfl, fun w1 H1 v1 n1 h1 r1 _ => ?_⟩
      obtain ⟨a, vs, ev, g1, g2⟩ := r1
      exact ⟨a, ev, ⟨vs, SqT.of g1⟩, p w1 H1 _ n1 h1 (wlk_tup fun w2 H2 o => ⟨vs, SqT.of (o.tp a _ g1), RelDs.stp o _ _ g2⟩)⟩
    | _ => cases hu
  | tmp x =>
    cases x with
    | list ys => cases hu; exact .inl (L rfl p)
    | _ => cases hu
  | _ => cases hu
theorem sj_seq (h : SE X e c) : SJ X tg e (cjSeq c) := ((pi_list h).or (pi_tup h)).imp fun σ H R ⟨w, ρ, m, xs, m', A, ec, p⟩ => by
  obtain ⟨u, hc, hu⟩ := bindI ec
  cases u with
  | d x =>
    cases x with
    | list ys =>
      cases hu
      refine .inl ⟨w, ρ, m, _, m', A, hc, fun w1 H1 v1 n1 h1 r1 _ => ?_⟩
      obtain ⟨a, vs, ev, hF, g1, g2⟩ := r1
      exact ⟨a, ev, ⟨vs, SqL.of g1⟩, p w1 H1 _ n1 h1 (wlk_list fun w2 H2 o => ⟨vs, (o.stp h1).fz a _ hF g1, RelDs.stp (o.stp h1) _ _ g2⟩)⟩
    | tuple ys =>
      cases hu
      refine .inr ⟨w, ρ, m, _, m', A, hc, fun w1 H1 v1 n1 h1 r1 _ => ?_⟩
      obtain ⟨a, vs, ev, g1, g2⟩ := r1
      exact ⟨a, ev, ⟨vs, SqT.of g1⟩, p w1 H1 _ n1 h1 (wlk_tup fun w2 H2 o => ⟨vs, SqT.of ((o.stp h1).tp a _ g1), RelDs.stp (o.stp h1) _ _ g2⟩)⟩
    | _ => cases hu
  | tmp x =>
    cases x with
    | list ys =>
      cases hu
      refine .inl ⟨w, ρ, m, _, m', A, hc, fun w1 H1 v1 n1 h1 r1 _ => ?_⟩
      obtain ⟨a, ev, hF, hf, vs, g1, g2⟩ := r1
      exact ⟨a, ev, ⟨vs, SqL.of g1⟩, p w1 H1 _ n1 h1 (wlk_list fun w2 H2 o => ⟨vs, (o.free g1 hF hf).2.2, RelDs.stp (o.stp h1) _ _ g2⟩)⟩
    | _ => cases hu
  | own x =>
    cases x with
    | list ys =>
      cases hu
      refine .inl ⟨w, ρ, m, _, m', A, hc, fun w1 H1 v1 n1 h1 r1 _ => ?_⟩
      obtain ⟨a, ev, hF, hf, vs, g1, g2⟩ := r1
      exact ⟨a, ev, ⟨vs, SqL.of g1⟩, p w1 H1 _ n1 h1 (wlk_list fun w2 H2 o => ⟨vs, (o.free g1 hF hf).2.2, RelDs.stp (o.stp h1) _ _ g2⟩)⟩
    | _ => cases hu
  | _ => cases hu
def ciC (ds : List D) : CI := fun _ m => some (ds, m)
theorem si_gtup {x : Str} {g : Addr} {ds : List D} {vs : List V} {px : Pos} (hg : Gl X x) (hm : X.mg x = some (.ref g)) (hT : ∀ H, SqT X.K H g vs) (r : RelC0 ds vs) (hd : (x == ("__debug__" : Str)) = false := by decide) : SI X tg (.Name x px) (ciC ds) :=
  (pi_tup (pe_glob (v := .ref g) hg hm rfl hd)).imp fun σ H R ⟨w, ρ, m, xs, m', A, ec, p⟩ => by
    cases ec
    exact ⟨g, rfl, ⟨vs, hT H⟩, p w H _ Nxt.refl A.h (wlk_tup fun w2 H2 o => ⟨vs, hT H2, r _ _⟩)⟩
def i62 (j : Int) : Bool := decide (-4611686018427387904 ≤ j) && decide (j < 4611686018427387904)
theorem i62_ok {j : Int} (h : i62 j = true) : -(2 ^ 62) ≤ j ∧ j < 2 ^ 62 := by
  unfold i62 at h
  rw [Bool.and_eq_true, decide_eq_true_eq, decide_eq_true_eq] at h
  exact ⟨by omega, by omega⟩
def intsU : List U → Option (List Int)
  | [] => some []
  | .d (.int i) :: r => (intsU r).map fun l => i :: l
  | _ => none
theorem intsU_ok {C : Ct} {w : Wd} {H : Hp} : ∀ {us : List U} {vs : List V} {l : List Int}, intsU us = some l → RelUs C w H us vs → vs = l.map V.int
  | [], vs, l, e, r => by
    cases e
    exact r
  | u :: us, vs, l, e, ⟨v, r, ev, h1, h2⟩ => by
    cases u with
    | d x =>
      cases x with
      | int i =>
        simp only [intsU, Option.map_eq_some_iff] at e
        obtain ⟨l', e1, rfl⟩ := e
        have h1 : v = .int i := h1
        rw [ev, h1, intsU_ok e1 h2]
        rfl
      | _ => cases e
    | _ => cases e
def ciA (f : List Int → Option (List D)) (t : CA) : CI := fun ρ m => (t ρ m).bind fun p => (intsU p.1).bind fun l => (f l).map fun xs => (xs, p.2)
theorem ciA_ok {f : List Int → Option (List D)} {t : CA} {ρ : Sg} {m m' : Mh} {xs : List D} (h : ciA f t ρ m = some (xs, m')) : ∃ us l, t ρ m = some (us, m') ∧ intsU us = some l ∧ f l = some xs := by
  unfold ciA at h
  cases q : t ρ m with
  | none => rw [q] at h; cases h
  | some r =>
    obtain ⟨us, m1⟩ := r
    rw [q, Option.bind_some] at h
    cases q2 : intsU us with
    | none => simp only [q2] at h; cases h
    | some l =>
      simp only [q2, Option.bind_some, Option.map_eq_some_iff] at h
      obtain ⟨l', e1, e2⟩ := h
      cases e2
      exact ⟨us, l, rfl, q2, e1⟩
def rg1 : List Int → Option (List D)
  | [j] => if i62 j = true then some (rngD 0 j.toNat) else none
  | _ => none
def rg2 : List Int → Option (List D)
  | [i, j] => if (i62 i && i62 j) = true then some (rngD i (j - i).toNat) else none
  | _ => none
def rg3 : List Int → Option (List D)
  | [i, j, c] => if (c != 0 && decide (c.natAbs < 1073741824) && Builtin.Range.small i j c && decide (0 ≤ Builtin.Range.rangeSize i j c)) = true then some (rngC i c (Builtin.Range.rangeSize i j c).toNat) else none
  | _ => none
def ciRng1 (c : CE) : CI := ciA rg1 (caCons c caNil)
def ciRng2 (c d : CE) : CI := ciA rg2 (caCons c (caCons d caNil))
def ciRng3 (c d e : CE) : CI := ciA rg3 (caCons c (caCons d (caCons e caNil)))
theorem si_rng1 (hg : Gl X "range") (hm : X.mg "range" = none) (ha : SE X a ca) (hs : starEach [a] X.env = [(false, eval a X.env)] := by rfl) : SI X tg (.Call (.Name "range" p) [a] [] pos) (ciRng1 ca) :=
  (pi_range1 hg hm (sa_cons ha sa_nil hs) hs).imp fun σ H R ⟨w, ρ, m, xs, m', A, ec, p⟩ => by
    obtain ⟨us, l, e1, e2, e3⟩ := ciA_ok ec
    refine ⟨w, ρ, m, us, m', A, e1, fun w1 H1 vs n1 h1 r1 _ => ?_⟩
    have ev := intsU_ok e2 r1
    unfold rg1 at e3
    split at e3
    · split at e3
      · rename_i j hj
        cases e3
        obtain ⟨b1, b2⟩ := i62_ok hj
        exact ⟨j, ev, b1, b2, p w1 H1 _ n1 h1 wlk_rng⟩
      · cases e3
    · cases e3
theorem si_rng2 (hg : Gl X "range") (hm : X.mg "range" = none) (ha : SE X a ca) (hb : SE X b cb) (hs : starEach [a, b] X.env = [(false, eval a X.env), (false, eval b X.env)] := by rfl) (hs2 : starEach [b] X.env = [(false, eval b X.env)] := by rfl) : SI X tg (.Call (.Name "range" p) [a, b] [] pos) (ciRng2 ca cb) :=
  (pi_range2 hg hm (sa_cons ha (sa_cons hb sa_nil hs2) (hs.trans (by rw [hs2]))) hs hs2).imp fun σ H R ⟨w, ρ, m, xs, m', A, ec, p⟩ => by
    obtain ⟨us, l, e1, e2, e3⟩ := ciA_ok ec
    refine ⟨w, ρ, m, us, m', A, e1, fun w1 H1 vs n1 h1 r1 _ => ?_⟩
    have ev := intsU_ok e2 r1
    unfold rg2 at e3
    split at e3
    · split at e3
      · rename_i i j hj
        cases e3
        rw [Bool.and_eq_true] at hj
        obtain ⟨b1, b2⟩ := i62_ok hj.1
        obtain ⟨b3, b4⟩ := i62_ok hj.2
        exact ⟨i, j, ev, ⟨b1, b2, b3, b4⟩, p w1 H1 _ n1 h1 wlk_rng⟩
      · cases e3
    · cases e3
theorem si_rng3 (hg : Gl X "range") (hm : X.mg "range" = none) (ha : SE X a ca) (hb : SE X b cb) (hd : SE X d cd) (hs : starEach [a, b, d] X.env = (false, eval a X.env) :: starEach [b, d] X.env := by rfl) (hs2 : starEach [b, d] X.env = (false, eval b X.env) :: starEach [d] X.env := by rfl) (hs3 : starEach [d] X.env = (false, eval d X.env) :: starEach [] X.env := by rfl)
    (hpl : (backTo pos (starEach [b, d] X.env)).any (·.1) = false := by rfl) : SI X tg (.Call (.Name "range" p) [a, b, d] [] pos) (ciRng3 ca cb cd) :=
  (pi_range3 hg hm (sa_cons ha (sa_cons hb (sa_cons hd sa_nil hs3) hs2) hs) hs hpl).imp fun σ H R ⟨w, ρ, m, xs, m', A, ec, p⟩ => by
    obtain ⟨us, l, e1, e2, e3⟩ := ciA_ok ec
    refine ⟨w, ρ, m, us, m', A, e1, fun w1 H1 vs n1 h1 r1 _ => ?_⟩
    have ev := intsU_ok e2 r1
    unfold rg3 at e3
    split at e3
    · split at e3
      · rename_i i j c hj
        cases e3
        rw [Bool.and_eq_true, Bool.and_eq_true, Bool.and_eq_true, decide_eq_true_eq, decide_eq_true_eq] at hj
        exact ⟨i, j, c, _, ev, ⟨by simpa using hj.1.1.1, hj.1.1.2, hj.1.2, (Int.toNat_of_nonneg hj.2).symm⟩, p w1 H1 _ n1 h1 wlk_rngC⟩
      · cases e3
    · cases e3
def ciStr (c : CE) : CI := fun ρ m => (c ρ m).bind fun p => (strU p.1).map fun xs => (xs, p.2)
where strU : U → Option (List D)
  | .d (.str x) => some (x.cps.toList.map fun c => .str ⟨#[c]⟩)
  | _ => none
theorem si_str (h : SE X e c) : SI X tg e (ciStr c) := (pi_str h).imp fun σ H R ⟨w, ρ, m, xs, m', A, ec, p⟩ => by
  obtain ⟨u, hc, hu⟩ := bindI ec
  cases u with
  | d x =>
    cases x with
    | str x =>
      cases hu
      exact ⟨w, ρ, m, _, m', A, hc, fun w1 H1 v1 n1 h1 r1 _ => ⟨x, r1, p w1 H1 _ n1 h1 wlk_str⟩⟩
    | _ => cases hu
  | _ => cases hu
def zipU : List U → Option (List D)
  | [.d (.list xs), .d (.list ys)] => some (zipD xs ys)
  | [.d (.tuple xs), .d (.tuple ys)] => some (zipD xs ys)
  | _ => none
def ciZip (ca cb : CE) : CI := fun ρ m => (caCons (cFz ca) (caCons (cFz cb) caNil) ρ m).bind fun p => (zipU p.1).map fun xs => (xs, p.2)
theorem bindA {α : Type} {t : CA} {f : List U → Option α} {ρ : Sg} {m m' : Mh} {xs : α} (h : ((t ρ m).bind fun p => (f p.1).map fun xs => (xs, p.2)) = some (xs, m')) : ∃ u, t ρ m = some (u, m') ∧ f u = some xs := by
  cases q : t ρ m with
  | none => rw [q] at h; cases h
  | some r =>
    obtain ⟨u1, m1⟩ := r
    rw [q, Option.bind_some, Option.map_eq_some_iff] at h
    obtain ⟨l, gl, e2⟩ := h
    cases e2
    exact ⟨u1, rfl, gl⟩
theorem si_zip {elts : List Expr} {kk : Nat} {tpos : Pos} (hg : Gl X "zip") (hm : X.mg "zip" = none) (ha : SE X a ca) (hb : SE X b cb) (hs : starEach [a, b] X.env = (false, eval a X.env) :: starEach [b] X.env := by rfl) (hs2 : starEach [b] X.env = (false, eval b X.env) :: starEach [] X.env := by rfl) (hpl : (backTo pos (starEach [b] X.env)).any (·.1) = false := by rfl) :
    SI X (.Tuple elts kk tpos) (.Call (.Name "zip" p) [a, b] [] pos) (ciZip ca cb) := (RZ.pi_zipA hg hm (sa_cons (se_fz ha) (sa_cons (se_fz hb) sa_nil hs2) hs) hs hpl).imp fun σ H R ⟨w, ρ, m, xs, m', A, ec, p⟩ => by
  obtain ⟨us, hc, hu⟩ := bindA ec
  refine ⟨w, ρ, m, us, m', A, hc, fun w1 H1 vs n1 h1 r1 _ => ?_⟩
  unfold zipU at hu
  split at hu
  · cases hu
    obtain ⟨v, vr, e1, ⟨a, ws, ev, hF, g1, g2⟩, v2, vr2, e2, ⟨a2, ws2, ev2, hF2, g3, g4⟩, e3⟩ := r1
    have e3 : vr2 = [] := e3
    subst e3 e2 e1 ev ev2
    exact ⟨a, a2, ws, ws2, rfl, .inl ⟨SqL.of g1, SqL.of g3, p w1 H1 _ n1 h1 (wlk_zipL fun w2 H2 o => ⟨ws, ws2, SqL.of (o.fz a _ hF g1), SqL.of (o.fz a2 _ hF2 g3), RelDs.stp o _ _ g2, RelDs.stp o _ _ g4⟩)⟩⟩
  · cases hu
    obtain ⟨v, vr, e1, ⟨a, ws, ev, g1, g2⟩, v2, vr2, e2, ⟨a2, ws2, ev2, g3, g4⟩, e3⟩ := r1
    have e3 : vr2 = [] := e3
    subst e3 e2 e1 ev ev2
    exact ⟨a, a2, ws, ws2, rfl, .inr ⟨SqT.of g1, SqT.of g3, p w1 H1 _ n1 h1 (wlk_zipT fun w2 H2 o => ⟨ws, ws2, SqT.of (o.tp a _ g1), SqT.of (o.tp a2 _ g3), RelDs.stp o _ _ g2, RelDs.stp o _ _ g4⟩)⟩⟩
  · cases hu
end
end M

namespace M
open PySem PySem.Spec PyProof.Rows L2
variable [Tb]
open PySem.Sem (wp)
set_option maxHeartbeats 4000000 in
theorem meets_enumerate_newG {v : Value} {o : Obj} {H : Heap → Prop} (B : Begins v o H) :
    Meets (Builtin.«enumerate.__new__» ⟨[.type "enumerate", v], []⟩) (fun _ R s => H s.heap ∧
      R (.ok (.ret (.ref (s.heap.push o).objs.size))) { s with heap := (s.heap.push o).push { cls := .type "enumerate", data := .fields #[.none, .bool false, .ref s.heap.objs.size, rawInt 0, .none, .none] } }) :=
  .of_wp fun prog w A R s h => by
    obtain ⟨hp, g, d, tk, os⟩ := s; obtain ⟨h1, h⟩ := h
    have hsub := sub_enumerate
    have q1 : ∀ {A' : Around} {E : Value → Shared → Prop} {Q : Value → Shared → Prop}, Q (.ref hp.objs.size) ⟨hp.push o, g, d, tk, os⟩ → wpAny (model prog w) A' (pyIter v) Q E ⟨hp, g, d, tk, os⟩ :=
      fun q => B.iter prog w _ _ ⟨hp, g, d, tk, os⟩ _ h1 q
    wp_walk using q1
    refine wpAny_stack_any fun st => wpAny_pure ?_
    split
    · rename_i c _ _ _ _ _
      cases (c == Value.type "enumerate")
      · wp_walk using q1
        exact ⟨_, rfl, h⟩
      · wp_walk using q1
        exact ⟨_, rfl, h⟩
    · wp_walk using q1
      exact ⟨_, rfl, h⟩
theorem call_enumerate_of {prog : Program} {w : World} {A : Around} {E : Value → Shared → Prop} {s : Shared} {v : Value} {o : Obj} {H : Heap → Prop} {Q : Value → Shared → Prop} (B : Begins v o H) (h1 : H s.heap)
    (h : ∀ h', IsEnum h' (s.heap.objs.size + 1) s.heap.objs.size 0 .none → h'.get? s.heap.objs.size = some o → h'.objs.size = s.heap.objs.size + 2 →
      (∀ b o, s.heap.get? b = some o → h'.get? b = some o) → Q (.ref (s.heap.objs.size + 1)) { s with heap := h' }) :
    wpAny (model prog w) A (call (.type "enumerate") [v]) Q E s := by
  refine callType_new F.called_enumerate (by decide) (F.typeCall_enumerate_1 _) (F.newCall_enumerate_1 _) (fun obj => F.args_object_init_2 obj _) F.entry_enumerate_new
    (meets_enumerate_newG B) ⟨h1, ?_⟩
  have hz : (s.heap.push o).objs.size = s.heap.objs.size + 1 := Heap.size_push ..
  show _ ∧ _
  rw [hz]
  have he : IsEnum ((s.heap.push o).push { cls := .type "enumerate", data := .fields #[.none, .bool false, .ref s.heap.objs.size, rawInt 0, .none, .none] }) (s.heap.objs.size + 1) s.heap.objs.size 0 .none := by
    have := Heap.get?_push_size (s.heap.push o) (o := { cls := .type "enumerate", data := .fields #[.none, .bool false, .ref s.heap.objs.size, rawInt 0, .none, .none] }) rfl
    rw [hz] at this; exact this
  refine ⟨⟨_, he, rfl⟩, h _ he (Heap.get?_push_of_some _ (Heap.get?_push_size _ B.free)) (by rw [Heap.size_push, hz]) fun b o x => Heap.get?_push_of_some _ (Heap.get?_push_of_some _ x)⟩
def IteT (K : PySem.W.Frag) (a : Addr) : It :=
  ⟨fun i H => ∃ (xs : List V) (x : V), SqT K H a xs ∧ xs[i]? = some x, fun i H v H' => ∃ T x, v = .ref T ∧ H T = none ∧ H' = upd H T (.tup [.int (i : Nat), x]) ∧ ∀ xs, SqT K H a xs → xs[i]? = some x, fun i H => ∃ xs : List V, SqT K H a xs ∧ xs.length ≤ i⟩
theorem turn_enumT {P : Program} {w : World} {K : PySem.W.Frag} {elts : List Expr} {kk : Nat} {tpos : Pos} (a e it : Addr) :
    Turn P w K (.Tuple elts kk tpos) (IteT K a) [e, it] e (fun i h => (∃ old, IsEnum h e it ((i : Nat) : Int) old) ∧ h.IsTupleIter it a i ∧ e ≠ it ∧ a ≠ it ∧ a ≠ e) where
  mem := by simp
  obj := fun i h st b hb => by
    obtain ⟨⟨old, he⟩, ⟨o, ho, hc, hd⟩, _⟩ := st
    have e' : b = e ∨ b = it := by simpa using hb
    rcases e' with z | z
    · rw [z]; exact ⟨_, he, fun v q => nomatch q⟩
    · rw [z]; exact ⟨o, ho, fun v q => by rw [hd] at q; cases q⟩
  keep := fun i h h' st k => let ⟨⟨old, he⟩, hi, hne⟩ := st; ⟨⟨old, k e (by simp) _ he⟩, hi.at fun o q => k it (by simp) o q, hne⟩
  item := by
    intro X hP hw hK hc i pins s σ H E I hf st hg
    subst hP hw hK
    obtain ⟨⟨old, he⟩, hit, hne, hai, hae⟩ := st
    obtain ⟨xs, x, hq, hx⟩ := hg
    obtain ⟨its, rv, p, hz⟩ := I.tuple hq
    obtain ⟨u, hu, ru⟩ := rv.get hx
    have hel : e < s.heap.objs.size := Heap.lt_size he
    have hil : it < s.heap.objs.size := by obtain ⟨_, q, _⟩ := hit; exact Heap.lt_size q
    have hlt : i < its.toArray.size := by
      have := (List.getElem?_eq_some_iff.mp hu).1
      simpa using this
    refine wpAny_pyNext_enum_itemC (Draws.tuple (A := X.A.in1) (I.ok.hd hc) it a hai its.toArray) he ⟨hit, (by obtain ⟨o, q⟩ := p; exact ⟨o, q⟩)⟩ hlt hne (by simp [hne, Ne.symm hae]) fun x' h' tk hP ho hst hT hsz hk => ?_
    have hx' : x' = u := by
      have hP : its.toArray[i]? = some x' := hP
      rw [List.getElem?_toArray, hu] at hP
      cases hP
      rfl
    subst hx'
    refine ⟨_, rfl, wpAny_letOwnedTupleGo_enum (s := { s with heap := h', toks := tk + 1 }) ho fun h'' he' sb => ?_⟩
    have hT2 : h''.get? s.heap.objs.size = some { cls := .type "tuple", data := .seq #[.int i tk, x'] } := (sb.2 _ (Nat.ne_of_gt hel)).trans hT
    have new : ObjOk X.prog X.w (upd H s.heap.objs.size (.tup [.int (i : Nat), x])) h'' s.heap.objs.size (.tup [.int (i : Nat), x]) :=
      ⟨by show 2 ≤ sizeLine; decide, [.int i tk, x'], .cons ⟨_, rfl⟩ (.cons ru .nil), ⟨_, hT2, rfl, _, rfl⟩⟩
    have I1 : Inv X pins σ (upd H s.heap.objs.size (.tup [.int (i : Nat), x])) { s with heap := h'', toks := tk + 1 } :=
      I.turnedNew (ch := [e, it]) (fun b ob hb q => (sb.2 b (fun z => hb (by simp [z]))).trans (hk b ob (fun z => hb (by simp [z])) (fun z => hb (by simp [z])) q)) hf (Nat.le_refl _) new
    refine ⟨.ref s.heap.objs.size, _, I1, rfl, ⟨_, x, rfl, I.hok.fresh (Nat.le_refl _), rfl, fun ys hy => by rw [I.tuple_inj hy hq]; exact hx⟩, ⟨⟨x', ?_⟩, hst.1.at fun o q => (sb.2 it (Ne.symm hne)).trans q, hne, hai, hae⟩, fun b hb => ?_⟩
    · have e1 : ((i + 1 : Nat) : Int) = (i : Int) + 1 := by omega
      rw [e1]; exact he'
    · have hb' : b < s.heap.objs.size := by
        have e' : b = e ∨ b = it := by simpa using hb
        rcases e' with z | z
        · rw [z]; exact hel
        · rw [z]; exact hil
      rw [upd_ne (Nat.ne_of_lt hb')]
      exact (hf b hb).1
  done := by
    intro X hP hw hK hc i pins s σ H E I hf st hg
    subst hP hw hK
    obtain ⟨⟨old, he⟩, hit, hne, hai, hae⟩ := st
    obtain ⟨xs, hq, hx⟩ := hg
    obtain ⟨its, rv, p, hz⟩ := I.tuple hq
    obtain ⟨f0, f1, f2, f3, f4, f5⟩ := hf it (by simp)
    have hl := rv.length
    have hT : s.TypeIs (.ref e) "enumerate" := ⟨_, he, rfl⟩
    have fin : ∀ h', Heap.ExtBut it s.heap h' → (none : Option Value) = none ∧ Inv X pins σ H { s with heap := h' } := fun h' eb => ⟨rfl, I.turned (t' := s.toks) (fun b o hb q => eb b o hb q) f0 f1 f3 f4 f5⟩
    unfold pyNext
    refine wpAny_bind (wpAny_attempt (wpAny_callSpecial?_slot (name := Str.ofString "__next__") hT F.slot_enumerate_next
      (wpAny_call_entry F.slot_enumerate_next hT F.entry_enumerate_next ?_ (F.args_enumerate_next_1 _))))
    show wpAny _ _ (field (.ref e) 2 >>= _) _ _ _
    refine wpAny_bind (wpAny_field he rfl (x := .ref it) rfl ?_)
    refine wpAny_bind (wpAny_nextOf_tuple_end (A := X.A.in1) (I.ok.hd hc) hit (by obtain ⟨o, q⟩ := p; exact ⟨o, q⟩) (by simp; omega) fun h' x he' hx' => ?_)
    obtain ⟨o, ho, hcc⟩ := hx'
    refine wpAny_bind (wpAny_isInstance (T := "StopIteration") (b := true) ⟨o, ho, hcc⟩ isSubtype_stop ?_)
    exact wpAny_pure (fin _ he')
  self := fun A i s Q E st h => let ⟨⟨_, he⟩, _⟩ := st; wpAny_pyIter_enum he h
def iEnumT (K : PySem.W.Frag) (ta : TA) : TI := fun σ H R => ta σ H fun vs H1 => ∃ a xs, vs = [.ref a] ∧ SqT K H1 a xs ∧ R (IteT K a) H1
theorem pi_enumT {X : Cx} {e : Expr} {ta : TA} {p pos tpos : Pos} {elts : List Expr} {kk : Nat} (hg : Gl X "enumerate") (hm : X.mg "enumerate" = none) (ha : PA X [e] ta) (hs : starEach [e] X.env = [(false, eval e X.env)] := by rfl) :
    PI X (.Tuple elts kk tpos) (.Call (.Name "enumerate" p) [e] [] pos) (iEnumT X.K ta) := by
  refine ⟨fun pins s σ H R I h => ?_⟩
  refine Call_ (ld_blt I hg hm boot_enumerate (PyProof.Rows.callWith_type1 (thn (ha.run pos pins s σ H _ I h) fun us s1 ⟨vs, H1, I1, r1, q1⟩ => ?_) hs rfl))
  obtain ⟨a, xs, ex, hq, q⟩ := q1
  subst ex
  cases r1 with
  | cons r rr =>
    cases rr
    cases r
    obtain ⟨its, rv, p', hz⟩ := I1.tuple hq
    have ha1 : a < s1.heap.objs.size := by obtain ⟨o, q, _⟩ := p'; exact Heap.lt_size q
    refine call_enumerate_of (begins_tuple a its.toArray) (by obtain ⟨o, q⟩ := p'; exact ⟨o, q⟩) fun h' he hit hsz hk => wpAny_pyIter_enum he ?_
    have I2 : Inv X pins σ H1 { s1 with heap := h' } := I1.kept (t' := s1.toks) hk
    refine ⟨s1.heap.objs.size + 1, [s1.heap.objs.size + 1, s1.heap.objs.size], _, _, H1, rfl, I2, turn_enumT a (s1.heap.objs.size + 1) s1.heap.objs.size, ⟨⟨.none, he⟩, ⟨_, hit, rfl, rfl⟩, Nat.succ_ne_self _, Nat.ne_of_lt ha1, Nat.ne_of_lt (Nat.lt_succ_of_lt ha1)⟩, fun b hb => ?_, q⟩
    have e' : b = s1.heap.objs.size + 1 ∨ b = s1.heap.objs.size := by simpa using hb
    have hle : s1.heap.objs.size ≤ b := by
      rcases e' with z | z
      · rw [z]; exact Nat.le_add_right _ _
      · rw [z]; exact Nat.le_refl _
    exact I1.fpOk hle (I1.hok.fresh hle)
theorem wlk_enumT {C : Ct} {ok : Wd → Hp → Prop} {xs : List D} {K : PySem.W.Frag} {a : Addr} (h : ∀ w2 H2, ok w2 H2 → ∃ vs, SqT K H2 a vs ∧ RelDs w2.F H2 xs vs) : WlkP C ok (IteT K a) (enumD 0 xs) := fun w2 m2 H2 o h2 => by
  obtain ⟨vs, e1, r1⟩ := h w2 H2 o
  refine ⟨fun i hi => ⟨vs, e1, by rw [← r1.len, ← enumD_len (n := 0)]; exact hi⟩, fun i d hd => ?_⟩
  obtain ⟨x, g1, rfl⟩ := enumD_get hd
  obtain ⟨v, ev, rv⟩ := r1.get g1
  refine ⟨⟨vs, v, e1, ev⟩, fun z H3 ⟨T, x', ez, hT, e3, q1⟩ => ?_⟩
  have f1 := q1 vs e1
  rw [ev] at f1
  cases f1
  subst ez e3
  rw [Nat.zero_add]
  exact pair_new (x := .int ((i : Nat) : Int)) h2 hT rfl rv
section
variable {X : Cx} {tg iter e e2 a b d elt : Expr} {c ca cb cd : CE} {pos p : Pos} {cs : CS} {body : List Stmt} {g : CG} {ci : CI} {t : CB} {scope : Scope} {own : List (Str × Nat)}
def enU : List U → Option (List D)
  | [.d (.list xs)] => some (enumD 0 xs)
  | [.d (.tuple xs)] => some (enumD 0 xs)
  | _ => none
def ciEnum (ca : CE) : CI := fun ρ m => (caCons (cFz ca) caNil ρ m).bind fun p => (enU p.1).map fun xs => (xs, p.2)
theorem si_enum {elts : List Expr} {kk : Nat} {tpos : Pos} (hg : Gl X "enumerate") (hm : X.mg "enumerate" = none) (ha : SE X a ca) (hs : starEach [a] X.env = [(false, eval a X.env)] := by rfl) :
    SI X (.Tuple elts kk tpos) (.Call (.Name "enumerate" p) [a] [] pos) (ciEnum ca) := ((pi_enum hg hm (sa_cons (se_fz ha) sa_nil hs) hs).or (pi_enumT hg hm (sa_cons (se_fz ha) sa_nil hs) hs)).imp fun σ H R ⟨w, ρ, m, xs, m', A, ec, p⟩ => by
  obtain ⟨us, hc, hu⟩ := bindA ec
  unfold enU at hu
  split at hu
  · cases hu
    refine .inl ⟨w, ρ, m, _, m', A, hc, fun w1 H1 vs n1 h1 r1 _ => ?_⟩
    obtain ⟨v, vr, e1, ⟨a, ws, ev, hF, g1, g2⟩, e3⟩ := r1
    have e3 : vr = [] := e3
    subst e3 e1 ev
    exact ⟨a, ws, rfl, SqL.of g1, p w1 H1 _ n1 h1 (wlk_enum fun w2 H2 o => ⟨ws, o.fz a _ hF g1, RelDs.stp o _ _ g2⟩)⟩
  · cases hu
    refine .inr ⟨w, ρ, m, _, m', A, hc, fun w1 H1 vs n1 h1 r1 _ => ?_⟩
    obtain ⟨v, vr, e1, ⟨a, ws, ev, g1, g2⟩, e3⟩ := r1
    have e3 : vr = [] := e3
    subst e3 e1 ev
    exact ⟨a, ws, rfl, SqT.of g1, p w1 H1 _ n1 h1 (wlk_enumT fun w2 H2 o => ⟨ws, SqT.of (o.tp a _ g1), RelDs.stp o _ _ g2⟩)⟩
  · cases hu
def lpF (g : CG) (b : CS) : List D → CS
  | [], ρ, m => some (.nx, ρ, m)
  | d :: ds, ρ, m => (g d).bind fun l => (b (setL ρ l) m).bind fun p => match p.1 with
    | .nx => lpF g b ds p.2.1 p.2.2
    | .ct => lpF g b ds p.2.1 p.2.2
    | .bk => some (.nx, p.2.1, p.2.2)
    | .rt u => some (.rt u, p.2)
def sFor (ci : CI) (g : CG) (b : CS) : CS := fun ρ m => (ci ρ m).bind fun p => lpF g b p.1 ρ p.2
theorem ss_for (G : Good X) (hi : SI X tg iter ci) (hg : SG X tg g) (hb : SSs X body cs) (hs : ∀ x, foldedSetIterable iter X.env x = pure x := by intro _; rfl) : SS X (.For tg iter body [] pos) (sFor ci g cs) :=
  (ps_for G.np G.calm hi hg hb hs).imp fun D σ H ⟨w0, H0, w, ρ, m, fl, ρ', m', n, o, A, ec, p⟩ => by
    unfold sFor at ec
    cases q : ci ρ m with
    | none => rw [q] at ec; cases ec
    | some r =>
      obtain ⟨xs, m1⟩ := r
      rw [q, Option.bind_some] at ec
      refine ⟨w, ρ, m, xs, m1, A, q, fun w1 H1 J n1 h1 wk => ?_⟩
      refine ⟨fun i k σ2 H2 => k + i = xs.length ∧ ∃ w2 ρ2 m2, Nxt w0 H0 w2 H2 ∧ OwnF H0 ρ2 σ2 ∧ Stp w1.F H1 w2.F H2 ∧ At X.ct w2 ρ2 σ2 m2 H2 ∧ lpF g cs (xs.drop i) ρ2 m2 = some (fl, ρ', m'), ⟨xs.length, rfl, w1, ρ, m1, n.trans n1, o, Stp.refl, A.nxt n1 h1, ec⟩, ?_⟩
      intro i k σ2 H2 ⟨hk, w2, ρ2, m2, n2, o2, s2, A2, e2⟩
      obtain ⟨ws, wg⟩ := wk w2 m2 H2 s2 A2.h
      cases qd : xs.drop i with
      | nil =>
        rw [qd] at e2
        cases e2
        exact .inl ⟨ws i (List.drop_eq_nil_iff.mp qd), p w2 σ2 H2 n2 o2 ((n1.stp A.h).trans s2) A2⟩
      | cons d ds =>
        have hi : xs[i]? = some d := by
          have := List.getElem?_drop (xs := xs) (i := i) (j := 0)
          rw [qd] at this
          simpa using this.symm
        have hlt : i < xs.length := (List.getElem?_eq_some_iff.mp hi).1
        have hds : xs.drop (i + 1) = ds := by
          have : (xs.drop i).drop 1 = xs.drop (i + 1) := by rw [List.drop_drop]
          rw [qd] at this
          rw [← this]; rfl
        obtain ⟨g1, g2⟩ := wg i d hi
        rw [qd] at e2
        have e2 : ((g d).bind fun l => (cs (setL ρ2 l) m2).bind fun p => match p.1 with
          | .nx => lpF g cs ds p.2.1 p.2.2
          | .ct => lpF g cs ds p.2.1 p.2.2
          | .bk => some (.nx, p.2.1, p.2.2)
          | .rt u => some (.rt u, p.2)) = some (fl, ρ', m') := e2
        cases qg : g d with
        | none => rw [qg] at e2; cases e2
        | some l =>
          rw [qg, Option.bind_some] at e2
          cases qb : cs (setL ρ2 l) m2 with
          | none => rw [qb] at e2; cases e2
          | some r =>
            obtain ⟨f1, ρ3, m3⟩ := r
            rw [qb, Option.bind_some] at e2
            refine .inr ⟨g1, fun σ' H' => ∃ w3 ρ4 m4, Nxt w0 H0 w3 H' ∧ OwnF H0 ρ4 σ' ∧ Stp w1.F H1 w3.F H' ∧ At X.ct w3 ρ4 σ' m4 H' ∧ lpF g cs ds ρ4 m4 = some (fl, ρ', m'), ?_, ?_⟩
            · intro σ' H' ⟨w3, ρ4, m4, b1, b2, b3, b4, b5⟩
              exact ⟨k - 1, by omega, by omega, w3, ρ4, m4, b1, b2, b3, b4, by rw [hds]; exact b5⟩
            · intro x H3 hy
              obtain ⟨n3, h3, rd⟩ := g2 x H3 hy
              refine ⟨w2.F, d, l, rd, qg, fun lv hlv => ?_⟩
              have A3 := setL_ok (H0 := H0) (A2.nxt n3 h3) hlv
              have s3 := n3.stp A2.h
              refine ⟨w0, H0, w2, _, m2, f1, ρ3, m3, n2.trans n3, setL_own o2 hlv, A3, qb, ?_⟩
              cases f1 with
              | nx => exact fun w' σ' H' nn oo ss AA => ⟨w', ρ3, m3, nn, oo, (s2.trans s3).trans ss, AA, e2⟩
              | ct => exact fun w' σ' H' nn oo ss AA => ⟨w', ρ3, m3, nn, oo, (s2.trans s3).trans ss, AA, e2⟩
              | bk =>
                cases e2
                exact fun w' σ' H' nn oo ss AA => p w' σ' H' nn oo ((n1.stp A.h).trans ((s2.trans s3).trans ss)) AA
              | rt u =>
                cases e2
                exact p
def fuel0 : Nat := 1000000
def lpW (t : CB) (b : CS) : Nat → CS
  | 0, _, _ => none
  | k + 1, ρ, m => (t ρ m).bind fun q => if q.1 = true then (b ρ q.2).bind fun p => match p.1 with
    | .nx => lpW t b k p.2.1 p.2.2
    | .ct => lpW t b k p.2.1 p.2.2
    | .bk => some (.nx, p.2.1, p.2.2)
    | .rt u => some (.rt u, p.2) else some (.nx, ρ, q.2)
def sWhile (k : Nat) (t : CB) (b : CS) : CS := lpW t b k
theorem ss_while (k : Nat) (G : Good X) (hc : SB X e t) (hb : SSs X body cs) : SS X (.While e body [] pos) (sWhile k t cs) :=
  (ps_while G.np hc hb).imp fun D σ H ⟨w0, H0, w, ρ, m, fl, ρ', m', n, o, A, ec, p⟩ => by
    refine ⟨fun k σ2 H2 => ∃ w2 ρ2 m2, Nxt w0 H0 w2 H2 ∧ OwnF H0 ρ2 σ2 ∧ Stp w.F H w2.F H2 ∧ At X.ct w2 ρ2 σ2 m2 H2 ∧ lpW t cs k ρ2 m2 = some (fl, ρ', m'), ⟨k, w, ρ, m, n, o, Stp.refl, A, ec⟩, ?_⟩
    intro k σ2 H2 ⟨w2, ρ2, m2, n2, o2, s2, A2, e2⟩
    cases k with
    | zero => cases e2
    | succ k =>
      have e2 : ((t ρ2 m2).bind fun q => if q.1 = true then (cs ρ2 q.2).bind fun p => match p.1 with
        | .nx => lpW t cs k p.2.1 p.2.2
        | .ct => lpW t cs k p.2.1 p.2.2
        | .bk => some (.nx, p.2.1, p.2.2)
        | .rt u => some (.rt u, p.2) else some (.nx, ρ2, q.2)) = some (fl, ρ', m') := e2
      cases qt : t ρ2 m2 with
      | none => rw [qt] at e2; cases e2
      | some r =>
        obtain ⟨k1, m3⟩ := r
        rw [qt, Option.bind_some] at e2
        refine ⟨w2, ρ2, m2, k1, m3, A2, qt, fun w3 H3 n3 h3 => ?_⟩
        have s3 := n3.stp A2.h
        cases k1 with
        | false =>
          show if (false : Bool) = true then _ else _
          rw [if_neg Bool.false_ne_true] at e2 ⊢
          cases e2
          exact p w3 σ2 H3 (n2.trans n3) o2 (s2.trans s3) (A2.nxt n3 h3)
        | true =>
          show if (true : Bool) = true then _ else _
          rw [if_pos rfl] at e2 ⊢
          cases qb : cs ρ2 m3 with
          | none => simp only [qb] at e2; cases e2
          | some r =>
            obtain ⟨f1, ρ3, m4⟩ := r
            simp only [qb, Option.bind_some] at e2
            refine ⟨fun σ' H' => ∃ w3 ρ4 m5, Nxt w0 H0 w3 H' ∧ OwnF H0 ρ4 σ' ∧ Stp w.F H w3.F H' ∧ At X.ct w3 ρ4 σ' m5 H' ∧ lpW t cs k ρ4 m5 = some (fl, ρ', m'), ?_, ?_⟩
            · intro σ' H' hn
              exact ⟨k, Nat.lt_succ_self k, hn⟩
            · refine ⟨w0, H0, w3, ρ2, m3, f1, ρ3, m4, n2.trans n3, o2, A2.nxt n3 h3, qb, ?_⟩
              cases f1 with
              | nx => exact fun w' σ' H' nn oo ss AA => ⟨w', ρ3, m4, nn, oo, (s2.trans s3).trans ss, AA, e2⟩
              | ct => exact fun w' σ' H' nn oo ss AA => ⟨w', ρ3, m4, nn, oo, (s2.trans s3).trans ss, AA, e2⟩
              | bk =>
                cases e2
                exact fun w' σ' H' nn oo ss AA => p w' σ' H' nn oo ((s2.trans s3).trans ss) AA
              | rt u =>
                cases e2
                exact p
def cbYes : CB := fun _ m => some (true, m)
def SBs (X : Cx) (ifs : List Expr) (t : CB) : Prop := PTs X ifs (TBc X.ct t)
theorem _root_.L2.PTs.imp {X : Cx} {ifs : List Expr} {t t' : TT} (h : PTs X ifs t) (i : ∀ σ H Q, t' σ H Q → t σ H Q) : PTs X ifs t' := ⟨fun pins s σ H Q I q => h.run pins s σ H Q I (i σ H Q q)⟩
theorem sbs_nil : SBs X [] cbYes := pts_nil.imp fun σ H Q ⟨w, ρ, m, b, m', A, ec, p⟩ => by
  cases ec
  exact p w H Nxt.refl A.h
theorem sbs_one (h : SB X e t) : SBs X [e] t := pts_one h
def GSl (g : CG) (vs : List Nat) : Prop := ∀ d l, g d = some l → ∀ p ∈ l, p.1 ∈ vs
theorem gsl_n {i : Nat} {vs : List Nat} (h : i ∈ vs) : GSl (gN i) vs := fun d l e p hp => by
  cases e
  rw [List.mem_singleton.mp hp]
  exact h
def GSls (g : CGs) (vs : List Nat) : Prop := ∀ d l, g d = some l → ∀ p ∈ l, p.1 ∈ vs
theorem gsls_n {vs : List Nat} : GSls gsN vs := fun d l e p hp => by
  cases d with
  | nil => cases e; cases hp
  | cons => cases e
theorem gsls_c {g : CG} {gs : CGs} {vs : List Nat} (h1 : GSl g vs) (h2 : GSls gs vs) : GSls (gsC g gs) vs := fun d l e p hp => by
  cases d with
  | nil => cases e
  | cons d ds =>
    have eg : ((g d).bind fun l => (gs ds).map fun l2 => l ++ l2) = some l := e
    cases q : g d with
    | none => rw [q] at eg; cases eg
    | some l1 =>
      rw [q, Option.bind_some] at eg
      cases q2 : gs ds with
      | none => rw [q2] at eg; cases eg
      | some l2 =>
        rw [q2] at eg
        cases eg
        rcases List.mem_append.mp hp with hp | hp
        · exact h1 _ _ q p hp
        · exact h2 _ _ q2 p hp
theorem gsl_t {n : Nat} {gs : CGs} {vs : List Nat} (h : GSls gs vs) : GSl (gT n gs) vs := fun d l e p hp => by
  cases d with
  | tuple ds =>
    have e : (if ds.length = n then gs ds else none) = some l := e
    split at e
    · exact h _ _ e p hp
    · cases e
  | _ => cases e
theorem RelL.in {F : Addr → Prop} {H : Hp} {l : List (Nat × D)} {lv : List (Nat × V)} {vs : List Nat} (r : RelL F H l lv) (h : ∀ p ∈ l, p.1 ∈ vs) : ∀ p ∈ lv, p.1 ∈ vs := fun p hp => by
  have : p.1 ∈ lv.map (·.1) := List.mem_map_of_mem hp
  rw [r.slots] at this
  obtain ⟨q, hq, e⟩ := List.mem_map.mp this
  exact e ▸ h q hq
def lpC (g : CG) (t : CB) (e : CE) (ρ : Sg) : List D → Mh → Option (List D × Mh)
  | [], m => some ([], m)
  | d :: ds, m => (g d).bind fun l => (t (setL ρ l) m).bind fun q => if q.1 = true then (e (setL ρ l) q.2).bind fun p => match p.1 with
    | .d x => (lpC g t e ρ ds p.2).map fun r => (x :: r.1, r.2)
    | _ => none else lpC g t e ρ ds q.2
def cLc (ci : CI) (g : CG) (t : CB) (e : CE) (vs : List Nat) : CE := fun ρ m => (ci ρ m).bind fun p => (lpC g t e (wipeG ρ vs) p.1 p.2).bind fun q => if q.1.length ≤ 16777216 then some (.tmp (.list q.1), q.2) else none
theorem imp_lc {C : Ct} {vs : List Nat} (hgs : GSl g vs) : ∀ σ H Q, TEc C (cLc ci g t c vs) σ H Q → tLc (TJc C ci) (TGc g) (TBc C t) (TEc C c) vs σ H Q := fun σ H Q ⟨w, ρ, m, z, m', A, ec, p⟩ => by
  unfold cLc at ec
  cases q : ci ρ m with
  | none => rw [q] at ec; cases ec
  | some r =>
    obtain ⟨xs, m1⟩ := r
    rw [q, Option.bind_some] at ec
    simp only at ec
    cases ql : lpC g t c (wipeG ρ vs) xs m1 with
    | none => rw [ql] at ec; cases ec
    | some r2 =>
      obtain ⟨ys, m2⟩ := r2
      rw [ql, Option.bind_some] at ec
      split at ec
      · rename_i hlen
        cases ec
        refine ⟨w, ρ, m, xs, m1, A, q, fun w1 H1 J n1 h1 wk Dd hD => ?_⟩
        have A1 := A.nxt n1 h1
        have noD : ∀ (i : Nat) y, (wipeG ρ vs)[i]? = some (some (.own y)) → (wipe σ vs)[i]? ≠ some (some (.ref Dd)) := fun i y e1 e2 => by
          obtain ⟨b, e3, _, _, _, ne⟩ := (A1.wiped vs).s.ownAt e1
          rw [e3] at e2
          cases e2
          exact ne hD
        refine ⟨fun i k H2 => k + i = xs.length ∧ ∃ w2 m3 acc accV rest, Nxt w1 H1 w2 H2 ∧ At C w2 (wipeG ρ vs) (wipe σ vs) m3 H2 ∧ ¬ w2.F Dd ∧ Dd ∉ w2.f ∧ H2 Dd = some (.lst accV) ∧ RelDs w2.F H2 acc accV ∧ lpC g t c (wipeG ρ vs) (xs.drop i) m3 = some (rest, m2) ∧ acc ++ rest = ys, ⟨xs.length, rfl, w1, m1, [], [], ys, Nxt.laid hD, ⟨(A1.wiped vs).s.nxt (Nxt.laid hD) h1, h1.laid hD⟩, ?_, h1.fresh hD, upd_same, rfl, ql, rfl⟩, ?_⟩
        · exact fun z => by
            obtain ⟨o, e, _⟩ := h1.tF Dd z
            rw [hD] at e
            cases e
        intro i k H2 ⟨hk, w2, m3, acc, accV, rest, n2, A2, f1, f2, f3, f4, e2, e3⟩
        obtain ⟨ws, wg⟩ := wk w2 m3 H2 n2 A2.h
        cases qd : xs.drop i with
        | nil =>
          rw [qd] at e2
          cases e2
          rw [List.append_nil] at e3
          subst e3
          exact .inl ⟨ws i (List.drop_eq_nil_iff.mp qd), p w2 H2 _ (n1.trans n2) A2.h ⟨Dd, rfl, f1, f2, accV, f3, f4⟩ fun a ea => by cases ea; exact n1.back hD⟩
        | cons d ds =>
          have hi : xs[i]? = some d := by
            have := List.getElem?_drop (xs := xs) (i := i) (j := 0)
            rw [qd] at this
            simpa using this.symm
          have hlt : i < xs.length := (List.getElem?_eq_some_iff.mp hi).1
          have hds : xs.drop (i + 1) = ds := by
            have : (xs.drop i).drop 1 = xs.drop (i + 1) := by rw [List.drop_drop]
            rw [qd] at this
            rw [← this]; rfl
          obtain ⟨g1, g2⟩ := wg i d hi
          rw [qd] at e2
          have e2 : ((g d).bind fun l => (t (setL (wipeG ρ vs) l) m3).bind fun q => if q.1 = true then (c (setL (wipeG ρ vs) l) q.2).bind fun p => match p.1 with
            | .d x => (lpC g t c (wipeG ρ vs) ds p.2).map fun r => (x :: r.1, r.2)
            | _ => none else lpC g t c (wipeG ρ vs) ds q.2) = some (rest, m2) := e2
          cases qg : g d with
          | none => rw [qg] at e2; cases e2
          | some l =>
            rw [qg, Option.bind_some] at e2
            cases qt : t (setL (wipeG ρ vs) l) m3 with
            | none => rw [qt] at e2; cases e2
            | some r3 =>
              obtain ⟨b, m4⟩ := r3
              rw [qt, Option.bind_some] at e2
              simp only at e2
              refine .inr ⟨g1, fun H' => ∃ w2 m3 acc accV rest, Nxt w1 H1 w2 H' ∧ At C w2 (wipeG ρ vs) (wipe σ vs) m3 H' ∧ ¬ w2.F Dd ∧ Dd ∉ w2.f ∧ H' Dd = some (.lst accV) ∧ RelDs w2.F H' acc accV ∧ lpC g t c (wipeG ρ vs) ds m3 = some (rest, m2) ∧ acc ++ rest = ys, ?_, ?_⟩
              · intro H' ⟨w3, m5, acc', accV', rest', b1, b2, b3, b4, b5, b6, b7, b8⟩
                exact ⟨k - 1, by omega, by omega, w3, m5, acc', accV', rest', b1, b2, b3, b4, b5, b6, by rw [hds]; exact b7, b8⟩
              · intro x H3 hy
                obtain ⟨n3, h3, rd⟩ := g2 x H3 hy
                refine ⟨w2.F, d, l, rd, qg, fun lv hlv => ⟨wipe_set (hlv.in (hgs d l qg)), ?_⟩⟩
                have A3 := setL_ok (H0 := H1) (A2.nxt n3 h3) hlv
                refine ⟨w2, _, m3, b, m4, A3, qt, fun w4 H4 n4 h4 => ?_⟩
                have n34 := n3.trans n4
                cases b with
                | false =>
                  show if (false : Bool) = true then _ else _
                  rw [if_neg Bool.false_ne_true] at e2 ⊢
                  obtain ⟨k1, k2, k3⟩ := n34.free f3 f1 f2
                  exact ⟨w4, m4, acc, accV, rest, n2.trans n34, A2.nxt n34 h4, k1, k2, k3, RelDs.stp (n34.stp A2.h) _ _ f4, e2, e3⟩
                | true =>
                  show if (true : Bool) = true then _ else _
                  rw [if_pos rfl] at e2 ⊢
                  cases qe : c (setL (wipeG ρ vs) l) m4 with
                  | none => simp only [qe] at e2; cases e2
                  | some r4 =>
                    obtain ⟨u, m5⟩ := r4
                    simp only [qe, Option.bind_some] at e2
                    cases u with
                    | d x' =>
                      simp only [Option.map_eq_some_iff] at e2
                      obtain ⟨⟨rest', m6⟩, e4, e5⟩ := e2
                      cases e5
                      refine ⟨w4, _, m4, _, m5, A3.nxt n4 h4, qe, fun w5 H5 v n5 h5 r5 _ => ?_⟩
                      have n35 := n34.trans n5
                      obtain ⟨k1, k2, k3⟩ := n35.free f3 f1 f2
                      have racc : RelDs w5.F H5 acc accV := RelDs.stp (n35.stp A2.h) _ _ f4
                      have hl : accV.length < sizeLine := by
                        have l1 := racc.len
                        rw [← e3] at hlen
                        simp at hlen
                        rw [← l1]
                        show acc.length < 2 ^ 24
                        omega
                      have notup : ∀ vs', HO.lst accV ≠ .tup vs' := fun _ z => nomatch z
                      have nofz : ∀ ob y, HO.lst accV ≠ .frz ob y := fun _ _ z => nomatch z
                      have st : Stp w5.F H5 w5.F (upd H5 Dd (.lst (accV ++ [v]))) := Stp.wr k1 k3 notup
                      refine ⟨accV, k3, hl, w5, m5, acc ++ [x'], accV ++ [v], rest', ?_, ⟨((A2.nxt n35 h5).s.wr k1 k3 notup nofz noD), h5.wr k1 k2 k3 notup⟩, k1, k2, upd_same, RelDs.stp st _ _ (racc.app ⟨v, [], rfl, r5, rfl⟩), e4, by rw [List.append_assoc]; exact e3⟩
                      have nn := n2.trans n35
                      refine ⟨nn.F1, nn.F2, nn.f1, fun a o e nt ha => ?_, fun a ps e => ?_, fun a o e => ?_⟩
                      · exact (upd_ne (by rintro rfl; rw [hD] at e; cases e)).trans (nn.keep a o e nt ha)
                      · obtain ⟨more, e'⟩ := nn.tbl a ps e
                        exact ⟨more, (upd_ne (by rintro rfl; rw [hD] at e; cases e)).trans e'⟩
                      · obtain ⟨o', e'⟩ := nn.there a o e
                        exact ⟨o', (upd_ne (by rintro rfl; rw [hD] at e; cases e)).trans e'⟩
                    | _ => cases e2
      · cases ec
theorem se_lc {ifs : List Expr} (G : Good X) (hi : SJ X tg iter ci) (ok : BlkOk X.N X.env.scope scope own)
    (hg : ∀ (s : Shared) (H : Hp) (C : Addr) (cl : List (Str × Addr)) (fp : List Addr), Good (X.blk s H scope (compEnvC scope cl C X.env) fp) → SG (X.blk s H scope (compEnvC scope cl C X.env) fp) tg g) (hgs : GSl g (own.map (·.2))) (ht : ∀ (s : Shared) (H : Hp) (C : Addr) (cl : List (Str × Addr)) (fp : List Addr), Good (X.blk s H scope (compEnvC scope cl C X.env) fp) → SBs (X.blk s H scope (compEnvC scope cl C X.env) fp) ifs t)
    (he : ∀ (s : Shared) (H : Hp) (C : Addr) (cl : List (Str × Addr)) (fp : List Addr), Good (X.blk s H scope (compEnvC scope cl C X.env) fp) → SE (X.blk s H scope (compEnvC scope cl C X.env) fp) elt c) (hs : ∀ x, foldedSetIterable iter X.env x = pure x := by intro _; rfl) :
    SE X (.ListComp elt [⟨tg, iter, ifs, 0⟩] scope pos) (cLc ci g t c (own.map (·.2))) := (pe_lc (tt := TBc X.ct t) (te := TEc X.ct c) G.calm G.nd hi ok (fun s H C cl fp => hg s H C cl fp G.blk) (fun s H C cl fp => ht s H C cl fp G.blk) (fun s H C cl fp => he s H C cl fp G.blk) hs).imp (imp_lc hgs)
theorem imp_cfz {C : Ct} : ∀ σ H Q, TEc C (cFz c) σ H Q → TEc C c σ H Q := fun σ H Q ⟨w, ρ, m, u, m', A, ec, p⟩ => by
  unfold cFz at ec
  cases q : c ρ m with
  | none => rw [q] at ec; cases ec
  | some r =>
    rw [q] at ec
    obtain ⟨u1, m1⟩ := r
    simp only [Option.bind_some, Option.map_eq_some_iff, Prod.mk.injEq] at ec
    obtain ⟨u2, e1, rfl, rfl⟩ := ec
    exact ⟨w, ρ, m, u1, m1, A, q, p.fz e1⟩
theorem ss_lcF (i : Nat) {y : Str} {py spos : Pos} {ifs : List Expr} (G : Good X) (hi : SJ X tg iter ci) (ok : BlkOk X.N X.env.scope scope own)
    (hg : ∀ (s : Shared) (H : Hp) (C : Addr) (cl : List (Str × Addr)) (fp : List Addr), Good (X.blk s H scope (compEnvC scope cl C X.env) fp) → SG (X.blk s H scope (compEnvC scope cl C X.env) fp) tg g) (hgs : GSl g (own.map (·.2))) (ht : ∀ (s : Shared) (H : Hp) (C : Addr) (cl : List (Str × Addr)) (fp : List Addr), Good (X.blk s H scope (compEnvC scope cl C X.env) fp) → SBs (X.blk s H scope (compEnvC scope cl C X.env) fp) ifs t)
    (he : ∀ (s : Shared) (H : Hp) (C : Addr) (cl : List (Str × Addr)) (fp : List Addr), Good (X.blk s H scope (compEnvC scope cl C X.env) fp) → SE (X.blk s H scope (compEnvC scope cl C X.env) fp) elt c) (hy : X.N[i]? = some y := by rfl) (hyl : X.env.scope.names.lookup y = some .local := by rfl)
    (hsw : swapsWith (.ListComp elt [⟨tg, iter, ifs, 0⟩] scope pos) (some (.Name y py)) spos.line X.env = pure true := by rfl) (hs : ∀ x, foldedSetIterable iter X.env x = pure x := by intro _; rfl) :
    SS X (.Assign [.Name y py] (.ListComp elt [⟨tg, iter, ifs, 0⟩] scope pos) spos) (sAsg i (cFz (cLc ci g t c (own.map (·.2))))) := (ps_setLc (tt := TBc X.ct t) (te := TEc X.ct c) G.calm G.nd hy hyl hsw hi ok (fun s H C cl fp => hg s H C cl fp G.blk) (fun s H C cl fp => ht s H C cl fp G.blk) (fun s H C cl fp => he s H C cl fp G.blk) hs).imp fun D σ H q => imp_lc hgs _ _ _ (imp_cfz _ _ _ (imp_asg (C := X.ct) D σ H q))
theorem ss_lcO (i : Nat) {y : Str} {py spos : Pos} {ifs : List Expr} (G : Good X) (hi : SJ X tg iter ci) (ok : BlkOk X.N X.env.scope scope own)
    (hg : ∀ (s : Shared) (H : Hp) (C : Addr) (cl : List (Str × Addr)) (fp : List Addr), Good (X.blk s H scope (compEnvC scope cl C X.env) fp) → SG (X.blk s H scope (compEnvC scope cl C X.env) fp) tg g) (hgs : GSl g (own.map (·.2))) (ht : ∀ (s : Shared) (H : Hp) (C : Addr) (cl : List (Str × Addr)) (fp : List Addr), Good (X.blk s H scope (compEnvC scope cl C X.env) fp) → SBs (X.blk s H scope (compEnvC scope cl C X.env) fp) ifs t)
    (he : ∀ (s : Shared) (H : Hp) (C : Addr) (cl : List (Str × Addr)) (fp : List Addr), Good (X.blk s H scope (compEnvC scope cl C X.env) fp) → SE (X.blk s H scope (compEnvC scope cl C X.env) fp) elt c) (hy : X.N[i]? = some y := by rfl) (hyl : X.env.scope.names.lookup y = some .local := by rfl)
    (hsw : swapsWith (.ListComp elt [⟨tg, iter, ifs, 0⟩] scope pos) (some (.Name y py)) spos.line X.env = pure true := by rfl) (hs : ∀ x, foldedSetIterable iter X.env x = pure x := by intro _; rfl) :
    SS X (.Assign [.Name y py] (.ListComp elt [⟨tg, iter, ifs, 0⟩] scope pos) spos) (sAsgO i (cLc ci g t c (own.map (·.2)))) := (ps_setLc (tt := TBc X.ct t) (te := TEc X.ct c) G.calm G.nd hy hyl hsw hi ok (fun s H C cl fp => hg s H C cl fp G.blk) (fun s H C cl fp => ht s H C cl fp G.blk) (fun s H C cl fp => he s H C cl fp G.blk) hs).imp fun D σ H q => imp_lc hgs _ _ _ (imp_asgO (C := X.ct) D σ H q)
end
end M

namespace M
open PySem PySem.Spec PyProof.Rows L2
variable [Tb]
section
variable {X : Cx} {e a b : Expr} {c ca cb : CE} {pos : Pos} {st : Stmt} {rest : List Stmt} {cs ct : CS}
def sFzL (i : Nat) (s : CS) : CS := fun ρ m => match ρ[i]? with
  | some (some (.own x)) => s (ρ.set i (some (.d x))) m
  | _ => s ρ m
theorem ss_fzl {i : Nat} {s : CS} (h : SS X st s) : SS X st (sFzL i s) := PS.imp h fun D σ H q => by
  obtain ⟨w0, H0, w, ρ, m, fl, ρ', m', n, o, A, ec, p⟩ := q
  unfold sFzL at ec
  split at ec
  · rename_i x hx
    refine imp_fz (i := i) D σ H ⟨w0, H0, w, ρ, m, fl, ρ', m', n, o, A, ?_, p⟩
    unfold sFz
    rw [hx]
    exact ec
  · exact ⟨w0, H0, w, ρ, m, fl, ρ', m', n, o, A, ec, p⟩
def rIMul : R2 := fun x y H Q => rI CMul (fun i j => .int (i * j)) x y H Q ∨ rI CMulW (fun i j => .int (i * j)) x y H Q
theorem iop_mulW : OpR X (inplaceOp .Mult) (rI CMulW fun i j => .int (i * j)) := opI fun _ _ _ _ _ _ _ hc q => imul_int q hc.ok
theorem iop_mulA : OpR X (inplaceOp .Mult) rIMul := OpR.or iop_mul iop_mulW
theorem iop_fdivN : OpR X (inplaceOp .FloorDiv) (rI CDivN fun i j => .int (i.fdiv j)) := opI fun _ _ _ _ _ _ _ hc q => ifloordiv_int hc.1 q (.inl (PyProof.noPylong_small hc.2))
theorem iop_fdA : OpR X (inplaceOp .FloorDiv) rFdA := OpR.or iop_fdivW iop_fdivN
def iMulG : D → D → Option U
  | .int a, .int b => if mulOk a b = true then some (.d (.int (a * b))) else none
  | _, _ => none
theorem o2_imul {C : Ct} : O2 C rIMul iMulG := fun w m H x y u v z Q hh r1 r2 e p => by
  cases x with
  | int i =>
    cases y with
    | int j =>
      have e' : mulG (.int i) (.int j) = some z := e
      have q := o2_mul (C := C) w m H (.int i) (.int j) u v z Q hh r1 r2 e' p
      have hu : u = .int i := r1
      have hv : v = .int j := r2
      rcases q with q | q | q | q
      · exact .inl q
      · exact .inr q
      · obtain ⟨l, k, xs, ex, _⟩ := q
        rw [hu] at ex
        cases ex
      · unfold rRepT at q
        obtain ⟨l, k, xs, ex, _⟩ := q
        rw [hu] at ex
        cases ex
    | _ => cases e
  | _ => cases e
def iAddG : D → D → Option U
  | .int a, .int b => some (.d (.int (a + b)))
  | _, _ => none
theorem o2_iadd {C : Ct} : O2 C (rI0 fun i j => .int (i + j)) iAddG := fun w m H x y u v z Q hh r1 r2 e p => by
  cases x with
  | int i =>
    cases y with
    | int j =>
      cases e
      exact ⟨i, j, r1, r2, p.now hh rfl⟩
    | _ => cases e
  | _ => cases e
def slotD (ρ : Sg) (i : Nat) : Option D := match ρ[i]? with
  | some (some (.d x)) => some x
  | _ => none
def sAug (i : Nat) (g : D → D → Option U) (c : CE) : CS := fun ρ m => (slotD ρ i).bind fun x => (c ρ m).bind fun p => (valU p.2 p.1).bind fun y => (g x y).bind fun z => match z with
  | .d z => some (.nx, ρ.set i (some (.d z)), p.2)
  | _ => none
theorem slotD_ok {ρ : Sg} {i : Nat} {x : D} (h : slotD ρ i = some x) : ρ[i]? = some (some (.d x)) := by
  unfold slotD at h
  split at h
  · rename_i y hy
    cases h
    exact hy
  · cases h
theorem ss_aug (i : Nat) {x : Str} {op : Operator} {pos' : Pos} {r : R2} {g : D → D → Option U} (hop : OpR X (inplaceOp op) r) (o2 : O2 X.ct r g) (G : Good X) (he : SE X e c) (hi : X.N[i]? = some x := by rfl) (hx : Loc X.env.scope x := by first | exact Or.inl rfl | exact Or.inr rfl) (hf : X.fn x = true ∨ X.env.scope.names.lookup x = some .local := by first | exact .inl rfl | exact .inr rfl | assumption) :
    SS X (.AugAssign (.Name x pos') op e pos) (sAug i g c) := (ps_aug G.nd hi hx he hop hf).imp fun D σ H ⟨w0, H0, w, ρ, m, fl, ρ', m', n, o, A, ec, p⟩ => by
  unfold sAug at ec
  cases q0 : slotD ρ i with
  | none => rw [q0] at ec; cases ec
  | some x0 =>
    rw [q0, Option.bind_some] at ec
    cases q : c ρ m with
    | none => rw [q] at ec; cases ec
    | some r1 =>
      obtain ⟨u1, m1⟩ := r1
      rw [q, Option.bind_some] at ec
      cases q2 : valU m1 u1 with
      | none => simp only [q2] at ec; cases ec
      | some y =>
        simp only [q2, Option.bind_some] at ec
        cases q3 : g x0 y with
        | none => simp only [q3] at ec; cases ec
        | some z =>
          simp only [q3, Option.bind_some] at ec
          cases z with
          | d z =>
            cases ec
            obtain ⟨v0, e0, r0⟩ := A.s.at_ i _ (slotD_ok q0)
            refine ⟨v0, e0, w, ρ, m, u1, _, A, q, fun w1 H1 v1 n1 h1 r1 _ => ?_⟩
            have r0' : RelU X.ct w1 H1 (.d x0) v0 := RelU.nxt n1 A.h r0
            refine o2 w1 _ H1 x0 y v0 v1 (.d z) _ h1 (RelD.r r0') (valU_rel h1 r1 q2) q3 fun w2 H2 v2 n2 h2 r2 _ => ?_
            have n12 := n1.trans n2
            exact p w2 _ H2 (n.trans n12) (o.set (fun _ z => nomatch z)) (n12.stp A.h) ⟨(A.nxt n12 h2).s.set r2 (fun _ z => nomatch z) (fun _ z => nomatch z), h2⟩
          | _ => cases ec
theorem ss_augAdd (i : Nat) {x : Str} {pos' : Pos} (G : Good X) (he : SE X e c) (hi : X.N[i]? = some x := by rfl) (hx : Loc X.env.scope x := by first | exact Or.inl rfl | exact Or.inr rfl) (hf : X.fn x = true ∨ X.env.scope.names.lookup x = some .local := by first | exact .inl rfl | exact .inr rfl | assumption) : SS X (.AugAssign (.Name x pos') .Add e pos) (sAug i iAddG c) := ss_aug i iop_add o2_iadd G he hi hx hf
theorem ss_augSub (i : Nat) {x : Str} {pos' : Pos} (G : Good X) (he : SE X e c) (hi : X.N[i]? = some x := by rfl) (hx : Loc X.env.scope x := by first | exact Or.inl rfl | exact Or.inr rfl) (hf : X.fn x = true ∨ X.env.scope.names.lookup x = some .local := by first | exact .inl rfl | exact .inr rfl | assumption) : SS X (.AugAssign (.Name x pos') .Sub e pos) (sAug i subG c) := ss_aug i iop_sub o2_sub G he hi hx hf
theorem ss_augMul (i : Nat) {x : Str} {pos' : Pos} (G : Good X) (he : SE X e c) (hi : X.N[i]? = some x := by rfl) (hx : Loc X.env.scope x := by first | exact Or.inl rfl | exact Or.inr rfl) (hf : X.fn x = true ∨ X.env.scope.names.lookup x = some .local := by first | exact .inl rfl | exact .inr rfl | assumption) : SS X (.AugAssign (.Name x pos') .Mult e pos) (sAug i iMulG c) := ss_aug i iop_mulA o2_imul G he hi hx hf
theorem ss_augFdiv (i : Nat) {x : Str} {pos' : Pos} (G : Good X) (he : SE X e c) (hi : X.N[i]? = some x := by rfl) (hx : Loc X.env.scope x := by first | exact Or.inl rfl | exact Or.inr rfl) (hf : X.fn x = true ∨ X.env.scope.names.lookup x = some .local := by first | exact .inl rfl | exact .inr rfl | assumption) : SS X (.AugAssign (.Name x pos') .FloorDiv e pos) (sAug i fdivG c) := ss_aug i iop_fdA o2_fdiv G he hi hx hf
def parU : U → Option U
  | .d x => some (.d x)
  | .ref r => some (.ref r)
  | .tmp x => some (.own x)
  | _ => none
def setP : Sg → List Nat → List U → Option Sg
  | ρ, [], [] => some ρ
  | ρ, i :: is, u :: us => (parU u).bind fun u' => setP (ρ.set i (some u')) is us
  | _, _, _ => none
def sPar (is : List Nat) (t : CA) : CS := fun ρ m => (t ρ m).bind fun p => (setP ρ is p.1).map fun ρ' => (.nx, ρ', p.2)
def setVs : L2.St → List Nat → List V → L2.St
  | σ, i :: is, v :: vs => setVs (σ.set i (some v)) is vs
  | σ, _, _ => σ
theorem setP_ok {C : Ct} {w1 : Wd} {m1 : Mh} {H H1 H0 : Hp} (back : ∀ a, H a = none → H0 a = none) (h1 : RelH C w1 m1 H1) : ∀ {is : List Nat} {us : List U} {vs : List V} {ρ ρ' : Sg} {σ : L2.St}, setP ρ is us = some ρ' → RelUs C w1 H1 us vs → FrU H us vs → RelS C w1 H1 ρ σ → OwnF H0 ρ σ →
    (∀ (k : Nat) y a (j : Nat) x, ρ[k]? = some (some (.own y)) → σ[k]? = some (some (.ref a)) → us[j]? = some (.tmp x) → vs[j]? ≠ some (.ref a)) → RelS C w1 H1 ρ' (setVs σ is vs) ∧ OwnF H0 ρ' (setVs σ is vs)
  | [], [], vs, ρ, ρ', σ, e, r, fr, s, o, ap => by
    cases e
    have e : vs = [] := r
    subst e
    exact ⟨s, o⟩
  | i :: is, u :: us, vs, ρ, ρ', σ, e, ⟨v, vr, ev, r1, r2⟩, fr, s, o, ap => by
    subst ev
    have e : ((parU u).bind fun u' => setP (ρ.set i (some u')) is us) = some ρ' := e
    have fr' : FrU H us vr := ⟨fun k x a e1 e2 => fr.fr (k + 1) x a (by simpa using e1) (by simpa using e2), fun k j x y a hkj e1 e2 e3 => by
      have := fr.ap (k + 1) (j + 1) x y a (by omega) (by simpa using e1) (by simpa using e2) (by simpa using e3)
      simpa using this⟩
    cases u with
    | d x =>
      refine setP_ok (σ := σ.set i (some v)) back h1 e r2 fr' (s.set r1 (fun _ z => nomatch z) (fun _ z => nomatch z)) (o.set (fun _ z => nomatch z)) fun k y a j x' e1 e2 e3 => ?_
      rw [List.getElem?_set] at e1 e2
      by_cases hk : i = k
      · rw [if_pos hk] at e1
        split at e1 <;> cases e1
      · rw [if_neg hk] at e1 e2
        have := ap k y a (j + 1) x' e1 e2 (by simpa using e3)
        simpa using this
    | ref x =>
      refine setP_ok (σ := σ.set i (some v)) back h1 e r2 fr' (s.set r1 (fun _ z => nomatch z) (fun _ z => nomatch z)) (o.set (fun _ z => nomatch z)) fun k y a j x' e1 e2 e3 => ?_
      rw [List.getElem?_set] at e1 e2
      by_cases hk : i = k
      · rw [if_pos hk] at e1
        split at e1 <;> cases e1
      · rw [if_neg hk] at e1 e2
        have := ap k y a (j + 1) x' e1 e2 (by simpa using e3)
        simpa using this
    | own x => cases e
    | scr x => cases e
    | tmp x =>
      obtain ⟨a0, ev, g1, g2, g3⟩ := r1
      subst ev
      refine setP_ok (σ := σ.set i (some (.ref a0))) back h1 e r2 fr' (s.setOwn ⟨a0, rfl, g1, g2, g3⟩ fun k y hk e1 e2 => ?_) (o.setOwn (back a0 (fr.fr 0 x a0 rfl rfl))) fun k y a j x' e1 e2 e3 => ?_
      · exact ap k y a0 0 x e1 e2 rfl rfl
      · rw [List.getElem?_set] at e1 e2
        by_cases hk : i = k
        · rw [if_pos hk] at e2
          split at e2
          · cases e2
            have := fr.ap 0 (j + 1) x x' a0 (by omega) rfl (by simpa using e3) rfl
            simpa using this
          · cases e2
        · rw [if_neg hk] at e1 e2
          have := ap k y a (j + 1) x' e1 e2 (by simpa using e3)
          simpa using this
  | [], _ :: _, _, _, _, _, e, _, _, _, _, _ => by cases e
  | _ :: _, [], _, _, _, _, e, _, _, _, _, _ => by cases e
theorem setP_len : ∀ {is : List Nat} {us : List U} {ρ ρ1 : Sg}, setP ρ is us = some ρ1 → us.length = is.length
  | [], [], ρ, ρ1, e => rfl
  | [], _ :: _, _, _, e => by cases e
  | _ :: _, [], _, _, e => by cases e
  | i :: is, u :: us, ρ, ρ1, e => by
    have e : ((parU u).bind fun u' => setP (ρ.set i (some u')) is us) = some ρ1 := e
    cases q : parU u with
    | none => rw [q] at e; cases e
    | some u' =>
      rw [q, Option.bind_some] at e
      simp [setP_len e]
theorem imp_par {C : Ct} {is : List Nat} {t : CA} {D : Ends} {σ : L2.St} {H : Hp} (q : TSc C (sPar is t) D σ H) : TAc C t σ H fun vs H1 => vs.length = is.length ∧ D.nx (setVs σ is vs) H1 := by
  obtain ⟨w0, H0, w, ρ, m, fl, ρ', m', n, o, A, ec, p⟩ := q
  unfold sPar at ec
  cases q : t ρ m with
  | none => rw [q] at ec; cases ec
  | some r =>
    obtain ⟨us, m1⟩ := r
    rw [q, Option.bind_some, Option.map_eq_some_iff] at ec
    obtain ⟨ρ1, e1, e2⟩ := ec
    cases e2
    refine ⟨w, ρ, m, us, _, A, q, fun w1 H1 vs n1 h1 r1 fr => ?_⟩
    have A1 := A.nxt n1 h1
    obtain ⟨s2, o2⟩ := setP_ok (H := H) (fun a e => n.back e) h1 e1 r1 fr A1.s o fun k y a j x g1 g2 g3 g4 => by
      obtain ⟨b, g5, _, _, _, ne⟩ := A.s.ownAt g1
      rw [g5] at g2
      cases g2
      exact ne (fr.fr j x _ g3 g4)
    refine ⟨?_, p w1 _ H1 (n.trans n1) o2 (n1.stp A.h) ⟨s2, h1⟩⟩
    rw [← r1.len]
    exact setP_len e1
theorem ss_par (i j : Nat) {x y : Str} {t : CA} {px py pt : Pos} {kt k2 pt2} (G : Good X) (ha : SA X [a, b] t) (hij : i ≠ j := by decide) (hi : X.N[i]? = some x := by rfl) (hj : X.N[j]? = some y := by rfl)
    (hx : X.env.scope.names.lookup x = some .local := by rfl) (hy : X.env.scope.names.lookup y = some .local := by rfl)
    (hw : swappedStores [.Tuple [.Name x px, .Name y py] kt pt] (.Tuple [a, b] k2 pt2) X.env = pure (some [x, y]) := by rfl)
    (hs : swapsWithSole [.Tuple [.Name x px, .Name y py] kt pt] (.Tuple [a, b] k2 pt2) pos.line X.env = pure false := by rfl) :
    SS X (.Assign [.Tuple [.Name x px, .Name y py] kt pt] (.Tuple [a, b] k2 pt2) pos) (sPar [i, j] t) := (ps_par G.calm G.nd hi hj hij hx hy ha hw hs).imp fun D σ H q => by
  obtain ⟨w, ρ, m, us, m', A, ec, p⟩ := imp_par q
  refine ⟨w, ρ, m, us, m', A, ec, fun w1 H1 vs n1 h1 r1 fr => ?_⟩
  obtain ⟨hl, hd⟩ := p w1 H1 vs n1 h1 r1 fr
  match vs, hl, hd with
  | [v1, v2], _, hd => exact ⟨v1, v2, rfl, hd⟩
theorem ss_par3 (i j l : Nat) {x y z : Str} {d : Expr} {t : CA} {px py pz pt : Pos} {kt k2 pt2} (G : Good X) (ha : SA X [a, b, d] t) (hij : i ≠ j := by decide) (hil : i ≠ l := by decide) (hjl : j ≠ l := by decide) (hi : X.N[i]? = some x := by rfl) (hj : X.N[j]? = some y := by rfl) (hl : X.N[l]? = some z := by rfl)
    (hx : X.env.scope.names.lookup x = some .local := by rfl) (hy : X.env.scope.names.lookup y = some .local := by rfl) (hz : X.env.scope.names.lookup z = some .local := by rfl)
    (hw : swappedStores [.Tuple [.Name x px, .Name y py, .Name z pz] kt pt] (.Tuple [a, b, d] k2 pt2) X.env = pure (some [x, y, z]) := by rfl)
    (hs : swapsWithSole [.Tuple [.Name x px, .Name y py, .Name z pz] kt pt] (.Tuple [a, b, d] k2 pt2) pos.line X.env = pure false := by rfl) :
    SS X (.Assign [.Tuple [.Name x px, .Name y py, .Name z pz] kt pt] (.Tuple [a, b, d] k2 pt2) pos) (sPar [i, j, l] t) := (ps_par3 G.calm G.nd hi hj hl hij hil hjl hx hy hz ha hw hs).imp fun D σ H q => by
  obtain ⟨w, ρ, m, us, m', A, ec, p⟩ := imp_par q
  refine ⟨w, ρ, m, us, m', A, ec, fun w1 H1 vs n1 h1 r1 fr => ?_⟩
  obtain ⟨hl, hd⟩ := p w1 H1 vs n1 h1 r1 fr
  match vs, hl, hd with
  | [v1, v2, v3], _, hd => exact ⟨v1, v2, v3, rfl, hd⟩
theorem RelFs.ext {C : Ct} {w : Wd} {H : Hp} {a : Addr} : ∀ {us : List (Str × U)} {vs : List (Str × V)}, (us.all fun p => okF p.2) = true → RelFs C w H us vs → RelFs C ⟨w.F, w.f ++ [a]⟩ H us vs
  | [], _, _, r => r
  | (nm, u) :: us, vs, q, ⟨v, r, e, h1, h2⟩ => by
    rw [List.all_cons, Bool.and_eq_true] at q
    refine ⟨v, r, e, ?_, RelFs.ext q.2 h2⟩
    cases u with
    | d x => exact h1
    | ref k =>
      obtain ⟨a', ea, e'⟩ := h1
      refine ⟨a', ?_, e'⟩
      show (w.f ++ [a])[k]? = some a'
      rw [List.getElem?_append_left (List.getElem?_eq_some_iff.mp ea).1]
      exact ea
    | _ => exact nomatch q.1
theorem RelO.ext {C : Ct} {w : Wd} {H : Hp} {a b : Addr} {o : MO} (r : RelO C w H o b) : RelO C ⟨w.F, w.f ++ [a]⟩ H o b := by
  cases o with
  | v x => exact r
  | ins c fs =>
    obtain ⟨cl, dx, vs, q1, q2, q3, q4⟩ := r
    exact ⟨cl, dx, vs, q1, q2, q3, q4.ext q3⟩
theorem RelH.cell {C : Ct} {w : Wd} {m : Mh} {H : Hp} (h : RelH C w m H) {o : MO} {a : Addr} (g1 : ¬ w.F a) (g2 : a ∉ w.f) (g3 : RelO C w H o a) : RelH C ⟨w.F, w.f ++ [a]⟩ (m ++ [o]) H := by
  refine ⟨by simp [h.len], ?_, fun r o' b e1 e2 => ?_, fun b hb => ?_, h.tF, h.tb⟩
  · rw [List.nodup_append]
    exact ⟨h.nd, by simp, fun x hx y hy => by
      rw [List.mem_singleton] at hy
      subst hy
      exact fun z => g2 (z ▸ hx)⟩
  · have e2' : (w.f ++ [a])[r]? = some b := e2
    by_cases hr : r < w.f.length
    · rw [List.getElem?_append_left hr] at e2'
      rw [List.getElem?_append_left (by rw [← h.len]; exact hr)] at e1
      exact RelO.ext (h.at_ r o' b e1 e2')
    · rw [List.getElem?_append_right (by omega)] at e2'
      rw [List.getElem?_append_right (by rw [← h.len]; omega)] at e1
      have hl := h.len
      rw [hl] at e2'
      have h0 : r - m.length = 0 := by
        have := (List.getElem?_eq_some_iff.mp e1).1
        simp at this
        omega
      rw [h0] at e1 e2'
      simp at e1 e2'
      subst e1 e2'
      exact RelO.ext g3
  · have hb : b ∈ w.f ++ [a] := hb
    rcases List.mem_append.mp hb with hb | hb
    · exact h.nF b hb
    · rw [List.mem_singleton.mp hb]
      exact g1
def cNew (c : CE) : CE := fun ρ m => (c ρ m).bind fun p => match p.1 with
  | .tmp x => some (.ref p.2.length, p.2 ++ [.v x])
  | _ => none
theorem PostE.cell {C : Ct} {w : Wd} {H : Hp} {x : D} {m1 : Mh} {Q : VK} (p : PostE C w H (.ref m1.length) (m1 ++ [.v x]) Q) : PostE C w H (.tmp x) m1 Q := fun w' H' v n h r f => by
  obtain ⟨a, ev, g1, g2, g3⟩ := r
  have fr := f a ev
  obtain ⟨gg, eg, hg⟩ := n.f1
  refine p ⟨w'.F, w'.f ++ [a]⟩ H' v ⟨n.F1, n.F2, ⟨gg ++ [a], by rw [← List.append_assoc, ← eg], fun b hb => ?_⟩, n.keep, n.tbl, n.there⟩ (h.cell (o := .v x) g1 g2 g3) ⟨a, ?_, ev⟩ trivial
  · rcases List.mem_append.mp hb with hb | hb
    · exact hg b hb
    · rw [List.mem_singleton.mp hb]
      exact fr
  · show (w'.f ++ [a])[m1.length]? = some a
    rw [← h.len]
    simp
theorem imp_new {C : Ct} : ∀ σ H Q, TEc C (cNew c) σ H Q → TEc C c σ H Q := fun σ H Q ⟨w, ρ, m, u, m', A, ec, p⟩ => by
  unfold cNew at ec
  cases q : c ρ m with
  | none => rw [q] at ec; cases ec
  | some r =>
    obtain ⟨u1, m1⟩ := r
    rw [q, Option.bind_some] at ec
    cases u1 with
    | tmp x =>
      cases ec
      exact ⟨w, ρ, m, _, m1, A, q, p.cell⟩
    | _ => cases ec
theorem se_new (h : SE X e c) : SE X e (cNew c) := PE.imp h imp_new
theorem RelH.put {C : Ct} {w : Wd} {m : Mh} {H : Hp} (h : RelH C w m H) {k : Nat} {a : Addr} {o u : HO} {x : D} (hk : w.f[k]? = some a) (h3 : H a = some o) (h4 : ∀ vs, o ≠ .tup vs) (h5 : ∀ ps, o ≠ .tbl ps) (r : RelC w.F (upd H a u) x a) : RelH C w (m.set k (.v x)) (upd H a u) :=
  ⟨by simp [h.len], h.nd, fun r' o' b e1 e2 => by
    have h1 : ¬ w.F a := h.nF a (List.mem_of_getElem? hk)
    rw [List.getElem?_set] at e1
    by_cases hr : k = r'
    · subst hr
      rw [hk] at e2
      cases e2
      rw [if_pos rfl] at e1
      split at e1
      · cases e1
        exact r
      · cases e1
    · rw [if_neg hr] at e1
      have hb : b ≠ a := by
        rintro rfl
        have l1 := (List.getElem?_eq_some_iff.mp hk).1
        have e3 : w.f[k]? = w.f[r']? := by rw [hk, e2]
        exact hr ((List.getElem?_inj l1 h.nd).mp e3)
      exact RelO.stp (Stp.wr h1 h3 h4) (fun x e => (upd_ne hb).trans (by
        exact e)) (h.at_ r' o' b e1 e2), h.nF, fun b z => by
    obtain ⟨o', e, q⟩ := h.tF b z
    exact ⟨o', (upd_ne (by rintro rfl; exact h.nF b (List.mem_of_getElem? hk) z)).trans e, q⟩, fun P hP => let ⟨ps, e, q⟩ := h.tb P hP; ⟨ps, (upd_ne (by rintro rfl; rw [h3] at e; cases e; exact h5 ps rfl)).trans e, q⟩⟩
theorem Nxt.put {w : Wd} {H : Hp} {a : Addr} {o u : HO} (ha : a ∈ w.f) (h3 : H a = some o) (h5 : ∀ ps, o ≠ .tbl ps) : Nxt w H w (upd H a u) :=
  ⟨fun _ h => h, fun _ h => .inl h, ⟨[], by simp, fun _ h => by simp at h⟩, fun b o e _ hb => (upd_ne (by rintro rfl; exact hb ha)).trans e, fun b ps e => ⟨#[], by rw [Array.append_empty]; exact (upd_ne (by rintro rfl; rw [h3] at e; cases e; exact h5 ps rfl)).trans e⟩, fun b o e => by
    by_cases hb : b = a
    · subst hb; exact ⟨u, upd_same⟩
    · exact ⟨o, (upd_ne hb).trans e⟩⟩
theorem own_put {C : Ct} {w0 w : Wd} {H0 H : Hp} {ρ : Sg} {σ : L2.St} {m : Mh} {i : Nat} {x x' : D} {a : Addr} {o u : HO} (n : Nxt w0 H0 w H) (ow : OwnF H0 ρ σ) (A : At C w ρ σ m H) (hr : ρ[i]? = some (some (.own x))) (hs : σ[i]? = some (some (.ref a))) (g1 : ¬ w.F a) (g2 : a ∉ w.f)
    (h3 : H a = some o) (h4 : ∀ vs, o ≠ .tup vs) (h5 : ∀ ob y, o ≠ .frz ob y) (h6 : ∀ ps, o ≠ .tbl ps) (r : RelC w.F (upd H a u) x' a) : Nxt w0 H0 w (upd H a u) ∧ OwnF H0 (ρ.set i (some (.own x'))) σ ∧ Stp w.F H w.F (upd H a u) ∧ At C w (ρ.set i (some (.own x'))) σ m (upd H a u) := by
  have fr : H0 a = none := ow i x a hr hs
  have es : σ.set i (some (.ref a)) = σ := set_self hs
  refine ⟨⟨n.F1, n.F2, n.f1, fun b o' e nt hb => (upd_ne (by rintro rfl; rw [fr] at e; cases e)).trans (n.keep b o' e nt hb), fun b ps e => (n.tbl b ps e).imp fun more e' => (upd_ne (by rintro rfl; rw [fr] at e; cases e)).trans e', fun b o' e => ?_⟩, ?_, Stp.wr g1 h3 h4, ?_, A.h.wr g1 g2 h3 h4 h6⟩
  · obtain ⟨o'', e'⟩ := n.there b o' e
    exact ⟨o'', (upd_ne (by rintro rfl; rw [fr] at e; cases e)).trans e'⟩
  · have := OwnF.setOwn (x := x') ow (i := i) fr
    rw [es] at this
    exact this
  · have sm : RelS C w (upd H a u) (ρ.set i none) σ := by
      refine RelS.wr (o := o) ⟨by simp [A.s.len], fun j u' e => ?_, fun j k y z v hjk e1 e2 e3 => ?_, fun j y e => ?_⟩ g1 h3 h4 h5 fun j y e1 e2 => ?_
      · rw [List.getElem?_set] at e
        by_cases hj : i = j
        · rw [if_pos hj] at e
          split at e <;> cases e
        · rw [if_neg hj] at e
          exact A.s.at_ j u' e
      · rw [List.getElem?_set] at e1 e2
        by_cases hj : i = j
        · rw [if_pos hj] at e1
          split at e1 <;> cases e1
        · by_cases hk : i = k
          · rw [if_pos hk] at e2
            split at e2 <;> cases e2
          · rw [if_neg hj] at e1
            rw [if_neg hk] at e2
            exact A.s.sep j k y z v hjk e1 e2 e3
      · rw [List.getElem?_set] at e
        by_cases hj : i = j
        · rw [if_pos hj] at e
          split at e <;> cases e
        · rw [if_neg hj] at e
          exact A.s.nt j y e
      · rw [List.getElem?_set] at e1
        by_cases hj : i = j
        · rw [if_pos hj] at e1
          split at e1 <;> cases e1
        · rw [if_neg hj] at e1
          exact A.s.sep i j x y _ hj hr e1 hs e2
    have := sm.setOwn (i := i) (x := x') (a := a) ⟨a, rfl, g1, g2, r⟩ fun j y hj e1 e2 => by
      rw [List.getElem?_set, if_neg hj] at e1
      exact A.s.sep i j x y _ hj hr e1 hs e2
    rw [es, List.set_set] at this
    exact this
end
end M

namespace M
open PySem PySem.Spec PyProof.Rows L2
variable [Tb]
abbrev FM := D → List D → Option (D × D)
def MrOk (C : Ct) (r : V → List V → Hp → VK → Prop) (f : FM) : Prop := ∀ w m H a x ys vs x' z, RelH C w m H → RelC w.F H x a → ¬ w.F a → RelDs w.F H ys vs → f x ys = some (x', z) →
  ∃ o u v, H a = some o ∧ (∀ vs, o ≠ .tup vs) ∧ (∀ ob y, o ≠ .frz ob y) ∧ (∀ ps, o ≠ .tbl ps) ∧ RelC w.F (upd H a u) x' a ∧ RelD w.F (upd H a u) z v ∧ ∀ Q : VK, Q v (upd H a u) → r (.ref a) vs H Q
def isL : D → Bool
  | .list _ => true
  | _ => false
def KTy (K : PySem.W.Frag) (T : String) (kT : D → Bool) : Prop := ∀ F H x a, RelC F H x a → kT x = true → tyV K T (.ref a) H
theorem kty_list {K : PySem.W.Frag} : KTy K "list" isL := fun F H x a r h => by
  cases x with
  | list xs =>
    obtain ⟨vs, e, _⟩ := r
    exact .inl ⟨rfl, vs, SqL.of e⟩
  | _ => cases h
section
variable {X : Cx} {e a b o : Expr} {c ca cb : CE} {pos apos cpos : Pos} {st : Stmt} {rest : List Stmt} {cs ct : CS} {t : CA} {T id : String} {r : V → List V → Hp → VK → Prop} {f : FM} {kT : D → Bool}
def caD (t : CA) : Sg → Mh → Option (List D × Mh) := fun ρ m => (t ρ m).bind fun p => (allD p.1).map fun ys => (ys, p.2)
theorem caD_ok {ρ : Sg} {m m' : Mh} {ys : List D} (h : caD t ρ m = some (ys, m')) : ∃ us, t ρ m = some (us, m') ∧ allD us = some ys := bindA h
def sOwn (i : Nat) (kT : D → Bool) (f : FM) (t : CA) : CS := fun ρ m => match ρ[i]? with
  | some (some (.own x)) => if kT x = true then (caD t ρ m).bind fun p => (f x p.1).map fun q => (.nx, ρ.set i (some (.own q.1)), p.2) else none
  | _ => none
theorem imp_own {C : Ct} {i : Nat} (hT : KTy C.K T kT) (hf : MrOk C r f) : ∀ D σ H, TSc C (sOwn i kT f t) D σ H → tDrop (tBM C.K T r (tVar i) (TAc C t)) D σ H := fun D σ H ⟨w0, H0, w, ρ, m, fl, ρ', m', n, ow, A, ec, p⟩ => by
  unfold sOwn at ec
  split at ec
  · rename_i x hx
    split at ec
    · rename_i hk
      cases q : caD t ρ m with
      | none => rw [q] at ec; cases ec
      | some r1 =>
        obtain ⟨ys, m1⟩ := r1
        rw [q, Option.bind_some, Option.map_eq_some_iff] at ec
        obtain ⟨⟨x', z⟩, e1, e2⟩ := ec
        cases e2
        obtain ⟨us, q1, q2⟩ := caD_ok q
        obtain ⟨a, hs, g1, g2, g3, _⟩ := A.s.ownAt hx
        refine ⟨.ref a, hs, hT _ _ _ _ g3 hk, w, ρ, m, us, m1, A, q1, fun w1 H1 vs n1 h1 r1 _ => ?_⟩
        have A1 := A.nxt n1 h1
        obtain ⟨a', hs', k1, k2, k3, _⟩ := A1.s.ownAt hx
        rw [hs] at hs'
        cases hs'
        obtain ⟨oo, u, v, h3, h4, h5, ht, h6, h7, h8⟩ := hf w1 m1 H1 a x ys vs x' z h1 k3 k1 (allD_rel q2 r1) e1
        obtain ⟨b1, b2, b3, b4⟩ := own_put (n.trans n1) ow A1 hx hs k1 k2 h3 h4 h5 ht h6
        exact h8 _ (p w1 σ _ b1 b2 ((n1.stp A.h).trans b3) b4)
    · cases ec
  · cases ec
theorem ss_own (i : Nat) {x : Str} {px epos : Pos} {es : List Expr} {name : Str} (pa : PlainAttrs T) (slot : Slot T name id) (hty : typeOf (.builtin id) = pure (.type "method_descriptor")) (hm : MtR X id r) (hT : KTy X.K T kT) (hf : MrOk X.ct r f) (ha : SA X (e :: es) t)
    (hN : X.N[i]? = some x := by rfl) (hv : Vis X.env.scope x := by first | exact Or.inl rfl | exact Or.inr (Or.inl rfl) | exact Or.inr (Or.inr rfl)) (hd : (x == ("__debug__" : Str)) = false := by decide) (hcd : (x == ("__classdict__" : Str)) = false := by decide)
    (hbase : attributeBase (.Name x px) name X.env (eval (.Name x px) X.env) = eval (.Name x px) X.env := by rfl)
    (hfew : ((backTo cpos (starEach (e :: es) X.env)).all (fun x => !x.1) && (backToKw cpos (keywordEach [] X.env)).all (fun x => x.1.isSome)
      && decide ((e :: es).length + ([] : List Keyword).length + (if ([] : List Keyword).isEmpty then 0 else 1) < 30)) = true := by rfl)
    (hline : (apos.endLine == cpos.line) = true := by rfl) (hs : starEach (e :: es) X.env = (false, eval e X.env) :: starEach es X.env := by rfl) (hplain : (backTo cpos (starEach es X.env)).any (·.1) = false := by rfl)
    (hsw : swapsWith (.Call (.Attribute (.Name x px) name apos) (e :: es) [] cpos) none epos.line X.env = pure false := by rfl) :
    SS X (.Expr (.Call (.Attribute (.Name x px) name apos) (e :: es) [] cpos) epos) (sOwn i kT f t) :=
  (ps_expr (pe_bm pa slot hty hm (pv i hN hv hd hcd) ha hbase hfew hline hs hplain) hsw).imp (imp_own hT hf)
def cellU (m : Mh) : U → Option (Nat × D)
  | .ref k => match m[k]? with
    | some (.v x) => some (k, x)
    | _ => none
  | _ => none
theorem cellU_ok {m : Mh} {u : U} {k : Nat} {x : D} (h : cellU m u = some (k, x)) : u = .ref k ∧ m[k]? = some (.v x) := by
  unfold cellU at h
  split at h
  · split at h
    · rename_i hx
      cases h
      exact ⟨rfl, hx⟩
    · cases h
  · cases h
def cCellM (c : CE) (kT : D → Bool) (f : FM) (t : CA) : CE := fun ρ m => (c ρ m).bind fun p => (cellU p.2 p.1).bind fun kx => if kT kx.2 = true then (caD t ρ p.2).bind fun q => (cellU q.2 p.1).bind fun kx => (f kx.2 q.1).map fun z => (.d z.2, q.2.set kx.1 (.v z.1)) else none
theorem imp_cellM {C : Ct} (hT : KTy C.K T kT) (hf : MrOk C r f) : ∀ σ H Q, TEc C (cCellM c kT f t) σ H Q → tBM C.K T r (TEc C c) (TAc C t) σ H Q := fun σ H Q ⟨w, ρ, m, u, m', A, ec, p⟩ => by
  unfold cCellM at ec
  cases q0 : c ρ m with
  | none => rw [q0] at ec; cases ec
  | some r0 =>
    obtain ⟨u1, m1⟩ := r0
    rw [q0, Option.bind_some] at ec
    simp only at ec
    cases q1 : cellU m1 u1 with
    | none => rw [q1] at ec; cases ec
    | some kx =>
      obtain ⟨k, x⟩ := kx
      rw [q1, Option.bind_some] at ec
      split at ec
      · rename_i hk
        cases q2 : caD t ρ m1 with
        | none => rw [q2] at ec; cases ec
        | some r2 =>
          obtain ⟨ys, m2⟩ := r2
          rw [q2, Option.bind_some] at ec
          simp only at ec
          cases q3 : cellU m2 u1 with
          | none => rw [q3] at ec; cases ec
          | some kx2 =>
            obtain ⟨k2, x2⟩ := kx2
            rw [q3, Option.bind_some, Option.map_eq_some_iff] at ec
            obtain ⟨⟨x', z⟩, e1, e2⟩ := ec
            cases e2
            obtain ⟨e3, e4⟩ := cellU_ok q1
            obtain ⟨e5, e6⟩ := cellU_ok q3
            subst e3
            cases e5
            obtain ⟨us, q4, q5⟩ := caD_ok q2
            refine ⟨w, ρ, m, _, m1, A, q0, fun w1 H1 v1 n1 h1 r1 _ => ?_⟩
            obtain ⟨a, ea, ev⟩ := r1
            subst ev
            refine ⟨hT _ _ _ _ (h1.at_ k _ a e4 ea) hk, w1, ρ, m1, us, m2, A.nxt n1 h1, q4, fun w2 H2 vs n2 h2 r2 _ => ?_⟩
            have ea2 : w2.f[k]? = some a := by
              obtain ⟨g, eg, _⟩ := n2.f1
              rw [eg, List.getElem?_append_left (List.getElem?_eq_some_iff.mp ea).1]
              exact ea
            have ma : a ∈ w2.f := List.mem_of_getElem? ea2
            obtain ⟨oo, u, v, h3, h4, h5, ht, h6, h7, h8⟩ := hf w2 m2 H2 a x2 ys vs x' z h2 (h2.at_ k _ a e6 ea2) (h2.nF a ma) (allD_rel q5 r2) e1
            exact h8 _ (p w2 _ v ((n1.trans n2).trans (Nxt.put ma h3 ht)) (h2.put ea2 h3 h4 ht h6) h7 trivial)
      · cases ec
theorem se_cellM {es : List Expr} {name : Str} (pa : PlainAttrs T) (slot : Slot T name id) (hty : typeOf (.builtin id) = pure (.type "method_descriptor")) (hm : MtR X id r) (hT : KTy X.K T kT) (hf : MrOk X.ct r f) (ho : SE X o c) (ha : SA X (e :: es) t)
    (hbase : attributeBase o name X.env (eval o X.env) = eval o X.env := by rfl)
    (hfew : ((backTo cpos (starEach (e :: es) X.env)).all (fun x => !x.1) && (backToKw cpos (keywordEach [] X.env)).all (fun x => x.1.isSome)
      && decide ((e :: es).length + ([] : List Keyword).length + (if ([] : List Keyword).isEmpty then 0 else 1) < 30)) = true := by rfl)
    (hline : (apos.endLine == cpos.line) = true := by rfl) (hs : starEach (e :: es) X.env = (false, eval e X.env) :: starEach es X.env := by rfl) (hplain : (backTo cpos (starEach es X.env)).any (·.1) = false := by rfl) :
    SE X (.Call (.Attribute o name apos) (e :: es) [] cpos) (cCellM c kT f t) := (pe_bm pa slot hty hm ho ha hbase hfew hline hs hplain).imp (imp_cellM hT hf)
theorem se_cellM0 {name : Str} (pa : PlainAttrs T) (slot : Slot T name id) (hty : typeOf (.builtin id) = pure (.type "method_descriptor")) (hm : MtR X id r) (hT : KTy X.K T kT) (hf : MrOk X.ct r f) (ho : SE X o c)
    (hbase : attributeBase o name X.env (eval o X.env) = eval o X.env := by rfl) (hline : (apos.endLine == cpos.line) = true := by rfl) : SE X (.Call (.Attribute o name apos) [] [] cpos) (cCellM c kT f caNil) :=
  (pe_bm0 pa slot hty hm ho hbase hline).imp fun σ H Q q => by
    obtain ⟨w, ρ, m, u, m', A, ec, g⟩ := imp_cellM (C := X.ct) hT hf σ H Q q
    refine ⟨w, ρ, m, u, m', A, ec, fun w1 H1 v n1 h1 r1 f1 => ?_⟩
    obtain ⟨ty, w2, ρ2, m2, us, m3, A2, e2, g2⟩ := g w1 H1 v n1 h1 r1 f1
    cases e2
    exact ⟨ty, g2 w2 H1 [] Nxt.refl A2.h rfl ⟨fun i x a e _ => by simp at e, fun i j x y a _ e _ _ => by simp at e⟩⟩
def appF : FM
  | .list xs, [y] => if xs.length < 16777216 then some (.list (xs ++ [y]), .none) else none
  | _, _ => none
def extF : FM
  | .list xs, [.list ys] => if xs.length + ys.length ≤ 16777216 then some (.list (xs ++ ys), .none) else none
  | _, _ => none
def popF : FM
  | .list xs, [] => match xs[xs.length - 1]? with
    | some y => some (.list xs.dropLast, y)
    | none => none
  | _, _ => none
def remF : FM
  | .list xs, [y] => if inOk xs y = true then match PySem.SeqAt.dataPlace xs y with
    | some j => some (.list (xs.eraseIdx j), .none)
    | none => none else none
  | _, _ => none
theorem lst_upd {F : Addr → Prop} {H : Hp} {a : Addr} {xs ys : List D} {vs us : List V} (h1 : ¬ F a) (e : H a = some (.lst vs)) (r : RelDs F H ys us) : RelC F (upd H a (.lst us)) (.list ys) a :=
  ⟨us, upd_same, RelDs.stp (Stp.wr h1 e (fun _ z => nomatch z)) _ _ r⟩
theorem mr_app {C : Ct} : MrOk C rAppend appF := fun w m H a x ys vs x' z h rc hF rd e => by
  unfold appF at e
  split at e
  · rename_i xs y
    split at e
    · rename_i hl
      cases e
      obtain ⟨ws, e1, r1⟩ := rc
      obtain ⟨v, vr, ev, r2, r3⟩ := rd
      have r3 : vr = [] := r3
      subst r3 ev
      exact ⟨_, _, .non, e1, (fun _ z => nomatch z), (fun _ _ z => nomatch z), (fun _ z => nomatch z), lst_upd (xs := xs) hF e1 (RelDs.app (es := [y]) (ws := [v]) r1 ⟨v, [], rfl, r2, rfl⟩), rfl, fun Q q => ⟨a, ws, v, rfl, rfl, e1, by rw [← r1.len]; exact hl, q⟩⟩
    · cases e
  · cases e
theorem mr_ext {C : Ct} : MrOk C rExtend extF := fun w m H a x ys vs x' z h rc hF rd e => by
  unfold extF at e
  split at e
  · rename_i xs y
    split at e
    · rename_i hl
      cases e
      obtain ⟨ws, e1, r1⟩ := rc
      obtain ⟨v, vr, ev, ⟨b, us, eb, hFb, e2, r2⟩, r3⟩ := rd
      have r3 : vr = [] := r3
      subst r3 ev eb
      exact ⟨_, _, .non, e1, (fun _ z => nomatch z), (fun _ _ z => nomatch z), (fun _ z => nomatch z), lst_upd (xs := xs) hF e1 (r1.app r2), rfl, fun Q q => ⟨a, b, ws, us, rfl, rfl, e1, e2, by rw [← r1.len, ← r2.len]; exact hl, q⟩⟩
    · cases e
  · cases e
theorem RelDs.dropLast {F : Addr → Prop} {H : Hp} {ds : List D} {vs : List V} (h : RelDs F H ds vs) : RelDs F H ds.dropLast vs.dropLast := by
  rw [List.dropLast_eq_take, List.dropLast_eq_take, h.len]
  exact h.take _
theorem mr_pop {C : Ct} : MrOk C rPop popF := fun w m H a x ys vs x' z h rc hF rd e => by
  unfold popF at e
  split at e
  · rename_i xs
    split at e
    · rename_i y hy
      cases e
      obtain ⟨ws, e1, r1⟩ := rc
      have rd : vs = [] := rd
      subst rd
      obtain ⟨v, hv, rv⟩ := r1.get hy
      have st : Stp w.F H w.F (upd H a (.lst ws.dropLast)) := Stp.wr hF e1 (fun _ z => nomatch z)
      exact ⟨_, _, v, e1, (fun _ z => nomatch z), (fun _ _ z => nomatch z), (fun _ z => nomatch z), lst_upd (xs := xs) hF e1 r1.dropLast, RelD.stp st _ _ rv, fun Q q => ⟨a, ws, v, rfl, rfl, e1, by rw [← r1.len]; exact hv, q⟩⟩
    · cases e
  · cases e
def rRemD : V → List V → Hp → VK → Prop := fun x vs H Q => ∃ F a xs ws y v j, x = .ref a ∧ vs = [v] ∧ H a = some (.lst ws) ∧ RelDs F H xs ws ∧ RelD F H y v ∧ inOk xs y = true ∧ PySem.SeqAt.dataPlace xs y = some j ∧ Q .non (upd H a (.lst (ws.eraseIdx j)))
theorem mt_remD (G : Good X) : MtR X "list.remove" rRemD := by
  intro pins s σ H x vs v us Q I rx rvs ⟨F, a, xs, ws, y, yv, j, ex, ev, ea, r1, r2, ok, dp, q⟩
  subst ex ev
  obtain rfl : v = Value.ref a := rx
  cases rvs with
  | cons ry rr =>
    cases rr
    rename_i uy
    obtain ⟨h1, h2, h3⟩ := inOk_d ok
    obtain ⟨hz, its, n, rv, hl, hg⟩ := I.lstM ea
    obtain ⟨as, ra⟩ := RelDs.reads I xs ws its h1 r1 rv
    obtain ⟨bs, rb⟩ := RelD.reads I y yv uy h2 r2 ry
    have hu := G.hu
    refine PySem.SeqAt.remove_list_data (j := j) (vs := its.toArray) ⟨_, hg, rfl, n, rfl⟩ (by simpa using ra) rb h1 h2 (by omega) dp (by simpa using (by omega : its.length ≤ sizeLine)) ⟨.non, _, I.lset (its' := its.eraseIdx j) (ys := ws.eraseIdx j) (t' := s.toks) ea hg ?_ (Vals.eraseIdx j rv) (Nat.le_trans (len_erase _ _) hz), rfl, q⟩
    simp [List.eraseIdx_toArray] <;> rfl
theorem mr_rem {C : Ct} : MrOk C rRemD remF := fun w m H a x ys vs x' z h rc hF rd e => by
  unfold remF at e
  split at e
  · rename_i xs y
    split at e
    · rename_i hk
      split at e
      · rename_i j hj
        cases e
        obtain ⟨ws, e1, r1⟩ := rc
        obtain ⟨v, vr, ev, r2, r3⟩ := rd
        have r3 : vr = [] := r3
        subst r3 ev
        exact ⟨_, _, .non, e1, (fun _ z => nomatch z), (fun _ _ z => nomatch z), (fun _ z => nomatch z), lst_upd (xs := xs) hF e1 (r1.erase j), rfl, fun Q q => ⟨w.F, a, xs, ws, y, v, j, rfl, rfl, e1, r1, r2, hk, hj, q⟩⟩
      · cases e
    · cases e
  · cases e
end
end M

namespace M
open PySem PySem.Spec PyProof.Rows L2
variable [Tb]
section
variable {X : Cx} {e a b o tg iter elt : Expr} {c ca cb : CE} {pos apos cpos : Pos} {st : Stmt} {rest : List Stmt} {cs ct : CS} {ci : CI} {g : CG} {t : CB} {scope : Scope} {own : List (Str × Nat)}
def sAsgA (i : Nat) (c : CE) : CS := fun ρ m => (c ρ m).bind fun p => (parU p.1).map fun u => (.nx, ρ.set i (some u), p.2)
theorem imp_asgA {C : Ct} {i : Nat} : ∀ D σ H, TSc C (sAsgA i c) D σ H → tAsg (TEc C c) (gName i) D σ H := fun D σ H ⟨w0, H0, w, ρ, m, fl, ρ', m', n, o, A, ec, p⟩ => by
  unfold sAsgA at ec
  cases q : c ρ m with
  | none => rw [q] at ec; cases ec
  | some r =>
    obtain ⟨u1, m1⟩ := r
    rw [q, Option.bind_some, Option.map_eq_some_iff] at ec
    obtain ⟨u2, e1, e2⟩ := ec
    cases u1 with
    | d x =>
      cases e1
      cases e2
      refine imp_asg D σ H ⟨w0, H0, w, ρ, m, _, _, _, n, o, A, ?_, p⟩
      unfold sAsg
      rw [q]
      rfl
    | ref x =>
      cases e1
      cases e2
      refine imp_asg D σ H ⟨w0, H0, w, ρ, m, _, _, _, n, o, A, ?_, p⟩
      unfold sAsg
      rw [q]
      rfl
    | tmp x =>
      cases e1
      cases e2
      refine imp_asgO D σ H ⟨w0, H0, w, ρ, m, _, _, _, n, o, A, ?_, p⟩
      unfold sAsgO
      rw [q]
      rfl
    | _ => cases e1
theorem ss_asgA (i : Nat) {x : Str} {pos' : Pos} (G : Good X) (he : SE X e c) (hi : X.N[i]? = some x := by rfl) (hx : Loc X.env.scope x := by first | exact Or.inl rfl | exact Or.inr rfl) (hs : swapsWith e (some (.Name x pos')) pos.line X.env = pure false := by rfl) (hf : X.fn x = true ∨ X.env.scope.names.lookup x = some .local := by first | exact .inl rfl | exact .inr rfl | assumption) :
    SS X (.Assign [.Name x pos'] e pos) (sAsgA i c) := (ps_set G.nd hi hx he hs hf).imp imp_asgA
theorem ss_lcA (i : Nat) {y : Str} {py spos : Pos} {ifs : List Expr} (G : Good X) (hi : SJ X tg iter ci) (ok : BlkOk X.N X.env.scope scope own)
    (hg : ∀ (s : Shared) (H : Hp) (C : Addr) (cl : List (Str × Addr)) (fp : List Addr), Good (X.blk s H scope (compEnvC scope cl C X.env) fp) → SG (X.blk s H scope (compEnvC scope cl C X.env) fp) tg g) (hgs : GSl g (own.map (·.2))) (ht : ∀ (s : Shared) (H : Hp) (C : Addr) (cl : List (Str × Addr)) (fp : List Addr), Good (X.blk s H scope (compEnvC scope cl C X.env) fp) → SBs (X.blk s H scope (compEnvC scope cl C X.env) fp) ifs t)
    (he : ∀ (s : Shared) (H : Hp) (C : Addr) (cl : List (Str × Addr)) (fp : List Addr), Good (X.blk s H scope (compEnvC scope cl C X.env) fp) → SE (X.blk s H scope (compEnvC scope cl C X.env) fp) elt c) (hy : X.N[i]? = some y := by rfl) (hyl : X.env.scope.names.lookup y = some .local := by rfl)
    (hsw : swapsWith (.ListComp elt [⟨tg, iter, ifs, 0⟩] scope pos) (some (.Name y py)) spos.line X.env = pure true := by rfl) (hs : ∀ x, foldedSetIterable iter X.env x = pure x := by intro _; rfl) :
    SS X (.Assign [.Name y py] (.ListComp elt [⟨tg, iter, ifs, 0⟩] scope pos) spos) (sAsgA i (cLc ci g t c (own.map (·.2)))) := (ps_setLc (tt := TBc X.ct t) (te := TEc X.ct c) G.calm G.nd hy hyl hsw hi ok (fun s H C cl fp => hg s H C cl fp G.blk) (fun s H C cl fp => ht s H C cl fp G.blk) (fun s H C cl fp => he s H C cl fp G.blk) hs).imp fun D σ H q => imp_lc hgs _ _ _ (imp_asgA (C := X.ct) D σ H q)
theorem ss_lcN (i : Nat) {y : Str} {py spos : Pos} {ifs : List Expr} (G : Good X) (hi : SJ X tg iter ci) (ok : BlkOk X.N X.env.scope scope own)
    (hg : ∀ (s : Shared) (H : Hp) (C : Addr) (cl : List (Str × Addr)) (fp : List Addr), Good (X.blk s H scope (compEnvC scope cl C X.env) fp) → SG (X.blk s H scope (compEnvC scope cl C X.env) fp) tg g) (hgs : GSl g (own.map (·.2))) (ht : ∀ (s : Shared) (H : Hp) (C : Addr) (cl : List (Str × Addr)) (fp : List Addr), Good (X.blk s H scope (compEnvC scope cl C X.env) fp) → SBs (X.blk s H scope (compEnvC scope cl C X.env) fp) ifs t)
    (he : ∀ (s : Shared) (H : Hp) (C : Addr) (cl : List (Str × Addr)) (fp : List Addr), Good (X.blk s H scope (compEnvC scope cl C X.env) fp) → SE (X.blk s H scope (compEnvC scope cl C X.env) fp) elt c) (hy : X.N[i]? = some y := by rfl) (hyl : X.env.scope.names.lookup y = some .local := by rfl)
    (hsw : swapsWith (.ListComp elt [⟨tg, iter, ifs, 0⟩] scope pos) (some (.Name y py)) spos.line X.env = pure true := by rfl) (hs : ∀ x, foldedSetIterable iter X.env x = pure x := by intro _; rfl) :
    SS X (.Assign [.Name y py] (.ListComp elt [⟨tg, iter, ifs, 0⟩] scope pos) spos) (sAsg i (cNew (cLc ci g t c (own.map (·.2))))) := (ps_setLc (tt := TBc X.ct t) (te := TEc X.ct c) G.calm G.nd hy hyl hsw hi ok (fun s H C cl fp => hg s H C cl fp G.blk) (fun s H C cl fp => ht s H C cl fp G.blk) (fun s H C cl fp => he s H C cl fp G.blk) hs).imp fun D σ H q => imp_lc hgs _ _ _ (imp_new _ _ _ (imp_asg (C := X.ct) D σ H q))
def cHand (i : Nat) : CE := fun ρ m => match ρ[i]? with
  | some (some (.own x)) => some (.d x, m)
  | some (some (.d x)) => some (.d x, m)
  | some (some (.ref x)) => some (.ref x, m)
  | _ => none
theorem sr_hand (i : Nat) {x : Str} (hN : X.N[i]? = some x := by rfl) (hv : Vis X.env.scope x := by first | exact Or.inl rfl | exact Or.inr (Or.inl rfl) | exact Or.inr (Or.inr rfl)) (hd : (x == ("__debug__" : Str)) = false := by decide)
    (hcd : (x == ("__classdict__" : Str)) = false := by decide) : SR X (.Name x pos) (cHand i) := (pv i hN hv hd hcd).imp fun σ H Q ⟨w0, H0, w, ρ, m, u, m', n, o, A, ec, p⟩ => by
  unfold cHand at ec
  split at ec
  · rename_i y hy
    cases ec
    obtain ⟨v, e, r⟩ := A.s.at_ i _ hy
    refine ⟨v, e, ?_⟩
    obtain ⟨a, ev, g1, g2, g3⟩ := r
    obtain ⟨w', _, n', _, h', r', _⟩ := freeze_rt n A.h ev g1 g2 g3 (o i y a hy (ev ▸ e))
    exact p w' H v n' h' r'
  · rename_i y hy
    cases ec
    obtain ⟨v, e, r⟩ := A.s.at_ i _ hy
    exact ⟨v, e, p w H v n A.h r⟩
  · rename_i y hy
    cases ec
    obtain ⟨v, e, r⟩ := A.s.at_ i _ hy
    exact ⟨v, e, p w H v n A.h r⟩
  · cases ec
end
end M

namespace M
open PySem PySem.Spec PyProof.Rows L2
variable [Tb]
section
variable {X : Cx} {e a b o tg iter elt : Expr} {c ca cb : CE} {pos apos cpos : Pos} {t : CA} {T id : String} {r : V → List V → Hp → VK → Prop} {f : D → List D → Option U} {kT : D → Bool}
def OM (C : Ct) (r : V → List V → Hp → VK → Prop) (f : D → List D → Option U) : Prop := ∀ w m H x v ys vs z Q, RelH C w m H → RelR w.F H x v → RelDs w.F H ys vs → f x ys = some z → PostE C w H z m Q → r v vs H Q
def KTv (K : PySem.W.Frag) (T : String) (kT : D → Bool) : Prop := ∀ F H x v, RelR F H x v → kT x = true → tyV K T v H
def isStr : D → Bool
  | .str _ => true
  | _ => false
theorem ktv_str {K : PySem.W.Frag} : KTv K "str" isStr := fun F H x v r h => by
  cases x with
  | str x =>
    have r : v = .str x := r
    subst r
    rfl
  | _ => cases h
theorem ktv_list {K : PySem.W.Frag} : KTv K "list" isL := fun F H x v r h => by
  cases x with
  | list xs =>
    obtain ⟨a, vs, ev, e, _⟩ := r
    subst ev
    exact .inl ⟨rfl, vs, SqL.of e⟩
  | _ => cases h
def cMeth (c : CE) (kT : D → Bool) (f : D → List D → Option U) (t : CA) : CE := fun ρ m => (c ρ m).bind fun p => (valU p.2 p.1).bind fun x => if kT x = true then (caD t ρ p.2).bind fun q => (valU q.2 p.1).bind fun x => (f x q.1).map fun z => (z, q.2) else none
theorem imp_meth {C : Ct} (hT : KTv C.K T kT) (hf : OM C r f) : ∀ σ H Q, TEc C (cMeth c kT f t) σ H Q → tBM C.K T r (TEc C c) (TAc C t) σ H Q := fun σ H Q ⟨w, ρ, m, u, m', A, ec, p⟩ => by
  unfold cMeth at ec
  cases q0 : c ρ m with
  | none => rw [q0] at ec; cases ec
  | some r0 =>
    obtain ⟨u1, m1⟩ := r0
    rw [q0, Option.bind_some] at ec
    simp only at ec
    cases q1 : valU m1 u1 with
    | none => rw [q1] at ec; cases ec
    | some x =>
      rw [q1, Option.bind_some] at ec
      split at ec
      · rename_i hk
        cases q2 : caD t ρ m1 with
        | none => rw [q2] at ec; cases ec
        | some r2 =>
          obtain ⟨ys, m2⟩ := r2
          rw [q2, Option.bind_some] at ec
          simp only at ec
          cases q3 : valU m2 u1 with
          | none => rw [q3] at ec; cases ec
          | some x2 =>
            rw [q3, Option.bind_some, Option.map_eq_some_iff] at ec
            obtain ⟨z, e1, e2⟩ := ec
            cases e2
            obtain ⟨us, q4, q5⟩ := caD_ok q2
            refine ⟨w, ρ, m, _, m1, A, q0, fun w1 H1 v1 n1 h1 r1 _ => ?_⟩
            refine ⟨hT _ _ _ _ (valU_rel h1 r1 q1) hk, w1, ρ, m1, us, _, A.nxt n1 h1, q4, fun w2 H2 vs n2 h2 r2 _ => ?_⟩
            exact hf w2 _ H2 x2 v1 ys vs _ Q h2 (valU_rel h2 (RelU.nxt n2 h1 r1) q3) (allD_rel q5 r2) e1 (p.later (n1.trans n2))
      · cases ec
theorem se_meth {es : List Expr} {name : Str} (pa : PlainAttrs T) (slot : Slot T name id) (hty : typeOf (.builtin id) = pure (.type "method_descriptor")) (hm : MtR X id r) (hT : KTv X.K T kT) (hf : OM X.ct r f) (ho : SE X o c) (ha : SA X (e :: es) t)
    (hbase : attributeBase o name X.env (eval o X.env) = eval o X.env := by rfl)
    (hfew : ((backTo cpos (starEach (e :: es) X.env)).all (fun x => !x.1) && (backToKw cpos (keywordEach [] X.env)).all (fun x => x.1.isSome)
      && decide ((e :: es).length + ([] : List Keyword).length + (if ([] : List Keyword).isEmpty then 0 else 1) < 30)) = true := by rfl)
    (hline : (apos.endLine == cpos.line) = true := by rfl) (hs : starEach (e :: es) X.env = (false, eval e X.env) :: starEach es X.env := by rfl) (hplain : (backTo cpos (starEach es X.env)).any (·.1) = false := by rfl) :
    SE X (.Call (.Attribute o name apos) (e :: es) [] cpos) (cMeth c kT f t) := (pe_bm pa slot hty hm ho ha hbase hfew hline hs hplain).imp (imp_meth hT hf)
def sindexF : D → List D → Option U
  | .str a, [.str b] => match Builtin.Str.occurrences a b 0 a.length 1 with
    | i :: _ => some (.d (.int (i : Nat)))
    | [] => none
  | _, _ => none
theorem om_sindex {C : Ct} : OM C (fun x xs H Q => ∃ a b i rest, x = .str a ∧ xs = [.str b] ∧ Builtin.Str.occurrences a b 0 a.length 1 = i :: rest ∧ Q (.int (i : Nat)) H) sindexF := fun w m H x v ys vs z Q h rx rd e p => by
  unfold sindexF at e
  split at e
  · rename_i a b
    split at e
    · rename_i i rest ho
      cases e
      obtain ⟨v1, vr, ev, r2, r3⟩ := rd
      have r3 : vr = [] := r3
      have r2 : v1 = .str b := r2
      subst r3 ev r2
      exact ⟨a, b, i, rest, rx, rfl, ho, p.now h rfl⟩
    · cases e
  · cases e
theorem se_sindex (ho : SE X o c) (ha : SE X a ca) (hbase : attributeBase o "index" X.env (eval o X.env) = eval o X.env := by rfl)
    (hfew : ((backTo cpos (starEach (a :: []) X.env)).all (fun x => !x.1) && (backToKw cpos (keywordEach [] X.env)).all (fun x => x.1.isSome)
      && decide ((a :: []).length + ([] : List Keyword).length + (if ([] : List Keyword).isEmpty then 0 else 1) < 30)) = true := by rfl)
    (hline : (apos.endLine == cpos.line) = true := by rfl) (hs : starEach (a :: []) X.env = (false, eval a X.env) :: starEach [] X.env := by rfl) (hplain : (backTo cpos (starEach [] X.env)).any (·.1) = false := by rfl) :
    SE X (.Call (.Attribute o "index" apos) [a] [] cpos) (cMeth c isStr sindexF (caCons ca caNil)) :=
  se_meth PySem.F.plainAttrs_str PySem.F.slot_str_index PySem.F.type_str_index mt_sindex ktv_str om_sindex ho (sa_cons ha sa_nil hs) hbase hfew hline hs hplain
end
section
variable {X : Cx} {o a : Expr} {c ca : CE} {apos cpos : Pos}
theorem ss_app (i : Nat) {x : Str} {px epos : Pos} (ha : SE X a ca) (hN : X.N[i]? = some x := by rfl) (hv : Vis X.env.scope x := by first | exact Or.inl rfl | exact Or.inr (Or.inl rfl) | exact Or.inr (Or.inr rfl)) (hd : (x == ("__debug__" : Str)) = false := by decide) (hcd : (x == ("__classdict__" : Str)) = false := by decide)
    (hbase : attributeBase (.Name x px) "append" X.env (eval (.Name x px) X.env) = eval (.Name x px) X.env := by rfl)
    (hfew : ((backTo cpos (starEach (a :: []) X.env)).all (fun x => !x.1) && (backToKw cpos (keywordEach [] X.env)).all (fun x => x.1.isSome)
      && decide ((a :: []).length + ([] : List Keyword).length + (if ([] : List Keyword).isEmpty then 0 else 1) < 30)) = true := by rfl)
    (hline : (apos.endLine == cpos.line) = true := by rfl) (hs : starEach (a :: []) X.env = (false, eval a X.env) :: starEach [] X.env := by rfl) (hplain : (backTo cpos (starEach [] X.env)).any (·.1) = false := by rfl)
    (hsw : swapsWith (.Call (.Attribute (.Name x px) "append" apos) (a :: []) [] cpos) none epos.line X.env = pure false := by rfl) :
    SS X (.Expr (.Call (.Attribute (.Name x px) "append" apos) [a] [] cpos) epos) (sOwn i isL appF (caCons (cFz ca) caNil)) :=
  ss_own i PySem.F.plainAttrs_list PySem.F.slot_list_append PySem.F.type_list_append mt_append kty_list mr_app (sa_cons (se_fz ha) sa_nil hs) hN hv hd hcd hbase hfew hline hs hplain hsw
theorem ss_ext (i : Nat) {x : Str} {px epos : Pos} (ha : SE X a ca) (hN : X.N[i]? = some x := by rfl) (hv : Vis X.env.scope x := by first | exact Or.inl rfl | exact Or.inr (Or.inl rfl) | exact Or.inr (Or.inr rfl)) (hd : (x == ("__debug__" : Str)) = false := by decide) (hcd : (x == ("__classdict__" : Str)) = false := by decide)
    (hbase : attributeBase (.Name x px) "extend" X.env (eval (.Name x px) X.env) = eval (.Name x px) X.env := by rfl)
    (hfew : ((backTo cpos (starEach (a :: []) X.env)).all (fun x => !x.1) && (backToKw cpos (keywordEach [] X.env)).all (fun x => x.1.isSome)
      && decide ((a :: []).length + ([] : List Keyword).length + (if ([] : List Keyword).isEmpty then 0 else 1) < 30)) = true := by rfl)
    (hline : (apos.endLine == cpos.line) = true := by rfl) (hs : starEach (a :: []) X.env = (false, eval a X.env) :: starEach [] X.env := by rfl) (hplain : (backTo cpos (starEach [] X.env)).any (·.1) = false := by rfl)
    (hsw : swapsWith (.Call (.Attribute (.Name x px) "extend" apos) (a :: []) [] cpos) none epos.line X.env = pure false := by rfl) :
    SS X (.Expr (.Call (.Attribute (.Name x px) "extend" apos) [a] [] cpos) epos) (sOwn i isL extF (caCons (cFz ca) caNil)) :=
  ss_own i PySem.F.plainAttrs_list PySem.F.slot_list_extend PySem.F.type_list_extend mt_extend kty_list mr_ext (sa_cons (se_fz ha) sa_nil hs) hN hv hd hcd hbase hfew hline hs hplain hsw
theorem ss_rem (i : Nat) {x : Str} {px epos : Pos} (G : Good X) (ha : SE X a ca) (hN : X.N[i]? = some x := by rfl) (hv : Vis X.env.scope x := by first | exact Or.inl rfl | exact Or.inr (Or.inl rfl) | exact Or.inr (Or.inr rfl)) (hd : (x == ("__debug__" : Str)) = false := by decide) (hcd : (x == ("__classdict__" : Str)) = false := by decide)
    (hbase : attributeBase (.Name x px) "remove" X.env (eval (.Name x px) X.env) = eval (.Name x px) X.env := by rfl)
    (hfew : ((backTo cpos (starEach (a :: []) X.env)).all (fun x => !x.1) && (backToKw cpos (keywordEach [] X.env)).all (fun x => x.1.isSome)
      && decide ((a :: []).length + ([] : List Keyword).length + (if ([] : List Keyword).isEmpty then 0 else 1) < 30)) = true := by rfl)
    (hline : (apos.endLine == cpos.line) = true := by rfl) (hs : starEach (a :: []) X.env = (false, eval a X.env) :: starEach [] X.env := by rfl) (hplain : (backTo cpos (starEach [] X.env)).any (·.1) = false := by rfl)
    (hsw : swapsWith (.Call (.Attribute (.Name x px) "remove" apos) (a :: []) [] cpos) none epos.line X.env = pure false := by rfl) :
    SS X (.Expr (.Call (.Attribute (.Name x px) "remove" apos) [a] [] cpos) epos) (sOwn i isL remF (caCons (cFz ca) caNil)) :=
  ss_own i PySem.F.plainAttrs_list PySem.F.slot_list_remove PySem.F.type_list_remove (mt_remD G) kty_list mr_rem (sa_cons (se_fz ha) sa_nil hs) hN hv hd hcd hbase hfew hline hs hplain hsw
theorem se_popC (ho : SE X o c) (hbase : attributeBase o "pop" X.env (eval o X.env) = eval o X.env := by rfl) (hline : (apos.endLine == cpos.line) = true := by rfl) :
    SE X (.Call (.Attribute o "pop" apos) [] [] cpos) (cCellM c isL popF caNil) :=
  se_cellM0 PySem.F.plainAttrs_list PySem.F.slot_list_pop PySem.F.type_list_pop mt_pop kty_list mr_pop ho hbase hline
theorem se_appC (ho : SE X o c) (ha : SE X a ca) (hbase : attributeBase o "append" X.env (eval o X.env) = eval o X.env := by rfl)
    (hfew : ((backTo cpos (starEach (a :: []) X.env)).all (fun x => !x.1) && (backToKw cpos (keywordEach [] X.env)).all (fun x => x.1.isSome)
      && decide ((a :: []).length + ([] : List Keyword).length + (if ([] : List Keyword).isEmpty then 0 else 1) < 30)) = true := by rfl)
    (hline : (apos.endLine == cpos.line) = true := by rfl) (hs : starEach (a :: []) X.env = (false, eval a X.env) :: starEach [] X.env := by rfl) (hplain : (backTo cpos (starEach [] X.env)).any (·.1) = false := by rfl) :
    SE X (.Call (.Attribute o "append" apos) [a] [] cpos) (cCellM c isL appF (caCons (cFz ca) caNil)) :=
  se_cellM PySem.F.plainAttrs_list PySem.F.slot_list_append PySem.F.type_list_append mt_append kty_list mr_app ho (sa_cons (se_fz ha) sa_nil hs) hbase hfew hline hs hplain
theorem se_extC (ho : SE X o c) (ha : SE X a ca) (hbase : attributeBase o "extend" X.env (eval o X.env) = eval o X.env := by rfl)
    (hfew : ((backTo cpos (starEach (a :: []) X.env)).all (fun x => !x.1) && (backToKw cpos (keywordEach [] X.env)).all (fun x => x.1.isSome)
      && decide ((a :: []).length + ([] : List Keyword).length + (if ([] : List Keyword).isEmpty then 0 else 1) < 30)) = true := by rfl)
    (hline : (apos.endLine == cpos.line) = true := by rfl) (hs : starEach (a :: []) X.env = (false, eval a X.env) :: starEach [] X.env := by rfl) (hplain : (backTo cpos (starEach [] X.env)).any (·.1) = false := by rfl) :
    SE X (.Call (.Attribute o "extend" apos) [a] [] cpos) (cCellM c isL extF (caCons (cFz ca) caNil)) :=
  se_cellM PySem.F.plainAttrs_list PySem.F.slot_list_extend PySem.F.type_list_extend mt_extend kty_list mr_ext ho (sa_cons (se_fz ha) sa_nil hs) hbase hfew hline hs hplain
abbrev FS := D → D → D → Option D
def stoF : FS
  | .list xs, .int k, v => match ixN xs.length k with
    | some j => some (.list (xs.set j v))
    | none => none
  | _, _, _ => none
def StOk (C : Ct) (r : TSet) (f : FS) : Prop := ∀ w m H a x k kv y v x', RelH C w m H → RelC w.F H x a → ¬ w.F a → RelD w.F H k kv → RelD w.F H y v → f x k y = some x' →
  ∃ o u, H a = some o ∧ (∀ vs, o ≠ .tup vs) ∧ (∀ ob z, o ≠ .frz ob z) ∧ (∀ ps, o ≠ .tbl ps) ∧ RelC w.F (upd H a u) x' a ∧ ∀ Q : Hp → Prop, Q (upd H a u) → r (.ref a) kv v H Q
theorem st_list {C : Ct} : StOk C rSetL stoF := fun w m H a x k kv y v x' h rc hF rk ry e => by
  unfold stoF at e
  split at e
  · rename_i xs i
    split at e
    · rename_i j hj
      cases e
      obtain ⟨ws, e1, r1⟩ := rc
      exact ⟨_, _, e1, (fun _ z => nomatch z), (fun _ _ z => nomatch z), (fun _ z => nomatch z), lst_upd (xs := xs) hF e1 (RelDs.set ry j r1), fun Q q => ⟨a, ws, i, j, rfl, rk, e1, by rw [← r1.len]; exact hj, q⟩⟩
    · cases e
  · cases e
def dU : U → Option D
  | .d x => some x
  | _ => none
theorem dU_ok {u : U} {x : D} (h : dU u = some x) : u = .d x := by
  cases u with
  | d y => cases h; rfl
  | _ => cases h
def sSt (i : Nat) (f : FS) (ck cv : CE) : CS := fun ρ m => (cv ρ m).bind fun p => (dU p.1).bind fun y => (ck ρ p.2).bind fun q => (dU q.1).bind fun k => match ρ[i]? with
  | some (some (.own x)) => (f x k y).map fun x' => (.nx, ρ.set i (some (.own x')), q.2)
  | _ => none
theorem imp_st {C : Ct} {i : Nat} {r : TSet} {f : FS} {ck cv : CE} (hf : StOk C r f) : ∀ D σ H, TSc C (sSt i f ck cv) D σ H → tAsg (TEc C cv) (gSub (tVar i) (TEc C ck) r) D σ H := fun D σ H ⟨w0, H0, w, ρ, m, fl, ρ', m', n, ow, A, ec, p⟩ => by
  unfold sSt at ec
  cases q0 : cv ρ m with
  | none => rw [q0] at ec; cases ec
  | some r0 =>
    obtain ⟨u1, m1⟩ := r0
    rw [q0, Option.bind_some] at ec
    simp only at ec
    cases q1 : dU u1 with
    | none => rw [q1] at ec; cases ec
    | some y =>
      rw [q1, Option.bind_some] at ec
      cases q2 : ck ρ m1 with
      | none => rw [q2] at ec; cases ec
      | some r2 =>
        obtain ⟨u2, m2⟩ := r2
        rw [q2, Option.bind_some] at ec
        simp only at ec
        cases q3 : dU u2 with
        | none => rw [q3] at ec; cases ec
        | some k =>
          rw [q3, Option.bind_some] at ec
          split at ec
          · rename_i x hx
            rw [Option.map_eq_some_iff] at ec
            obtain ⟨x', e1, e2⟩ := ec
            cases e2
            rw [dU_ok q1] at q0
            rw [dU_ok q3] at q2
            refine ⟨w, ρ, m, _, m1, A, q0, fun w1 H1 v1 n1 h1 r1 _ => ?_⟩
            have A1 := A.nxt n1 h1
            obtain ⟨a, hs, _⟩ := A1.s.ownAt hx
            refine ⟨.ref a, hs, w1, ρ, m1, _, _, A1, q2, fun w2 H2 v2 n2 h2 r2 _ => ?_⟩
            have A2 := A1.nxt n2 h2
            obtain ⟨a', hs', k1, k2, k3, _⟩ := A2.s.ownAt hx
            rw [hs] at hs'
            cases hs'
            have ry : RelD w2.F H2 y v1 := RelU.nxt (u := .d y) n2 h1 r1
            obtain ⟨oo, u, h3, h4, h5, ht, h6, h8⟩ := hf w2 _ H2 a x k v2 y v1 x' h2 k3 k1 r2 ry e1
            have n12 := n1.trans n2
            obtain ⟨b1, b2, b3, b4⟩ := own_put (n.trans n12) ow A2 hx hs k1 k2 h3 h4 h5 ht h6
            exact h8 _ (p w2 σ _ b1 b2 ((n12.stp A.h).trans b3) b4)
          · cases ec
theorem ss_st (i : Nat) {x : Str} {px spos : Pos} {k e : Expr} {r : TSet} {f : FS} {ck cv : CE} (hp : PSet X r) (hf : StOk X.ct r f) (hk : SE X k ck) (he : SE X e cv) (hN : X.N[i]? = some x := by rfl) (hv : Vis X.env.scope x := by first | exact Or.inl rfl | exact Or.inr (Or.inl rfl) | exact Or.inr (Or.inr rfl)) (hd : (x == ("__debug__" : Str)) = false := by decide) (hcd : (x == ("__classdict__" : Str)) = false := by decide)
    (ha : ∀ v, assign (.Subscript (.Name x px) k apos) X.env v = (do
      let ov ← holding [v] (eval (.Name x px) X.env)
      let iv ← holding [v, ov] (eval k X.env)
      standAt apos
      holding [v, ov, iv] (setItem ov iv v)
      release [v, ov, iv] []) := by intro _; rfl)
    (hs : swapsWithSole [.Subscript (.Name x px) k apos] e spos.line X.env = pure false := by rfl) (hw : swappedStores [.Subscript (.Name x px) k apos] e X.env = pure none := by rfl)
    (h1 : (assignEach [.Subscript (.Name x px) k apos] X.env).map (·.2) = [assign (.Subscript (.Name x px) k apos) X.env] := by rfl) :
    SS X (.Assign [.Subscript (.Name x px) k apos] e spos) (sSt i f ck (cFz cv)) := (ps_asg (se_fz he) (pg_sub (pv i hN hv hd hcd) hk hp ha) hs hw h1).imp (imp_st hf)
def sStC (f : FS) (co ck cv : CE) : CS := fun ρ m => (cv ρ m).bind fun p => (dU p.1).bind fun y => (co ρ p.2).bind fun o => (ck ρ o.2).bind fun q => (dU q.1).bind fun k => (cellU q.2 o.1).bind fun kx => (f kx.2 k y).map fun x' => (.nx, ρ, q.2.set kx.1 (.v x'))
theorem imp_stC {C : Ct} {r : TSet} {f : FS} {co ck cv : CE} (hf : StOk C r f) : ∀ D σ H, TSc C (sStC f co ck cv) D σ H → tAsg (TEc C cv) (gSub (TEc C co) (TEc C ck) r) D σ H := fun D σ H ⟨w0, H0, w, ρ, m, fl, ρ', m', n, ow, A, ec, p⟩ => by
  unfold sStC at ec
  cases q0 : cv ρ m with
  | none => rw [q0] at ec; cases ec
  | some r0 =>
    obtain ⟨u1, m1⟩ := r0
    rw [q0, Option.bind_some] at ec
    simp only at ec
    cases q1 : dU u1 with
    | none => rw [q1] at ec; cases ec
    | some y =>
      rw [q1, Option.bind_some] at ec
      cases qo : co ρ m1 with
      | none => rw [qo] at ec; cases ec
      | some ro =>
        obtain ⟨uo, mo⟩ := ro
        rw [qo, Option.bind_some] at ec
        simp only at ec
        cases q2 : ck ρ mo with
        | none => rw [q2] at ec; cases ec
        | some r2 =>
          obtain ⟨u2, m2⟩ := r2
          rw [q2, Option.bind_some] at ec
          simp only at ec
          cases q3 : dU u2 with
          | none => rw [q3] at ec; cases ec
          | some k =>
            rw [q3, Option.bind_some] at ec
            cases q4 : cellU m2 uo with
            | none => rw [q4] at ec; cases ec
            | some kx =>
              obtain ⟨j, x⟩ := kx
              rw [q4, Option.bind_some, Option.map_eq_some_iff] at ec
              obtain ⟨x', e1, e2⟩ := ec
              cases e2
              rw [dU_ok q1] at q0
              rw [dU_ok q3] at q2
              obtain ⟨e5, e6⟩ := cellU_ok q4
              subst e5
              refine ⟨w, ρ, m, _, m1, A, q0, fun w1 H1 v1 n1 h1 r1 _ => ?_⟩
              have A1 := A.nxt n1 h1
              refine ⟨w1, ρ, m1, _, mo, A1, qo, fun w3 H3 v3 n3 h3 r3 _ => ?_⟩
              have A3 := A1.nxt n3 h3
              refine ⟨w3, ρ, mo, _, m2, A3, q2, fun w2 H2 v2 n2 h2 r2 _ => ?_⟩
              obtain ⟨a, ea, ev⟩ := r3
              subst ev
              have ea2 : w2.f[j]? = some a := by
                obtain ⟨g, eg, _⟩ := n2.f1
                rw [eg, List.getElem?_append_left (List.getElem?_eq_some_iff.mp ea).1]
                exact ea
              have ma : a ∈ w2.f := List.mem_of_getElem? ea2
              have ry : RelD w2.F H2 y v1 := RelU.nxt (u := .d y) (n3.trans n2) h1 r1
              obtain ⟨oo, u, g3, g4, g5, gt, g6, g8⟩ := hf w2 _ H2 a x k v2 y v1 x' h2 (h2.at_ j _ a e6 ea2) (h2.nF a ma) r2 ry e1
              have n12 := ((n1.trans n3).trans n2).trans (Nxt.put (u := u) ma g3 gt)
              have hh := h2.put ea2 g3 g4 gt g6
              exact g8 _ (p w2 σ _ (n.trans n12) ow (n12.stp A.h) (A.nxt n12 hh))
theorem ss_stC {spos : Pos} {k e : Expr} {r : TSet} {f : FS} {co ck cv : CE} (hp : PSet X r) (hf : StOk X.ct r f) (ho : SE X o co) (hk : SE X k ck) (he : SE X e cv)
    (ha : ∀ v, assign (.Subscript o k apos) X.env v = (do
      let ov ← holding [v] (eval o X.env)
      let iv ← holding [v, ov] (eval k X.env)
      standAt apos
      holding [v, ov, iv] (setItem ov iv v)
      release [v, ov, iv] []) := by intro _; rfl)
    (hs : swapsWithSole [.Subscript o k apos] e spos.line X.env = pure false := by rfl) (hw : swappedStores [.Subscript o k apos] e X.env = pure none := by rfl)
    (h1 : (assignEach [.Subscript o k apos] X.env).map (·.2) = [assign (.Subscript o k apos) X.env] := by rfl) :
    SS X (.Assign [.Subscript o k apos] e spos) (sStC f co ck (cFz cv)) := (ps_asg (se_fz he) (pg_sub ho hk hp ha) hs hw h1).imp (imp_stC hf)
end
end M

namespace M
open PySem PySem.Spec PyProof.Rows L2
variable [Tb]
abbrev _root_.L2.Cx.gx (X : Cx) (s : Shared) (H : Hp) (A : Around) (cenv : Env) (fp : List Addr) : Cx :=
  { X with s_0 := s, H_0 := H, A := A, env := cenv, outer := X.stack, stack := cenv :: X.stack, ex := fp, fn := fun _ => false, pn := [], xe := fun _ _ => False }
section
variable {X : Cx} {pins : List (Addr × Obj)} {σ : L2.St} {H : Hp} {s : Shared}
theorem Good.gx (G : Good X) {s : Shared} {H : Hp} {A : Around} {cenv : Env} {fp : List Addr} (h : A.units + 150 < cLine) : Good (X.gx s H A cenv fp) := ⟨G.calm, G.nd, h, PassesOwn.never⟩
theorem gx_start {scope : Scope} {own : List (Str × Nat)} {fp : List Addr} {A' : Around} {code : Value} {s5 : Shared} {pn : List (Addr × Obj)} (I : Inv X pins σ H s) (ok : BlkOk X.N X.env.scope scope own) (nc : ∀ y ∈ scope.names, y.2 ≠ .cell) (hN : X.N.Nodup)
    (hfp : ∀ b ∈ fp, FpOk X pins H b ∧ b < s.heap.objs.size) (hh : X.calm = true → A'.handled = none) (hfr : A'.frames = some (genEnv scope (cloFrom X.env.cells scope.names []) s.heap.objs.size code builtinsNs X.env :: X.stack))
    (hos : s5.os = s.os) (hb : AllBare s5.gens) (kp : ∀ b o, s.heap.get? b = some o → s5.heap.get? b = some o) (hns : ∃ m, s5.heap.Ns s.heap.objs.size m)
    (hpn : ∀ p ∈ pn, s5.heap.get? p.1 = some p.2 ∧ H p.1 = none ∧ p.1 ≠ s.heap.objs.size ∧ p.1 ∉ frs X.stack ∧ ∀ v, p.2.data ≠ .cell v) :
    Inv (X.gx s H A' (genEnv scope (cloFrom X.env.cells scope.names []) s.heap.objs.size code builtinsNs X.env) fp) pn (wipe σ (own.map (·.2))) H s5 := by
  have hfree : ∀ y ∈ scope.names, y.2 = .free → ∃ c, X.env.cells.lookup y.1 = some c := fun y hy e => by
    rcases ok.free y hy e with k | k
    · exact I.ok.has _ (.inl k)
    · exact I.ok.has _ (.inr k)
  have cm : ∀ {y c}, (cloFrom X.env.cells scope.names []).lookup y = some c → X.env.cells.lookup y = some c ∧ c < s.heap.objs.size ∧ (y, NameKind.free) ∈ scope.names := fun {y c} e => by
    rcases cloFrom_mem (PySem.mem_of_lookup e) with hm | ⟨h1, rfl⟩
    · cases hm
    · obtain ⟨c, hc⟩ := hfree _ h1 rfl
      rw [hc]
      obtain ⟨w, z⟩ := I.cell _ _ hc
      exact ⟨rfl, z.lt, h1⟩
  have look : ∀ {y}, scope.names.lookup y = some .free → ∃ c, (cloFrom X.env.cells scope.names []).lookup y = some c ∧ X.env.cells.lookup y = some c := fun {y} hl => by
    obtain ⟨c', e'⟩ := mem_lookup (cloFrom_has (cells := X.env.cells) (acc := []) (PySem.mem_of_lookup hl))
    exact ⟨c', e', (cm e').1⟩
  have okB : (X.gx s H A' (genEnv scope (cloFrom X.env.cells scope.names []) s.heap.objs.size code builtinsNs X.env) fp).Ok := by
    refine ⟨I.ok.mod, ok.kind, I.ok.glob, rfl, Nat.le_refl _, fun y z c e1 e2 => I.ok.inj y z c (cm e1).1 (cm e2).1, fun y hy => ?_, (fun y c z _ => nomatch z), hh, hfr, .inr ⟨rfl, rfl⟩, fun b hb => ⟨?_, fun y c e => ?_⟩, I.bs, Nat.le_trans I.ok.bsz I.sz, fun b o e hb => ?_, fun b hb z => ?_, I.stack, I.stkFree⟩
    · rcases hy with hy | hy
      · exact (nc _ (PySem.mem_of_lookup (show scope.names.lookup y = some .cell from hy)) rfl).elim
      · obtain ⟨c, h1, _⟩ := look (show scope.names.lookup y = some .free from hy)
        exact ⟨c, h1⟩
    · exact Nat.ne_of_lt (hfp b hb).2
    · exact (hfp b hb).1.2.2.2.2.1 y c (cm e).1
    · rcases (hfp b hb).1.2.2.2.1 with z | z
      · exact I.ok.noex b o e z
      · exact absurd (Nat.lt_of_lt_of_le (Heap.lt_size e) (Nat.le_trans I.ok.bsz z)) (Nat.lt_irrefl _)
    · rcases List.mem_cons.mp (I.stkSub b z) with z | z
      · exact (hfp b hb).1.2.1 z
      · exact (hfp b hb).1.2.2.1 z
  refine ⟨okB, hos, hb, Un.kept kp, ?_, fun y c e => ?_, I.hok.fresh (Nat.le_refl _), fun y c e => I.freeC _ _ (cm e).1, fun p hp => hpn p (by simpa using hp), I.hok.kept kp, by rw [wipe_length]; exact I.len⟩
  · obtain ⟨m, hm⟩ := hns
    refine ⟨m, hm, fun i y av e1 e2 e3 => ?_⟩
    obtain ⟨e2, hne⟩ := wipe_some e2
    have no : ∀ k, scope.names.lookup y = some k → k = .local ∨ k = .cell → False := fun k hk hh => by
      rcases ok.own _ (PySem.mem_of_lookup hk) hh with e' | e'
      · obtain ⟨p, hp, hpy⟩ := List.mem_map.mp e'
        have e4 := ok.ix p hp
        have : p.1 = y := hpy
        rw [this] at e4
        exact hne (List.mem_map.mpr ⟨p, hp, nodup_ix hN e4 e1⟩)
      · exact e' (List.mem_of_getElem? e1)
    have hf : scope.names.lookup y = some .free := by
      have e3 : Vis scope y := e3
      rcases e3 with e3 | e3 | e3
      · exact (no _ e3 (.inl rfl)).elim
      · exact (no _ e3 (.inr rfl)).elim
      · exact e3
    obtain ⟨mm, hn, hl⟩ := I.loc
    have hvis : Vis X.env.scope y := (ok.free _ (PySem.mem_of_lookup hf) rfl).elim (fun k => .inr (.inl k)) (fun k => .inr (.inr k))
    obtain ⟨w, r, qq⟩ := hl i y av e1 e2 hvis
    refine ⟨w, r, .inr ⟨.inr hf, ?_⟩⟩
    obtain ⟨c, h1, h2⟩ := look hf
    rcases qq with ⟨k, _⟩ | ⟨_, c', e', z⟩
    · have k : X.env.scope.names.lookup y = some .local := k
      rcases ok.free _ (PySem.mem_of_lookup hf) rfl with k' | k' <;> rw [show X.env.scope.names.lookup y = _ from k'] at k <;> cases k
    · rw [h2] at e'
      cases e'
      exact ⟨c, h1, z.keeps kp⟩
  · obtain ⟨v, z⟩ := I.cell _ _ (cm e).1
    exact ⟨v, z.keeps kp⟩
end
def Slp (s s2 : Shared) : Prop := s2.os = s.os ∧ AllBare s2.gens ∧ ∀ b o, s.heap.get? b = some o → s2.heap.get? b = some o
def TrB (v : Value) (k : Bool) : Prop := v = .bool k ∨ ∃ i t, v = .int i t ∧ k = (i != 0)
theorem trB_ok {P : Program} {w : World} {A : Around} {E : Value → Shared → Prop} {s : Shared} {v : Value} {k : Bool} {Q : Bool → Shared → Prop} (h : TrB v k) (q : Q k s) : wpAny (model P w) A (truthy v) Q E s := by
  rcases h with rfl | ⟨i, t, rfl, rfl⟩
  · exact wpAny_truthy_bool q
  · exact PySem.P.truthy_int q
def GXP (gi : Nat) (b q : Bool) (Done : Shared → Prop) : Nat → Shared → Shared → Prop := fun _ _ s1 => b = !q ∧ AllBare s1.gens ∧ ∀ s2, Slp s1 s2 → Done s2
def GXR (gi : Nat) (b q : Bool) (Done : Shared → Prop) : GenEnd := fun n s₀ r s1 => r = .ok .next ∧ GXP gi b q Done n s₀ s1
def GXY (ga gi : Nat) (b q : Bool) (Done : Shared → Prop) : Protocol := fun _ _ v s1 kap => gi < s1.gens.size ∧ AllBare s1.gens ∧ s1.heap.IsGen ga gi ∧ s1.heap.NoLimit ∧ ∃ k, TrB v k ∧
  (k = q → b = q ∧ ∀ s2, Slp s1 s2 → Done s2) ∧ (k ≠ q → ∀ s2, Slp s1 s2 → gi < s2.gens.size → kap (.send .none) s2)
def GXS (P : Program) (w : World) (A : Around) (ga gi : Nat) (b q : Bool) (Done : Shared → Prop) (n : Nat) (s : Shared) : Prop :=
  ∃ gs, AllBare s.gens ∧ s.heap.IsGen ga gi ∧ s.heap.NoLimit ∧ s.gens[gi]? = some gs ∧ gs.Goes (model P w) A (GXR gi b q Done) (GXY ga gi b q Done) n (.send .none) (s.setGen gi .running)
theorem bare_set {s : Shared} {g : Nat} {x : GenState} (h : AllBare s.gens) (hx : x.bare = true) : AllBare (s.setGen g x).gens := by
  intro y hy
  have hy' : y ∈ s.gens.setIfInBounds g x := hy
  rcases Array.mem_or_eq_of_mem_setIfInBounds hy' with z | z
  · exact h y z
  · rw [z]
    exact hx
section
variable {P : Program} {w : World} {A : Around} {ga gi : Nat} {b : Bool} {Done : Shared → Prop} {Res : Result → Shared → Prop}
theorem slp_set {s1 : Shared} {gs : GenState} (hb : AllBare s1.gens) (h : gs.bare = true) : Slp s1 (s1.setGen gi gs) := ⟨rfl, bare_set hb h, fun _ _ e => e⟩
theorem any_gx (hh : A.handled = none) (hd : A.depth < recursionLimit) (hres : ∀ s2, Done s2 → Res (.ok (.ret (.bool b))) s2) :
    ∀ (n : Nat) (s : Shared), GXS P w A.in1.in1 ga gi b true Done n s → codeAny (model P w) A (.builtin "any.loop" ⟨[.ref ga], []⟩) Res s := by
  intro n
  induction n with
  | zero =>
    intro s ⟨gs, bs, hg, hl, hgs, hgo⟩
    refine codeAny_builtin F.entry_any_loop ?_
    rw [Around.under_plainId F.plain_any_loop _]
    show wpAny _ A.in1 (pyNext (.ref ga) >>= _) _ _ s
    refine wpAny_bind (wpAny_pyNext_genexpQ (A := A.in1) (P := GXP gi b true Done) hh hl hd hg hgs hgo (fun v s1 gs' hb hv => ?_) (fun s1 hp h' hk => ?_))
    · obtain ⟨h1, h2, h3, h4, k, h5, h6, h7⟩ := hv
      refine wpAny_bind (wpAny_holding (trB_ok h5 ?_))
      refine wpAny_bind (wpAny_letGo ?_)
      cases k with
      | true =>
        obtain ⟨e, dn⟩ := h6 rfl
        simp only [if_true]
        exact wpAny_bind (wpAny_rule (wpAny_pure (by rw [← e]; exact hres _ (dn _ (slp_set h2 hb)))))
      | false => exact False.elim (h7 (by simp) (s1.setGen gi gs') (slp_set h2 hb) (by rw [GenW.setGen_size]; exact h1))
    · obtain ⟨e, hb, dn⟩ := hp
      refine wpAny_bind (wpAny_rule (wpAny_pure ?_))
      have e : b = false := e
      have := hres _ (dn { s1.setGen gi .finished with heap := h' } ⟨rfl, bare_set hb rfl, hk⟩)
      rw [e] at this
      exact this
  | succ n ih =>
    intro s ⟨gs, bs, hg, hl, hgs, hgo⟩
    refine codeAny_builtin F.entry_any_loop ?_
    rw [Around.under_plainId F.plain_any_loop _]
    show wpAny _ A.in1 (pyNext (.ref ga) >>= _) _ _ s
    refine wpAny_bind (wpAny_pyNext_genexpQ (A := A.in1) (P := GXP gi b true Done) hh hl hd hg hgs hgo (fun v s1 gs' hb hv => ?_) (fun s1 hp h' hk => ?_))
    · obtain ⟨h1, h2, h3, h4, k, h5, h6, h7⟩ := hv
      refine wpAny_bind (wpAny_holding (trB_ok h5 ?_))
      refine wpAny_bind (wpAny_letGo ?_)
      cases k with
      | true =>
        obtain ⟨e, dn⟩ := h6 rfl
        simp only [if_true]
        exact wpAny_bind (wpAny_rule (wpAny_pure (by rw [← e]; exact hres _ (dn _ (slp_set h2 hb)))))
      | false =>
        simp only [Bool.false_eq_true, if_false]
        refine wpAny_pure ⟨plainId_quiet F.plain_any_loop _, ih _ ⟨gs', bare_set h2 hb, h3, h4, ?_, ?_⟩⟩
        · show (s1.gens.setIfInBounds gi gs')[gi]? = some gs'
          simp [h1]
        · have hk := h7 (by simp) ((s1.setGen gi gs').setGen gi .running) ⟨rfl, bare_set (bare_set h2 hb) rfl, fun _ _ e => e⟩ (by rw [GenW.setGen_size, GenW.setGen_size]; exact h1)
          exact hk
    · obtain ⟨e, hb, dn⟩ := hp
      refine wpAny_bind (wpAny_rule (wpAny_pure ?_))
      have e : b = false := e
      have := hres _ (dn { s1.setGen gi .finished with heap := h' } ⟨rfl, bare_set hb rfl, hk⟩)
      rw [e] at this
      exact this
theorem all_gx (hh : A.handled = none) (hd : A.depth < recursionLimit) (hres : ∀ s2, Done s2 → Res (.ok (.ret (.bool b))) s2) :
    ∀ (n : Nat) (s : Shared), GXS P w A.in1.in1 ga gi b false Done n s → codeAny (model P w) A (.builtin "all.loop" ⟨[.ref ga], []⟩) Res s := by
  intro n
  induction n with
  | zero =>
    intro s ⟨gs, bs, hg, hl, hgs, hgo⟩
    refine codeAny_builtin F.entry_all_loop ?_
    rw [Around.under_plainId F.plain_all_loop _]
    show wpAny _ A.in1 (pyNext (.ref ga) >>= _) _ _ s
    refine wpAny_bind (wpAny_pyNext_genexpQ (A := A.in1) (P := GXP gi b false Done) hh hl hd hg hgs hgo (fun v s1 gs' hb hv => ?_) (fun s1 hp h' hk => ?_))
    · obtain ⟨h1, h2, h3, h4, k, h5, h6, h7⟩ := hv
      refine wpAny_bind (wpAny_holding (trB_ok h5 ?_))
      refine wpAny_bind (wpAny_letGo ?_)
      cases k with
      | false =>
        obtain ⟨e, dn⟩ := h6 rfl
        simp only [Bool.false_eq_true, if_false]
        exact wpAny_bind (wpAny_rule (wpAny_pure (by rw [← e]; exact hres _ (dn _ (slp_set h2 hb)))))
      | true => exact False.elim (h7 (by simp) (s1.setGen gi gs') (slp_set h2 hb) (by rw [GenW.setGen_size]; exact h1))
    · obtain ⟨e, hb, dn⟩ := hp
      refine wpAny_bind (wpAny_rule (wpAny_pure ?_))
      have e : b = true := e
      have := hres _ (dn { s1.setGen gi .finished with heap := h' } ⟨rfl, bare_set hb rfl, hk⟩)
      rw [e] at this
      exact this
  | succ n ih =>
    intro s ⟨gs, bs, hg, hl, hgs, hgo⟩
    refine codeAny_builtin F.entry_all_loop ?_
    rw [Around.under_plainId F.plain_all_loop _]
    show wpAny _ A.in1 (pyNext (.ref ga) >>= _) _ _ s
    refine wpAny_bind (wpAny_pyNext_genexpQ (A := A.in1) (P := GXP gi b false Done) hh hl hd hg hgs hgo (fun v s1 gs' hb hv => ?_) (fun s1 hp h' hk => ?_))
    · obtain ⟨h1, h2, h3, h4, k, h5, h6, h7⟩ := hv
      refine wpAny_bind (wpAny_holding (trB_ok h5 ?_))
      refine wpAny_bind (wpAny_letGo ?_)
      cases k with
      | false =>
        obtain ⟨e, dn⟩ := h6 rfl
        simp only [Bool.false_eq_true, if_false]
        exact wpAny_bind (wpAny_rule (wpAny_pure (by rw [← e]; exact hres _ (dn _ (slp_set h2 hb)))))
      | true =>
        simp only [if_true]
        refine wpAny_pure ⟨plainId_quiet F.plain_all_loop _, ih _ ⟨gs', bare_set h2 hb, h3, h4, ?_, ?_⟩⟩
        · show (s1.gens.setIfInBounds gi gs')[gi]? = some gs'
          simp [h1]
        · have hk := h7 (by simp) ((s1.setGen gi gs').setGen gi .running) ⟨rfl, bare_set (bare_set h2 hb) rfl, fun _ _ e => e⟩ (by rw [GenW.setGen_size, GenW.setGen_size]; exact h1)
          exact hk
    · obtain ⟨e, hb, dn⟩ := hp
      refine wpAny_bind (wpAny_rule (wpAny_pure ?_))
      have e : b = true := e
      have := hres _ (dn { s1.setGen gi .finished with heap := h' } ⟨rfl, bare_set hb rfl, hk⟩)
      rw [e] at this
      exact this
end
end M

namespace M
open PySem PySem.Spec PyProof.Rows L2 GxR
variable [Tb]
def truB : U → Option Bool
  | .d (.bool k) => some k
  | .d (.int i) => some (i != 0)
  | _ => none
theorem truB_ok {C : Ct} {w : Wd} {H : Hp} {u : U} {v : V} {x : Value} {k : Bool} (e : truB u = some k) (r : RelU C w H u v) (rv : RelV v x) : TrB x k := by
  cases u with
  | d y =>
    cases y with
    | bool y =>
      obtain rfl : y = k := Option.some.inj e
      have r : v = .bl y := r
      subst r
      exact .inl rv
    | int i =>
      cases e
      have r : v = .int i := r
      subst r
      obtain ⟨t, rfl⟩ := rv
      exact .inr ⟨i, t, rfl, rfl⟩
    | _ => cases e
  | _ => cases e
def lpQ (q : Bool) (g : CG) (t : CB) (e : CE) (ρ : Sg) : List D → Mh → Option (Bool × Mh)
  | [], m => some (!q, m)
  | d :: ds, m => (g d).bind fun l => (t (setL ρ l) m).bind fun r => if r.1 = true then (e (setL ρ l) r.2).bind fun p => (truB p.1).bind fun k => if k = q then some (q, p.2) else lpQ q g t e ρ ds p.2 else lpQ q g t e ρ ds r.2
section
variable {X : Cx} {s4 : Shared} {H4 : Hp} {A : Around} {cenv : Env} {fp : List Addr} {elt tg iter : Expr} {ifs : List Expr} {scope : Scope} {pos : Pos} {it : Addr} {J : It} {tn : Nat → Heap → Prop} {g : CG} {t : CB} {c : CE} {vs : List Nat} {σ : L2.St} {ρ : Sg}
abbrev gxCode (elt tg iter : Expr) (ifs : List Expr) (scope : Scope) (pos : Pos) (it : Addr) (cenv : Env) : Code := .compLoop (.GeneratorExp elt [⟨tg, iter, ifs, 0⟩] scope pos) 0 (.ref it) .none cenv
theorem gx_seg {w1 : Wd} {mfin : Mh} {xs : List D} {q b : Bool} {ga gi : Nat} {gob : Obj} {Done : Shared → Prop} (hc : X.calm = true) (T : Turn X.prog X.w X.K tg J fp it tn) (wk : WlkP X.ct (okN w1 H4) J xs)
    (pg : SG (X.gx s4 H4 (A.over (gxCode elt tg iter ifs scope pos it cenv) []) cenv fp) tg g) (hgs : GSl g vs) (pt : SBs (X.gx s4 H4 (A.over (gxCode elt tg iter ifs scope pos it cenv) []) cenv fp) ifs t) (pe : SE (X.gx s4 H4 (A.over (gxCode elt tg iter ifs scope pos it cenv) []) cenv fp) elt c)
    (hco : cenv.scope.isCoroutine = false) (hgob : ∀ h : Heap, h.get? ga = some gob → h.IsGen ga gi) (hga : ∀ b ∈ fp, b ≠ ga)
    (hD : ∀ w' H' σ' s1, Inv (X.gx s4 H4 (A.over (gxCode elt tg iter ifs scope pos it cenv) []) cenv fp) [(ga, gob)] σ' H' s1 → Nxt w1 H4 w' H' → RelH X.ct w' mfin H' → ∀ s2, Slp s1 s2 → Done s2) :
    ∀ (k i n : Nat) (s₀ s : Shared) (w2 : Wd) (H2 : Hp) (m2 : Mh), k + i = xs.length → k ≤ n → Inv (X.gx s4 H4 (A.over (gxCode elt tg iter ifs scope pos it cenv) []) cenv fp) [(ga, gob)] (wipe σ vs) H2 s → tn i s.heap → (∀ b ∈ fp, H2 b = none) → Nxt w1 H4 w2 H2 →
      At X.ct w2 (wipeG ρ vs) (wipe σ vs) m2 H2 → lpQ q g t c (wipeG ρ vs) (xs.drop i) m2 = some (b, mfin) → gi < s.gens.size →
      Seg (model X.prog X.w) A (GXR gi b q Done) (GXY ga gi b q Done) n s₀ (gxCode elt tg iter ifs scope pos it cenv) ((model X.prog X.w).den (gxCode elt tg iter ifs scope pos it cenv)) [] s := by
  generalize hX : X.gx s4 H4 (A.over (gxCode elt tg iter ifs scope pos it cenv) []) cenv fp = X' at pg pt pe hD ⊢
  have eA : X'.A = A.over (gxCode elt tg iter ifs scope pos it cenv) [] := by rw [← hX]
  have eE : X'.env = cenv := by rw [← hX]
  have eP : X'.prog = X.prog := by rw [← hX]
  have eW : X'.w = X.w := by rw [← hX]
  have eK : X'.K = X.K := by rw [← hX]
  have eC : X'.ct = X.ct := by rw [← hX]
  have eX : X'.xe = fun _ _ => False := by rw [← hX]
  have eex : X'.ex = fp := by rw [← hX]
  have epn : X'.pn = [] := by rw [← hX]
  have ecalm : X'.calm = true := by rw [← hX]; exact hc
  have stat : ∀ {σ' : L2.St} {H' : Hp} {s' : Shared}, Inv X' [(ga, gob)] σ' H' s' → (∀ b ∈ fp, H' b = none) → ∀ b ∈ fp, FpOk X' [(ga, gob)] H' b := fun {σ' H' s'} I' hn b hb => by
    have hb' : b ∈ X'.ex := by rw [eex]; exact hb
    exact ⟨hn b hb, (I'.ok.exf b hb').1, I'.ok.exfs b hb', .inl hb', fun x c e => (I'.ok.exf b hb').2 x c e, fun p hp => by
      rw [epn, List.nil_append, List.mem_singleton] at hp
      rw [hp]
      exact fun z => hga b hb z.symm⟩
  intro k
  induction k with
  | zero =>
    intro i n s₀ s w2 H2 m2 hk hn I st nf nx At2 el hgi
    have hi : xs.drop i = [] := List.drop_eq_nil_iff.mpr (by omega)
    rw [hi] at el
    cases el
    obtain ⟨ws, _⟩ := wk w2 mfin H2 nx At2.h
    show Seg _ A _ _ _ s₀ _ ((compTurn (.GeneratorExp elt [⟨tg, iter, ifs, 0⟩] scope pos) 0 (.ref it) .none cenv).onRaise (leaving cenv)) [] s
    rw [compTurn_gen, Sem.onRaise_eq_wrap]
    refine seg_bind_wrap (wpAny_standAt ?_)
    have td := T.done X' eP eW eK ecalm i [(ga, gob)] s _ H2 (fun _ _ => False) I (stat I nf) st (ws i (by omega))
    rw [eA] at td
    refine seg_bind_wrap (thnF td fun r s1 ⟨hr, I1⟩ => ?_)
    subst hr
    exact seg_end (.ok .next) ⟨rfl, rfl, I1.bare, hD w2 H2 _ s1 I1 nx At2.h⟩
  | succ k ih =>
    intro i n s₀ s w2 H2 m2 hk hn I st nf nx At2 el hgi
    have hlt : i < xs.length := by omega
    obtain ⟨d, hd⟩ : ∃ d, xs[i]? = some d := ⟨xs[i], List.getElem?_eq_getElem hlt⟩
    have hdr : xs.drop i = d :: xs.drop (i + 1) := by
      rw [List.drop_eq_getElem_cons hlt]
      rw [List.getElem?_eq_getElem hlt] at hd
      cases hd
      rfl
    rw [hdr] at el
    obtain ⟨_, wg⟩ := wk w2 m2 H2 nx At2.h
    obtain ⟨g1, g2⟩ := wg i d hd
    have el : ((g d).bind fun l => (t (setL (wipeG ρ vs) l) m2).bind fun r => if r.1 = true then (c (setL (wipeG ρ vs) l) r.2).bind fun p => (truB p.1).bind fun k => if k = q then some (q, p.2) else lpQ q g t c (wipeG ρ vs) (xs.drop (i + 1)) p.2 else lpQ q g t c (wipeG ρ vs) (xs.drop (i + 1)) r.2) = some (b, mfin) := el
    cases qg : g d with
    | none => rw [qg] at el; cases el
    | some l =>
      rw [qg, Option.bind_some] at el
      cases qt : t (setL (wipeG ρ vs) l) m2 with
      | none => rw [qt] at el; cases el
      | some r3 =>
        obtain ⟨bt, m4⟩ := r3
        rw [qt, Option.bind_some] at el
        simp only at el
        show Seg _ A _ _ _ s₀ _ ((compTurn (.GeneratorExp elt [⟨tg, iter, ifs, 0⟩] scope pos) 0 (.ref it) .none cenv).onRaise (leaving cenv)) [] s
        rw [compTurn_gen, Sem.onRaise_eq_wrap]
        refine seg_bind_wrap (wpAny_standAt ?_)
        have ti := T.item X' eP eW eK ecalm i [(ga, gob)] s _ H2 (fun _ _ => False) I (stat I nf) st g1
        rw [eA] at ti
        refine seg_bind_wrap (GenW.wpAny_gsz (n := gi + 1) hgi (thnF ti fun r s1 ⟨u, hr, h6⟩ hgi1 => ?_))
        subst hr
        refine seg_bind_wrap (GenW.wpAny_gsz (n := gi + 1) hgi1 (thnF h6 fun _ s2 ⟨x, H3, I2, r2, y2, st2, n2⟩ hgi2 => ?_))
        obtain ⟨n3, h3, rd⟩ := g2 x H3 y2
        have I2' := I2.pinned (stat I2 n2) (T.obj _ _ st2)
        have pgr := pg.run _ s2 _ H3 x u (fun σ' H' => H' = H3 ∧ ∃ lv, RelL w2.F H3 l lv ∧ σ' = setV (wipe σ vs) lv) I2' r2 ⟨w2.F, d, l, rd, qg, fun lv hlv => ⟨rfl, lv, hlv, rfl⟩⟩
        rw [eA, eE, eP, eW, eX] at pgr
        refine seg_bind_wrap (GenW.wpAny_gsz (n := gi + 1) hgi2 (thnF pgr fun _ s3 ⟨σ3, H3', I3, e3, lv, hlv, es⟩ hgi3 => ?_))
        subst e3 es
        have A3 := setL_ok (H0 := H3') (At2.nxt n3 h3) hlv
        have hw3 : wipe (setV (wipe σ vs) lv) vs = wipe σ vs := wipe_set (hlv.in (hgs d l qg))
        -- the state behind the body: back to the head
        have back : ∀ {s' : Shared} {H' : Hp}, Inv X' ([(ga, gob)] ++ pinsAt fp s2.heap) (setV (wipe σ vs) lv) H' s' → Inv X' [(ga, gob)] (wipe σ vs) H' s' ∧ tn (i + 1) s'.heap ∧ ∀ b ∈ fp, H' b = none := fun {s' H'} I' => by
          have pin' : ∀ b ∈ fp, ∀ o, s2.heap.get? b = some o → s'.heap.get? b = some o ∧ H' b = none := fun b hb o e =>
            let z := I'.pin (b, o) (List.mem_append_right _ (List.mem_append_right _ (mem_pinsAt hb e)))
            ⟨z.1, z.2.1⟩
          refine ⟨(I'.unpinned (pins := [(ga, gob)])).weak (by rw [wipe_length, setV_length, wipe_length]) (fun j v e => ?_), T.keep _ _ _ st2 fun b hb o e => (pin' b hb o e).1, fun b hb => ?_⟩
          · rw [← hw3] at e
            exact (wipe_some e).1
          · obtain ⟨o, e, _⟩ := T.obj _ _ st2 b hb
            exact (pin' b hb o e).2
        -- it sleeps, and goes on
        have on : ∀ {s' s'' : Shared} {H' : Hp}, Inv X' [(ga, gob)] (wipe σ vs) H' s' → Slp s' s'' → Inv X' [(ga, gob)] (wipe σ vs) H' s'' := fun {s' s'' H'} I' sl =>
          I'.call' (ch := []) sl.1 (Un.kept sl.2.2) (I'.hok.kept sl.2.2) sl.2.1 fun b hb => absurd hb (by simp)
        have ptr := pt.run _ s3 _ H3' (fun bb H' => bb = bt ∧ ∃ w5, Nxt w2 H3' w5 H' ∧ RelH X.ct w5 m4 H') I3 (by
          rw [eC]
          exact ⟨w2, _, m2, bt, m4, A3, qt, fun w5 H5 n5 h5 => ⟨rfl, w5, n5, h5⟩⟩)
        rw [eA, eE, eP, eW, eX] at ptr
        refine seg_bind_wrap (GenW.wpAny_gsz (n := gi + 1) hgi3 (thnF ptr fun bb s5 ⟨H5, I5, eb, w5, n5, h5⟩ hgi5 => ?_))
        subst eb
        have n25 := n3.trans n5
        have A5 := A3.nxt n5 h5
        cases bb with
        | false =>
          rw [if_neg Bool.false_ne_true] at el
          simp only [Bool.false_eq_true, if_false]
          obtain ⟨I6, st6, nf6⟩ := back I5
          exact seg_again rfl (ih (i + 1) n s₀ s5 w5 H5 m4 (by omega) (by omega) I6 st6 nf6 (nx.trans n25) (At2.nxt n25 h5) el hgi5)
        | true =>
          rw [if_pos rfl] at el
          simp only [if_true]
          cases qe : c (setL (wipeG ρ vs) l) m4 with
          | none => rw [qe] at el; cases el
          | some r4 =>
            obtain ⟨uu, m6⟩ := r4
            rw [qe, Option.bind_some] at el
            simp only at el
            cases qk : truB uu with
            | none => rw [qk] at el; cases el
            | some kk =>
              rw [qk, Option.bind_some] at el
              have hy : ∀ v, yieldOut cenv v = yieldValue v := fun v => by simp only [yieldOut, hco, Bool.false_eq_true, if_false]
              simp only [hy]
              rw [Sem.bind_eq_wrap', Sem.bind_eq_wrap', Sem.wrap_wrap, Sem.wrap_wrap]
              have per := pe.run _ s5 _ H5 (fun v H' => ∃ w6, Nxt w5 H5 w6 H' ∧ RelH X.ct w6 m6 H' ∧ RelU X.ct w6 H' uu v) I5 (by
                rw [eC]
                exact ⟨w5, _, m4, uu, m6, A5, qe, fun w6 H6 v n6 h6 r6 _ => ⟨w6, n6, h6, r6⟩⟩)
              rw [eA, eE, eP, eW, eX] at per
              refine seg_wrap (GenW.wpAny_gsz (n := gi + 1) hgi5 (thnF per fun y s6 ⟨v, H6, I6, rv, w6, n6, h6, r6⟩ hgi6 => ?_))
              obtain ⟨I7, st7, nf7⟩ := back I6
              obtain ⟨n', rfl⟩ : ∃ n', n = n' + 1 := ⟨n - 1, by omega⟩
              have n26 := n25.trans n6
              have hlim : s6.heap.NoLimit := I7.nolimit
              refine seg_at (seg_yield rfl rfl rfl ⟨hgi6, I7.bare, hgob _ (I7.pin (ga, gob) (by rw [epn]; simp)).1, hlim, kk, truB_ok qk r6 rv, fun ek => ?_, fun ek s7 sl hgi7 => ?_⟩)
              · subst ek
                rw [if_pos rfl] at el
                cases el
                exact ⟨rfl, hD w6 H6 _ s6 I7 (nx.trans n26) h6⟩
              · rw [if_neg ek] at el
                exact seg_again rfl (ih (i + 1) n' s7 s7 w6 H6 m6 (by omega) (by omega) (on I7 sl) (T.keep _ _ _ st7 fun b _ o e => sl.2.2 b o e) nf7 (nx.trans n26) (At2.nxt n26 h6) el hgi7)
end
end M

namespace M
open PySem PySem.Spec PyProof.Rows L2 GxR
variable [Tb]
theorem RelH.tabbed {C : Ct} {w : Wd} {m : Mh} {H : Hp} {P : Addr} {ps more : Array Value} (h : RelH C w m H) (hP : H P = some (.tbl ps)) (ht : TriplesOk (ps ++ more).toList) : Nxt w H w (upd H P (.tbl (ps ++ more))) ∧ RelH C w m (upd H P (.tbl (ps ++ more))) := by
  have nF : ¬ w.F P := fun z => by
    obtain ⟨o, e, nt⟩ := h.tF P z
    rw [hP] at e
    cases e
    exact nt _ rfl
  have st : Stp w.F H w.F (upd H P (.tbl (ps ++ more))) := Stp.wr nF hP (fun _ z => nomatch z)
  have nf : P ∉ w.f := fun z => by
    obtain ⟨r, o, _, _, q⟩ := h.at' z
    cases o with
    | v x =>
      obtain ⟨o', e', _, nt⟩ := RelC.mut2 q
      rw [hP] at e'
      cases e'
      exact nt _ rfl
    | ins c fs =>
      obtain ⟨cl, dx, vs', _, e', _⟩ := q
      rw [hP] at e'
      cases e'
  refine ⟨⟨fun _ h => h, fun _ h => .inl h, ⟨[], by simp, fun _ h => by simp at h⟩, fun b o e nt _ => (upd_ne (by rintro rfl; rw [hP] at e; cases e; exact nt _ rfl)).trans e, fun b qs e => ?_, fun b o e => ?_⟩, h.len, h.nd, fun r o b e1 e2 => ?_, h.nF, fun b z => ?_, fun b hb => ?_⟩
  · by_cases hb : b = P
    · subst hb
      rw [hP] at e
      cases e
      exact ⟨more, upd_same⟩
    · exact ⟨#[], by rw [Array.append_empty]; exact (upd_ne hb).trans e⟩
  · by_cases hb : b = P
    · subst hb
      exact ⟨_, upd_same⟩
    · exact ⟨o, (upd_ne hb).trans e⟩
  · exact RelO.stp st (fun x e => (upd_ne (by rintro rfl; exact nf (List.mem_of_getElem? e2))).trans e) (h.at_ r o b e1 e2)
  · obtain ⟨o, e, nt⟩ := h.tF b z
    exact ⟨o, (upd_ne (by rintro rfl; exact nF z)).trans e, nt⟩
  · by_cases hb2 : b = P
    · subst hb2
      exact ⟨_, upd_same, ht⟩
    · obtain ⟨qs, e, q⟩ := h.tb b hb
      exact ⟨qs, (upd_ne hb2).trans e, q⟩
def cQ (q : Bool) (ci : CI) (g : CG) (t : CB) (e : CE) (vs : List Nat) : CE := fun ρ m => (ci ρ m).bind fun p => (lpQ q g t e (wipeG ρ vs) p.1 p.2).map fun r => (.d (.bool r.1), r.2)
section
variable {X : Cx} {elt tg iter : Expr} {ifs : List Expr} {scope : Scope} {own : List (Str × Nat)} {gpos p pos : Pos} {ci : CI} {g : CG} {t : CB} {c : CE} {cc P : Addr} {k : Nat}
structure Gx (X : Cx) (k : Nat) (tg iter elt : Expr) (ifs : List Expr) (scope : Scope) (own : List (Str × Nat)) (ci : CI) (g : CG) (t : CB) (c : CE) : Prop where
  tab : ∃ cc P, TabB X.base X.mg cc P ∧ Tb.T P ∧ X.env.code = .ref cc
  room : Room (k + 1) X.A
  hi : SJ X tg iter ci
  ok : BlkOk X.N X.env.scope scope own
  nc : ∀ y ∈ scope.names, y.2 ≠ .cell
  dot : scope.names.lookup (".0" : Str) = some NameKind.local
  co : scope.isCoroutine = false
  fold : ∀ v, genFold iter X.env v = pure v
  gsl : GSl g (own.map (·.2))
  hg : ∀ (s : Shared) (H : Hp) (A : Around) (C : Addr) (code : Value) (fp : List Addr), Good (X.gx s H A (genEnv scope (cloFrom X.env.cells scope.names []) C code builtinsNs X.env) fp) → Room k A → SG (X.gx s H A (genEnv scope (cloFrom X.env.cells scope.names []) C code builtinsNs X.env) fp) tg g
  ht : ∀ (s : Shared) (H : Hp) (A : Around) (C : Addr) (code : Value) (fp : List Addr), Good (X.gx s H A (genEnv scope (cloFrom X.env.cells scope.names []) C code builtinsNs X.env) fp) → Room k A → SBs (X.gx s H A (genEnv scope (cloFrom X.env.cells scope.names []) C code builtinsNs X.env) fp) ifs t
  he : ∀ (s : Shared) (H : Hp) (A : Around) (C : Addr) (code : Value) (fp : List Addr), Good (X.gx s H A (genEnv scope (cloFrom X.env.cells scope.names []) C code builtinsNs X.env) fp) → Room k A → SE (X.gx s H A (genEnv scope (cloFrom X.env.cells scope.names []) C code builtinsNs X.env) fp) elt c
theorem gx_make {q : Bool} {pins : List (Addr × Obj)} {s : Shared} {σ : L2.St} {H : Hp} {Q : VK} {Q' : Value → Shared → Prop} (G : Good X) (D : Gx X k tg iter elt ifs scope own ci g t c) (I : Inv X pins σ H s) (h : TEc X.ct (cQ q ci g t c (own.map (·.2))) σ H Q)
    (hQ : ∀ (b : Bool) (ga gi n : Nat) (Done : Shared → Prop) (s5 : Shared), s5.heap.IsGen ga gi → GXS X.prog X.w X.A.in1.in1 ga gi b q Done n s5 → (∀ s2, Done s2 → EP X pins σ Q (.bool b) s2) → Q' (.ref ga) s5) :
    wpAny (model X.prog X.w) X.A (eval (.GeneratorExp elt [⟨tg, iter, ifs, 0⟩] scope gpos) X.env) Q' X.xe s := by
  obtain ⟨cc, P, TB, hT, hcode⟩ := D.tab
  obtain ⟨w, ρ, m, u, m', A, ec, p⟩ := h
  unfold cQ at ec
  cases qc : ci ρ m with
  | none => rw [qc] at ec; cases ec
  | some r =>
    obtain ⟨xs, m1⟩ := r
    rw [qc, Option.bind_some, Option.map_eq_some_iff] at ec
    obtain ⟨⟨b, mfin⟩, el, e2⟩ := ec
    cases e2
    have hfree : ∀ y ∈ scope.names, y.2 = .free → ∃ c, X.env.cells.lookup y.1 = some c := fun y hy e => by
      rcases D.ok.free y hy e with k | k
      · exact I.ok.has _ (.inl k)
      · exact I.ok.has _ (.inr k)
    refine wpAny_GeneratorExp_make D.co (closure_ok hfree) D.nc D.dot D.ok.kind (by have := D.room.dp; omega) ?_ D.fold
    refine thn (D.hi.run pins s σ H (fun J H' => ∃ w', Nxt w H w' H' ∧ RelH X.ct w' m1 H' ∧ WlkP X.ct (okN w' H') J xs) I ⟨w, ρ, m, xs, m1, A, qc, fun w' H' J n h wk => ⟨w', n, h, wk⟩⟩) fun xv s1 hx => thn hx fun itv s2 h2 => ?_
    obtain ⟨it, fp, tn, J, H2, e, I2, T, st2, f2, w2, n2, h2, wk⟩ := h2
    subst e
    refine ⟨I2.nolimit, ?_⟩
    obtain ⟨ps, hP, ht⟩ := h2.tb P hT
    have hPs : s2.heap.get? P = some { cls := .none, data := .fields ps } := I2.hok P _ hP
    have cd : PySem.W.CodeHd s2.heap cc P := TB.code.keeps fun b u e => I2.bk b u e
    have cont : ∀ (code : Value) (h3 : Heap) (tk : Nat) (more : Array Value), Heap.ExtBut P s2.heap h3 → h3.get? P = some { cls := .none, data := .fields (ps ++ more) } → TriplesOk (ps ++ more).toList →
        wpAny (model X.prog X.w) X.A (builtinsFor X.env.globals X.env.builtins) (fun bi s4 => ∀ h', h'.Ns s4.heap.objs.size (fun y => if y = ".0" then some (.ref it) else none) → Heap.SameBut s4.heap.objs.size (s4.heap.push { cls := .type "frame", data := .dict #[] }) h' →
          Q' (.ref h'.objs.size) { s4 with
            gens := s4.gens.push (.fresh (.compStart (.GeneratorExp elt [⟨tg, iter, ifs, 0⟩] scope gpos) 0 (.ref it) .none (genEnv scope (cloFrom X.env.cells scope.names []) s4.heap.objs.size code bi X.env))),
            toks := s4.toks + 1 + 1 + 1,
            heap := h'.push { cls := .type "generator", data := .fields #[.int s4.gens.size 0, .str "<genexpr>" (s4.toks + 1), .str (X.env.qual ++ "<genexpr>") (s4.toks + 1 + 1)] } }) X.xe { s2 with heap := h3, toks := tk } := by
      intro code h3 tk more hx hP3 ht3
      obtain ⟨bm, ob, e1, e2, e3, e4, e5, e6, e7, e8⟩ := TB.bm
      have keep3 : ∀ b u, b ≠ P → s2.heap.get? b = some u → h3.get? b = some u := fun b u hb e => hx b u hb e
      refine wpAny_builtinsFor (m := X.mg) (by rw [I2.ok.glob]; exact (I2.mod.glob.keeps I2.bk).extBut hx TB.gP) e1 e2 (keep3 _ _ e4 (I2.bk _ _ e5)) e6 e7 e8 ?_
      have I4 : Inv X pins σ (upd H2 P (.tbl (ps ++ more))) { s2 with heap := h3, toks := tk } := inv_tab (g' := s2.gens) (d' := s2.drawn) I2 hP keep3 hP3 I2.bare
      obtain ⟨nT, h4⟩ := h2.tabbed hP ht3
      have nP : ∀ b ∈ fp, b ≠ P := fun b hb z => by
        have := (f2 b hb).1
        rw [z, hP] at this
        cases this
      generalize hs4 : ({ s2 with heap := h3, toks := tk } : Shared) = s4 at I4 ⊢
      have e43 : s4.heap = h3 := by rw [← hs4]
      have st4 : tn 0 s4.heap := T.keep _ _ _ st2 fun b hb o e => by rw [e43]; exact keep3 b o (nP b hb) e
      have f4 : ∀ b ∈ fp, FpOk X pins (upd H2 P (.tbl (ps ++ more))) b ∧ b < s4.heap.objs.size := fun b hb => by
        refine ⟨⟨(upd_ne (nP b hb)).trans (f2 b hb).1, (f2 b hb).2⟩, ?_⟩
        obtain ⟨o, e, _⟩ := T.obj _ _ st4 b hb
        exact Heap.lt_size e
      generalize hH4 : upd H2 P (.tbl (ps ++ more)) = H4 at I4 nT h4 f4
      intro h' hns hsb
      have hL : s4.heap.objs.size < h'.objs.size := by
        rw [hsb.1, Heap.size_push]
        exact Nat.lt_succ_self _
      have keep' : ∀ b o, s4.heap.get? b = some o → h'.get? b = some o := fun b o e => hsb.extBut b o (Nat.ne_of_lt (Heap.lt_size e)) (Heap.get?_push_of_some _ e)
      generalize hgob : ({ cls := .type "generator", data := .fields #[.int s4.gens.size 0, .str "<genexpr>" (s4.toks + 1), .str (X.env.qual ++ "<genexpr>") (s4.toks + 1 + 1)] } : Obj) = gob
      have hfr : gob.isFreed = false := by rw [← hgob]; rfl
      have kp5 : ∀ b o, s4.heap.get? b = some o → (h'.push gob).get? b = some o := fun b o e => Heap.get?_push_of_some _ (keep' b o e)
      have hgen : ∀ hh : Heap, hh.get? h'.objs.size = some gob → hh.IsGen h'.objs.size s4.gens.size := fun hh e => by
        rw [← hgob] at e
        exact ⟨_, _, _, e, rfl, rfl, rfl⟩
      have hnew : (h'.push gob).get? h'.objs.size = some gob := Heap.get?_push_size _ hfr
      generalize hce : genEnv scope (cloFrom X.env.cells scope.names []) s4.heap.objs.size code builtinsNs X.env = cenv
      have hb5 : AllBare (s4.gens.push (.fresh (.compStart (.GeneratorExp elt [⟨tg, iter, ifs, 0⟩] scope gpos) 0 (.ref it) .none cenv))) := I4.bare.push rfl
      refine hQ b h'.objs.size s4.gens.size xs.length (fun s2 => ∃ w' H', Nxt w H w' H' ∧ RelH X.ct w' mfin H' ∧ Inv X pins σ H' s2) _ (hgen _ hnew) ⟨_, hb5, hgen _ hnew, (I4.nolimit.keeps kp5), Array.getElem?_push_size .., rfl, ?_⟩ fun s2 ⟨w', H', n', h', I'⟩ => ⟨.bl b, H', I', rfl, p w' H' (.bl b) n' h' rfl trivial⟩
      generalize hs5 : ({ s4 with
        gens := s4.gens.push (.fresh (.compStart (.GeneratorExp elt [⟨tg, iter, ifs, 0⟩] scope gpos) 0 (.ref it) .none cenv)), toks := s4.toks + 1 + 1 + 1, heap := h'.push gob } : Shared) = s5
      have h5 : s5.heap = h'.push gob := by rw [← hs5]
      have g5 : s5.gens = s4.gens.push (.fresh (.compStart (.GeneratorExp elt [⟨tg, iter, ifs, 0⟩] scope gpos) 0 (.ref it) .none cenv)) := by rw [← hs5]
      have o5 : s5.os = s4.os := by rw [← hs5]
      have fr : (X.A.in1.in1.over (gxCode elt tg iter ifs scope gpos it cenv) []).frames = some (cenv :: X.stack) := by
        show pushEnvs [cenv] (pushEnvs [] X.A.frames) = _
        rw [I4.ok.frames]
        rfl
      have rm : Room k (X.A.in1.in1.over (gxCode elt tg iter ifs scope gpos it cenv) []) := by
        have r1 := D.room.dp
        have r2 := D.room.un
        refine ⟨D.room.hd, ?_, ?_⟩
        · show X.A.depth + 0 + 1 + 3 * k + 5 < recursionLimit
          omega
        · show X.A.units + 1 + 1 + 0 + 3 + 16 * k + 200 < cLine
          omega
      have G' : Good (X.gx s4 H4 (X.A.in1.in1.over (gxCode elt tg iter ifs scope gpos it cenv) []) cenv fp) := G.gx (by have := rm.un; omega)
      have bareR : AllBare (s5.setGen s4.gens.size .running).gens := bare_set (by rw [g5]; exact hb5) rfl
      have I5 : Inv (X.gx s4 H4 (X.A.in1.in1.over (gxCode elt tg iter ifs scope gpos it cenv) []) cenv fp) [(h'.objs.size, gob)] (wipe σ (own.map (·.2))) H4 (s5.setGen s4.gens.size .running) := by
        subst hce
        refine gx_start I4 D.ok D.nc G.nd f4 (fun _ => D.room.hd) fr o5 bareR (fun b o e => by show s5.heap.get? b = some o; rw [h5]; exact kp5 b o e) ⟨_, by show s5.heap.Ns _ _; rw [h5]; exact hns.push _⟩ fun q hq => ?_
        rw [List.mem_singleton] at hq
        subst hq
        refine ⟨by show s5.heap.get? _ = _; rw [h5]; exact hnew, I4.hok.fresh (Nat.le_of_lt hL), Nat.ne_of_gt hL, fun z => ?_, fun v z => ?_⟩
        · rcases List.mem_cons.mp (I4.stkSub _ z) with z | z
          · have l1 := I4.lt
            rw [← z] at l1
            exact absurd (Nat.lt_trans l1 hL) (Nat.lt_irrefl _)
          · exact I4.nofs (Nat.le_of_lt hL) z
        · rw [← hgob] at z
          cases z
      have AA := ((A.nxt n2 h2).nxt nT h4).wiped (own.map (·.2))
      have hgi : s4.gens.size < (s5.setGen s4.gens.size .running).gens.size := by
        rw [GenW.setGen_size, g5, Array.size_push]
        exact Nat.lt_succ_self _
      have stR : tn 0 (s5.setGen s4.gens.size .running).heap := T.keep _ _ _ st4 fun b _ o e => by
        show s5.heap.get? b = some o
        rw [h5]
        exact kp5 b o e
      have gx : ∀ (sz : Shared), sz = s5.setGen s4.gens.size .running → Seg (model X.prog X.w) X.A.in1.in1 (GXR s4.gens.size b q fun s2 => ∃ w' H', Nxt w H w' H' ∧ RelH X.ct w' mfin H' ∧ Inv X pins σ H' s2) (GXY h'.objs.size s4.gens.size b q fun s2 => ∃ w' H', Nxt w H w' H' ∧ RelH X.ct w' mfin H' ∧ Inv X pins σ H' s2) xs.length sz
          (gxCode elt tg iter ifs scope gpos it cenv) ((model X.prog X.w).den (gxCode elt tg iter ifs scope gpos it cenv)) [] (s5.setGen s4.gens.size .running) := fun sz _ => by
        refine gx_seg (w1 := w2) (ga := h'.objs.size) (gob := gob) (ρ := ρ) G.calm T (fun w m H o h => wk w m H (nT.trans o) h) (by subst hce; exact D.hg _ _ _ _ _ _ G' rm) D.gsl (by subst hce; exact D.ht _ _ _ _ _ _ G' rm) (by subst hce; exact D.he _ _ _ _ _ _ G' rm) (by subst hce; exact D.co) hgen (fun b hb => Nat.ne_of_lt (Nat.lt_trans (f4 b hb).2 hL)) (fun w' H' σ' s1 I' n' h'' s2 sl => ?_)
          xs.length 0 xs.length sz _ w2 H4 m1 (Nat.add_zero _) (Nat.le_refl _) I5 stR (fun b hb => (f4 b hb).1.1) Nxt.refl AA el hgi
        have I7 : Inv X pins σ H' s1 := I4.call' (ch := fp) I'.os I'.base I'.hok I'.bare fun b hb => ⟨(f4 b hb).1.2.2.2.1, (f4 b hb).1.2.1, (f4 b hb).1.2.2.2.2.1, (f4 b hb).1.2.2.2.2.2⟩
        exact ⟨w', H', (n2.trans nT).trans n', h'', I7.call' (ch := []) sl.1 (Un.kept sl.2.2) (I7.hok.kept sl.2.2) sl.2.1 fun b hb => absurd hb (by simp)⟩
      have loop := gx _ rfl
      show Seg _ X.A.in1.in1 _ _ _ _ _ ((compStart (.GeneratorExp elt [⟨tg, iter, ifs, 0⟩] scope gpos) 0 (.ref it) .none cenv).onRaise (leaving cenv)) [] (s5.setGen s4.gens.size .running)
      unfold compStart
      rw [Sem.onRaise_eq_wrap]
      show Seg _ X.A.in1.in1 _ _ _ _ _ ((ask >>= _).wrap _ _ _ _) [] (s5.setGen s4.gens.size .running)
      refine seg_bind_wrap (wpAny_askSetting ?_)
      split
      · exact seg_again rfl loop
      · first
          | exact seg_bind_wrap (wpAny_rule (seg_bind_wrap (wpAny_standAt (seg_bind_wrap (T.self _ 0 _ _ _ stR (seg_again rfl loop))))))
          | (refine seg_bind_wrap (wpAny_rule ?_); show Seg _ _ _ _ _ _ _ ((standAt iter.pos >>= _).wrap _ _ _ _) [] _; exact seg_bind_wrap (wpAny_standAt (seg_bind_wrap (T.self _ 0 _ _ _ stR (seg_again rfl loop)))))
    cases hf : codeAmong gpos ps.toList with
    | none =>
      refine wpAny_genexprCodeX hcode (cd.code hPs ht) (cd.tab hPs) hf fun c' h' tk hx hge hlt hco' _ htab' _ => ?_
      obtain ⟨o1, vs, f1, tf, fl, tg', inF, tx, tt, op, _, _, _, _, _, _, _, _, _, htr, _⟩ := hco'
      exact cont _ h' tk _ hx htab'.2 htr
    | some cv =>
      refine wpAny_genexprCode_hit hcode (cd.code hPs ht) hf ?_
      exact cont cv s2.heap s2.toks #[] (Heap.ExtBut.refl _ _) (by rw [Array.append_empty]; exact hPs) (by rw [Array.append_empty]; exact ht)
end
end M

namespace M
open PySem PySem.Spec PyProof.Rows L2 GxR
variable [Tb]
section
variable {X : Cx} {elt tg iter : Expr} {ifs : List Expr} {scope : Scope} {own : List (Str × Nat)} {gpos p pos : Pos} {ci : CI} {g : CG} {t : CB} {c : CE} {k : Nat}
theorem se_anyG (G : Good X) (hg : Gl X "any") (hm : X.mg "any" = none) (D : Gx X k tg iter elt ifs scope own ci g t c)
    (he : starEach [.GeneratorExp elt [⟨tg, iter, ifs, 0⟩] scope gpos] X.env = (false, eval (.GeneratorExp elt [⟨tg, iter, ifs, 0⟩] scope gpos) X.env) :: starEach [] X.env := by rfl) :
    SE X (.Call (.Name "any" p) [.GeneratorExp elt [⟨tg, iter, ifs, 0⟩] scope gpos] [] pos) (cQ true ci g t c (own.map (·.2))) := by
  refine ⟨fun pins s σ H Q I h => ?_⟩
  refine wpAny_Call_Name_kw (ld_blt I hg hm boot_any ?_)
  refine PyProof.Rows.callWith_builtin1 ?_ he (by rfl)
  rw [he]
  show wpAny _ _ (spliced ((false, eval (.GeneratorExp elt [⟨tg, iter, ifs, 0⟩] scope gpos) X.env) :: backTo pos (starEach [] X.env))) _ _ s
  refine Calls.spliced_cons (gx_make (q := true) G D I h fun b ga gi n Done s5 hgen hs hd => ?_)
  refine Calls.spliced_nil ?_
  refine call_function_tree F.kind_any F.plain_any F.entry_any (F.args_any1 _) ?_
  unfold Builtin.«any»
  refine wpAny_bind (m := oneArg "any" _) (wpAny_pure ?_)
  refine wpAny_bind (wpAny_pyIter_gen hgen ?_)
  exact wpAny_pure ⟨plainId_quiet F.plain_any_loop _, any_gx D.room.hd (by have := D.room.dp; omega) (fun s2 dn => hd s2 dn) n s5 hs⟩
theorem se_allG (G : Good X) (hg : Gl X "all") (hm : X.mg "all" = none) (D : Gx X k tg iter elt ifs scope own ci g t c)
    (he : starEach [.GeneratorExp elt [⟨tg, iter, ifs, 0⟩] scope gpos] X.env = (false, eval (.GeneratorExp elt [⟨tg, iter, ifs, 0⟩] scope gpos) X.env) :: starEach [] X.env := by rfl) :
    SE X (.Call (.Name "all" p) [.GeneratorExp elt [⟨tg, iter, ifs, 0⟩] scope gpos] [] pos) (cQ false ci g t c (own.map (·.2))) := by
  refine ⟨fun pins s σ H Q I h => ?_⟩
  refine wpAny_Call_Name_kw (ld_blt I hg hm boot_all' ?_)
  refine PyProof.Rows.callWith_builtin1 ?_ he (by rfl)
  rw [he]
  show wpAny _ _ (spliced ((false, eval (.GeneratorExp elt [⟨tg, iter, ifs, 0⟩] scope gpos) X.env) :: backTo pos (starEach [] X.env))) _ _ s
  refine Calls.spliced_cons (gx_make (q := false) G D I h fun b ga gi n Done s5 hgen hs hd => ?_)
  refine Calls.spliced_nil ?_
  refine call_function_tree F.kind_all F.plain_all F.entry_all (F.args_all1 _) ?_
  unfold Builtin.«all»
  refine wpAny_bind (m := oneArg "all" _) (wpAny_pure ?_)
  refine wpAny_bind (wpAny_pyIter_gen hgen ?_)
  exact wpAny_pure ⟨plainId_quiet F.plain_all_loop _, all_gx D.room.hd (by have := D.room.dp; omega) (fun s2 dn => hd s2 dn) n s5 hs⟩
def gxC (scope : Scope) : Bool := scope.names.all fun y => match y.2 with
  | .cell => false
  | _ => true
theorem gxC_ok {scope : Scope} (h : gxC scope = true) : ∀ y ∈ scope.names, y.2 ≠ .cell := fun y hy e => by
  have := List.all_eq_true.mp h y hy
  rw [e] at this
  cases this
theorem gx_mk {cc P : Addr} (TB : TabB X.base X.mg cc P) (hT : Tb.T P) (hcode : X.env.code = .ref cc) (room : Room (k + 1) X.A) (hi : SJ X tg iter ci) (ok : BlkOk X.N X.env.scope scope own) (gsl : GSl g (own.map (·.2)))
    (hg : ∀ (s : Shared) (H : Hp) (A : Around) (C : Addr) (code : Value) (fp : List Addr), Good (X.gx s H A (genEnv scope (cloFrom X.env.cells scope.names []) C code builtinsNs X.env) fp) → Room k A → SG (X.gx s H A (genEnv scope (cloFrom X.env.cells scope.names []) C code builtinsNs X.env) fp) tg g)
    (ht : ∀ (s : Shared) (H : Hp) (A : Around) (C : Addr) (code : Value) (fp : List Addr), Good (X.gx s H A (genEnv scope (cloFrom X.env.cells scope.names []) C code builtinsNs X.env) fp) → Room k A → SBs (X.gx s H A (genEnv scope (cloFrom X.env.cells scope.names []) C code builtinsNs X.env) fp) ifs t)
    (he : ∀ (s : Shared) (H : Hp) (A : Around) (C : Addr) (code : Value) (fp : List Addr), Good (X.gx s H A (genEnv scope (cloFrom X.env.cells scope.names []) C code builtinsNs X.env) fp) → Room k A → SE (X.gx s H A (genEnv scope (cloFrom X.env.cells scope.names []) C code builtinsNs X.env) fp) elt c)
    (nc : gxC scope = true := by rfl) (dot : scope.names.lookup (".0" : Str) = some NameKind.local := by rfl) (co : scope.isCoroutine = false := by rfl) (fold : ∀ v, genFold iter X.env v = pure v := by intro _; rfl) : Gx X k tg iter elt ifs scope own ci g t c :=
  ⟨⟨cc, P, TB, hT, hcode⟩, room, hi, ok, gxC_ok nc, dot, co, fold, gsl, hg, ht, he⟩
theorem se_anyX {cc P : Addr} (G : Good X) (hG : Gl X "any") (hm : X.mg "any" = none) (TB : TabB X.base X.mg cc P) (hT : Tb.T P) (hcode : X.env.code = .ref cc) (room : Room (k + 1) X.A) (hi : SJ X tg iter ci) (ok : BlkOk X.N X.env.scope scope own) (gsl : GSl g (own.map (·.2)))
    (hg : ∀ (s : Shared) (H : Hp) (A : Around) (C : Addr) (code : Value) (fp : List Addr), Good (X.gx s H A (genEnv scope (cloFrom X.env.cells scope.names []) C code builtinsNs X.env) fp) → Room k A → SG (X.gx s H A (genEnv scope (cloFrom X.env.cells scope.names []) C code builtinsNs X.env) fp) tg g)
    (ht : ∀ (s : Shared) (H : Hp) (A : Around) (C : Addr) (code : Value) (fp : List Addr), Good (X.gx s H A (genEnv scope (cloFrom X.env.cells scope.names []) C code builtinsNs X.env) fp) → Room k A → SBs (X.gx s H A (genEnv scope (cloFrom X.env.cells scope.names []) C code builtinsNs X.env) fp) ifs t)
    (he : ∀ (s : Shared) (H : Hp) (A : Around) (C : Addr) (code : Value) (fp : List Addr), Good (X.gx s H A (genEnv scope (cloFrom X.env.cells scope.names []) C code builtinsNs X.env) fp) → Room k A → SE (X.gx s H A (genEnv scope (cloFrom X.env.cells scope.names []) C code builtinsNs X.env) fp) elt c)
    (nc : gxC scope = true := by rfl) (dot : scope.names.lookup (".0" : Str) = some NameKind.local := by rfl) (co : scope.isCoroutine = false := by rfl) (fold : ∀ v, genFold iter X.env v = pure v := by intro _; rfl)
    (hst : starEach [.GeneratorExp elt [⟨tg, iter, ifs, 0⟩] scope gpos] X.env = (false, eval (.GeneratorExp elt [⟨tg, iter, ifs, 0⟩] scope gpos) X.env) :: starEach [] X.env := by rfl) :
    SE X (.Call (.Name "any" p) [.GeneratorExp elt [⟨tg, iter, ifs, 0⟩] scope gpos] [] pos) (cQ true ci g t c (own.map (·.2))) := se_anyG G hG hm (gx_mk TB hT hcode room hi ok gsl hg ht he nc dot co fold) hst
theorem se_allX {cc P : Addr} (G : Good X) (hG : Gl X "all") (hm : X.mg "all" = none) (TB : TabB X.base X.mg cc P) (hT : Tb.T P) (hcode : X.env.code = .ref cc) (room : Room (k + 1) X.A) (hi : SJ X tg iter ci) (ok : BlkOk X.N X.env.scope scope own) (gsl : GSl g (own.map (·.2)))
    (hg : ∀ (s : Shared) (H : Hp) (A : Around) (C : Addr) (code : Value) (fp : List Addr), Good (X.gx s H A (genEnv scope (cloFrom X.env.cells scope.names []) C code builtinsNs X.env) fp) → Room k A → SG (X.gx s H A (genEnv scope (cloFrom X.env.cells scope.names []) C code builtinsNs X.env) fp) tg g)
    (ht : ∀ (s : Shared) (H : Hp) (A : Around) (C : Addr) (code : Value) (fp : List Addr), Good (X.gx s H A (genEnv scope (cloFrom X.env.cells scope.names []) C code builtinsNs X.env) fp) → Room k A → SBs (X.gx s H A (genEnv scope (cloFrom X.env.cells scope.names []) C code builtinsNs X.env) fp) ifs t)
    (he : ∀ (s : Shared) (H : Hp) (A : Around) (C : Addr) (code : Value) (fp : List Addr), Good (X.gx s H A (genEnv scope (cloFrom X.env.cells scope.names []) C code builtinsNs X.env) fp) → Room k A → SE (X.gx s H A (genEnv scope (cloFrom X.env.cells scope.names []) C code builtinsNs X.env) fp) elt c)
    (nc : gxC scope = true := by rfl) (dot : scope.names.lookup (".0" : Str) = some NameKind.local := by rfl) (co : scope.isCoroutine = false := by rfl) (fold : ∀ v, genFold iter X.env v = pure v := by intro _; rfl)
    (hst : starEach [.GeneratorExp elt [⟨tg, iter, ifs, 0⟩] scope gpos] X.env = (false, eval (.GeneratorExp elt [⟨tg, iter, ifs, 0⟩] scope gpos) X.env) :: starEach [] X.env := by rfl) :
    SE X (.Call (.Name "all" p) [.GeneratorExp elt [⟨tg, iter, ifs, 0⟩] scope gpos] [] pos) (cQ false ci g t c (own.map (·.2))) := se_allG G hG hm (gx_mk TB hT hcode room hi ok gsl hg ht he nc dot co fold) hst
end
section
variable {P : Program} {w : World} {K : PySem.W.Frag} {mg : Str → Option Value} {base : Heap}
structure FunC (K : PySem.W.Frag) (x qual : Str) (st : Stmt) (f : Addr) (fd : FuncData) (cdv : Value) : Prop where
  ex : ∃ (oc : Value) (od : Option Addr) (kV doc pm : Value) (an : Option Addr) (ct : Value) (osl : Array (Option Value)),
    fd = PySem.W.fnOf x qual (defArgs st) (defBody st) (defScope st) .none kV doc pm an cdv ct ∧ K.lookup f = some ⟨oc, od, .func fd, osl⟩ ∧ PySem.W.codeIn K cdv qual = true
  kp : PySem.W.keepIn K (.ref f) = true
theorem funC_mk {x qual : Str} {st : Stmt} {f : Addr} {oc : Value} {od an : Option Addr} {osl : Array (Option Value)} {kV doc pm cdv ct : Value} (l : K.lookup f = some ⟨oc, od, .func (PySem.W.fnOf x qual (defArgs st) (defBody st) (defScope st) .none kV doc pm an cdv ct), osl⟩)
    (c : PySem.W.codeIn K cdv qual = true) (k : PySem.W.keepIn K (.ref f) = true) : FunC K x qual st f (PySem.W.fnOf x qual (defArgs st) (defBody st) (defScope st) .none kV doc pm an cdv ct) cdv := ⟨⟨oc, od, kV, doc, pm, an, ct, osl, rfl, l, c⟩, k⟩
theorem FunC.fun {x qual : Str} {st : Stmt} {f : Addr} {fd : FuncData} {cdv : Value} (F : FunC K x qual st f fd cdv) : Fun K x qual st f fd := by
  obtain ⟨oc, od, kV, doc, pm, an, ct, osl, e, lk, hcd⟩ := F.ex
  exact ⟨⟨oc, od, kV, doc, pm, an, cdv, ct, osl, e, lk, hcd⟩, F.kp⟩
theorem fn_okC {x qual : Str} {st : Stmt} {f : Addr} {fd : FuncData} {cdv : Value} {N ps : List Str} {k : Nat} {cs : CS} (F : FunC K x qual st f fd cdv) (S : FnScope N ps (defScope st)) (hN : ps.length ≤ N.length)
    (hbody : ∀ (A : Around) (outer : List Env) (s : Shared) (H : Hp) (E : XK), Room k (A.deeper (envOfC qual (defScope st) s.heap.objs.size f cdv)) → Good (cxOf CX0 P w K mg base N qual (defScope st) f cdv A outer s H E).nox →
      SSs (cxOf CX0 P w K mg base N qual (defScope st) f cdv A outer s H E).nox (defBody st) cs) : FnOk P w K mg base CX0 (k + 1) f fd ps (spF ⟨K, mg, Tb.T⟩ ps.length (cFn N.length ps.length cs)) := by
  obtain ⟨oc, od, kV, doc, pm, an, ct, osl, rfl, lk, hcd⟩ := F.ex
  refine fn_of lk hcd S (fun vs H Q E h => h.1) fun A outer s H vs Q E hr h => ?_
  have G : Good (cxOf CX0 P w K mg base N qual (defScope st) f cdv A outer s H E).nox := ⟨rfl, S.nd, by have := hr.un; show (A.deeper _).units + 150 < cLine; omega, PassesOwn.never⟩
  exact ⟨_, (hbody A outer s H E hr G).nox, fn_post h⟩
theorem cal_mkC {x qual : Str} {st : Stmt} {f : Addr} {fd : FuncData} {cdv : Value} {N ps : List Str} {k : Nat} {cs : CS} (F : FunC K x qual st f fd cdv) (gm : mg x = some (.ref f)) (S : FnScope N ps (defScope st)) (hN : ps.length ≤ N.length) (b : Binds K fd ps [])
    (hbody : ∀ (A : Around) (outer : List Env) (s : Shared) (H : Hp) (E : XK), Room k (A.deeper (envOfC qual (defScope st) s.heap.objs.size f cdv)) → Good (cxOf CX0 P w K mg base N qual (defScope st) f cdv A outer s H E).nox →
      SSs (cxOf CX0 P w K mg base N qual (defScope st) f cdv A outer s H E).nox (defBody st) cs) : Cal P w K mg base (k + 1) x ps.length (cFn N.length ps.length cs) := ⟨f, fd, ps, fn_okC F S hN hbody, gm, F.kp, b⟩
end
end M

namespace M
open PySem PySem.Spec PyProof.Rows L2
def LawTrue (f : List U → Mh → Option (U × Mh)) : Prop := ∀ ns : List Int, ns.length ≤ 63 → (∀ z ∈ ns, Builtin.Int.intBits z ≤ 1048576) → ∃ m', f [.scr ns] [] = some (.d (.bool true), m')
abbrev tbOf (cs : List (Addr × Addr)) : Tb := ⟨fun P => ∃ p ∈ cs, p.2 = P⟩
theorem sp_of {f : List U → Mh → Option (U × Mh)} (L : LawTrue f) {K : PySem.W.Frag} {mg : Str → Option Value} {cs : List (Addr × Addr)} {H : Hp} {a : Addr} {ns : List Int} (hl : ns.length ≤ 63) (hb : ∀ z ∈ ns, Builtin.Int.intBits z ≤ 1048576)
    (hc : ∀ p ∈ cs, H p.2 = some (.tbl #[])) (hS : SqL K H a (ns.map V.int)) (E : XK) : spF ⟨K, mg, (tbOf cs).T⟩ 1 f [.ref a] H (fun v _ => v = .bl true) E := by
  obtain ⟨m', e⟩ := L ns hl hb
  have tb : ∀ P, (tbOf cs).T P → GxR.TabG H P := fun P ⟨p, hp, ep⟩ => ⟨#[], ep ▸ hc p hp, trivial⟩
  have fin : ∀ w : Wd, w.f = [] → (∀ b, w.F b → ∃ o, H b = some o ∧ ∀ ps, o ≠ .tbl ps) → RelU ⟨K, mg, (tbOf cs).T⟩ w H (.scr ns) (.ref a) → spF ⟨K, mg, (tbOf cs).T⟩ 1 f [.ref a] H (fun v _ => v = .bl true) E := fun w hw tF r => by
    refine ⟨rfl, w, [], [.scr ns], .d (.bool true), m', ⟨by rw [hw]; rfl, by rw [hw]; exact List.nodup_nil, fun r o b e1 _ => by simp at e1, fun b hb => (by rw [hw] at hb; cases hb), tF, tb⟩, ⟨.ref a, [], rfl, r, rfl⟩, rfl, e, fun w' H' v _ _ r' _ => r'⟩
  rcases hS with (h | ⟨o, h⟩) | h
  · refine fin ⟨fun b => b = a, []⟩ rfl (fun b z => ⟨_, z ▸ h, fun ps q => by cases q⟩) ⟨a, rfl, .inr (.inr ⟨a, _, rfl, rfl, h, RelDs.of_ints⟩)⟩
  · exact fin ⟨fun _ => False, []⟩ rfl (fun b z => z.elim) ⟨a, rfl, .inl ⟨o, h⟩⟩
  · exact fin ⟨fun _ => False, []⟩ rfl (fun b z => z.elim) ⟨a, rfl, .inr (.inl h)⟩
def tabAt (K : PySem.W.Frag) (c : Addr) : Addr := match K.lookup c with
  | some ⟨_, _, .fields vs, _⟩ => (match (vs[11]? : Option Value) with
    | some (.ref P) => P
    | _ => 0)
  | _ => 0
theorem spF_ct {C : Ct} {n : Nat} {f : List U → Mh → Option (U × Mh)} {vs : List V} {H : Hp} {Q : VK} {E : XK} (h : spF C n f vs H Q E) : spF C n f vs H Q E := h
theorem walk_tabs {l : PySem.W.OpenLaw} {n k : Nat} {q : Program} {loose : List Str} {XP : (Str → Option Value) → Heap → Prop} {YP : World → Heap → Prop} {d : DefRec} {K : Params → PySem.W.Frag} {CX : World → CXT} {x : Str}
    (hn : l.most = some n) (hn2 : n ≤ sizeLine) (hdf : d.params.defaults = []) (hr : Room k callerA) (hY : ∀ (w : World) (h : Heap), YP w h → (K w.params).In h)
    (F : ∀ (w : World) (mg : Str → Option Value) (fa : Addr) (h : Heap), YP w h → (K w.params).In h → h.Ns mainGlobals mg → mg d.name = some (.ref fa) →
      (∀ (y : Str) (c P : Addr), ((recsOf q).find? fun e => e.name == y).isSome = true → PySem.W.tabIn (K w.params) y = some (c, P) → PySem.W.CodeHd h c P ∧ h.get? P = some { cls := .none, data := .fields #[] }) → LamX.LawAtS l w (K w.params) (CX w) k n x mg fa h)
    (hCX : ∀ (w : World) (H : Hp) (s : Shared) (e : Value) (s' : Shared), CX w [] H s (fun _ _ _ => False) e s' → False) :
    PySem.W.WalkO q loose XP YP l.row.toRowW d [] (fun f vs => PySem.call f vs) := by
  refine Att.attach_callB hn hdf fun w s₀ s₁ mg mb fa o pm cd doc a vs ns G Y ho hd hcd hmg hobj hints hlen hbits hg => ?_
  have KX := hY w _ Y
  obtain ⟨fd, cs, sp, hT, nT, C, hb, hsp, hF⟩ := F w mg fa _ Y KX G.T.g hmg fun y c P hy ht => by
    obtain ⟨dd, hdd⟩ := Option.isSome_iff_exists.mp hy
    exact PySem.W.tab_of G.T KX hdd ht
  exact LamX.law_callTs KX G.T.g G.T.b G.T.builtins G.T.nolimit hg hT nT C G.T.bmain hobj hints (Nat.le_trans hlen hn2) hr hF hb (fun H hH hS => hsp H a ns hlen hbits hH hS) fun H e s' => hCX w H s₁ e s'
end M

namespace M
open PySem PySem.Spec PyProof.Rows L2
namespace K57
def topS (i : Nat) : Stmt := PySem.Challenge.pw_allsounded_k57_commas_and_spelled_names.main.body.getD i (.Pass ⟨0, 0, 0, 0⟩)
def k_PRIMES : List D := [.int 2, .int 3, .int 5, .int 7, .int 11, .int 13, .int 17, .int 19]
def vs_PRIMES : List V := [.int 2, .int 3, .int 5, .int 7, .int 11, .int 13, .int 17, .int 19]
theorem r_PRIMES : RelC0 k_PRIMES vs_PRIMES := fun _ _ => by unfold k_PRIMES vs_PRIMES; repeat first | exact rfl | refine ⟨_, _, rfl, rfl, ?_⟩
def k_LETTERS : D := .str "FCGDAEB"
def v_LETTERS : V := .str "FCGDAEB"
theorem x_LETTERS : ∀ F H, RelD F H k_LETTERS v_LETTERS := fun _ _ => rfl
def k_SCALE : D := .str "CDEFGAB"
def v_SCALE : V := .str "CDEFGAB"
theorem x_SCALE : ∀ F H, RelD F H k_SCALE v_SCALE := fun _ _ => rfl
def k_WHITE : List D := [.int 0, .int 2, .int 4, .int 5, .int 7, .int 9, .int 11]
def vs_WHITE : List V := [.int 0, .int 2, .int 4, .int 5, .int 7, .int 9, .int 11]
theorem r_WHITE : RelC0 k_WHITE vs_WHITE := fun _ _ => by unfold k_WHITE vs_WHITE; repeat first | exact rfl | refine ⟨_, _, rfl, rfl, ?_⟩
section
variable {P : Program} {w : World} {K : PySem.W.Frag} {mg : Str → Option Value} {base : Heap} [Tb]
abbrev s_common_divisor : Stmt := topS 1
theorem sc_common_divisor : FnScope ["one", "two"] ["one", "two"] (defScope s_common_divisor) := ⟨rfl, rfl, rfl, by decide +kernel, rfl, by decide +kernel, by decide +kernel⟩
def w1_common_divisor_t : CB := (bTru (cVar 1))
def w1_common_divisor_b : CS := (sSeq (sPar [0, 1] (caCons (cVar 1) (caCons (cMod (cVar 0) (cVar 1)) caNil)))
  sSkip)
def b_common_divisor : CS :=
  (sSeq (sWhile fuel0 w1_common_divisor_t w1_common_divisor_b)
  (sSeq (sRet (cRt (cAbs (cVar 0))))
  sSkip))
def f_common_divisor : List U → Mh → Option (U × Mh) := cFn 2 2 b_common_divisor
theorem c_common_divisor {f : Addr} {fd : FuncData} (F : Fun K "common_divisor" "common_divisor" s_common_divisor f fd) (gm : mg "common_divisor" = some (.ref f)) (z_abs : mg "abs" = none) : Cal P w K mg base 1 "common_divisor" 2 f_common_divisor :=
  cal_mk F gm sc_common_divisor (by decide) (F.binds (ps := ["one", "two"]) fun _ _ _ _ _ _ us hl => match us, hl with | [_, _], _ => rfl) fun cdv A outer s H E hr G =>
  (sss_cons (ss_while (t := w1_common_divisor_t) (cs := w1_common_divisor_b) fuel0 G (sb_tru (se_var 1))
  (sss_cons (ss_par 0 1 G (sa_cons (se_var 1) (sa_cons (se_mod (se_var 0) (se_var 1)) sa_nil)))
  sss_nil))
  (sss_cons (ss_ret (sr_of (se_abs rfl z_abs (se_var 0))))
  sss_nil))
abbrev s_power : Stmt := topS 2
theorem sc_power : FnScope ["base", "exponent", "found", "here", "rest"] ["base", "exponent"] (defScope s_power) := ⟨rfl, rfl, rfl, by decide +kernel, rfl, by decide +kernel, by decide +kernel⟩
def w1_power_t : CB := (bTru (cVar 4))
def w1_power_b : CS := (sSeq (sIf (bTru (cMod (cVar 4) (cC (.int 2))))
  (sSeq (sAug 2 iMulG (cVar 3))
  sSkip)
  sSkip)
  (sSeq (sAug 4 fdivG (cC (.int 2)))
  (sSeq (sIf (bTru (cVar 4))
  (sSeq (sAug 3 iMulG (cVar 3))
  sSkip)
  sSkip)
  sSkip)))
def b_power : CS :=
  (sSeq (sPar [2, 3, 4] (caCons (cC (.int 1)) (caCons (cVar 0) (caCons (cVar 1) caNil))))
  (sSeq (sWhile fuel0 w1_power_t w1_power_b)
  (sSeq (sRet (cHand 2))
  sSkip)))
def f_power : List U → Mh → Option (U × Mh) := cFn 5 2 b_power
theorem c_power {f : Addr} {fd : FuncData} (F : Fun K "power" "power" s_power f fd) (gm : mg "power" = some (.ref f)) : Cal P w K mg base 1 "power" 2 f_power :=
  cal_mk F gm sc_power (by decide) (F.binds (ps := ["base", "exponent"]) fun _ _ _ _ _ _ us hl => match us, hl with | [_, _], _ => rfl) fun cdv A outer s H E hr G =>
  (sss_cons (ss_par3 2 3 4 G (sa_cons se_int (sa_cons (se_var 0) (sa_cons (se_var 1) sa_nil))))
  (sss_cons (ss_while (t := w1_power_t) (cs := w1_power_b) fuel0 G (sb_tru (se_var 4))
  (sss_cons (ss_if (sb_tru (se_mod (se_var 4) se_int))
  (sss_cons (ss_augMul 2 G (se_var 3))
  sss_nil)
  sss_nil)
  (sss_cons (ss_augFdiv 4 G se_int)
  (sss_cons (ss_if (sb_tru (se_var 4))
  (sss_cons (ss_augMul 3 G (se_var 3))
  sss_nil)
  sss_nil)
  sss_nil))))
  (sss_cons (ss_ret (sr_hand 2))
  sss_nil)))
abbrev s_octaves_of : Stmt := topS 5
theorem sc_octaves_of : FnScope ["ratio", "above", "below", "found"] ["ratio"] (defScope s_octaves_of) := ⟨rfl, rfl, rfl, by decide +kernel, rfl, by decide +kernel, by decide +kernel⟩
def w1_octaves_of_t : CB := (bGe (cVar 1) (cMul (cC (.int 2)) (cVar 2)))
def w1_octaves_of_b : CS := (sSeq (sAug 2 iMulG (cC (.int 2)))
  (sSeq (sAug 3 iAddG (cC (.int 1)))
  sSkip))
def w2_octaves_of_t : CB := (bLt (cVar 1) (cVar 2))
def w2_octaves_of_b : CS := (sSeq (sAug 1 iMulG (cC (.int 2)))
  (sSeq (sAug 3 subG (cC (.int 1)))
  sSkip))
def b_octaves_of : CS :=
  (sSeq (sAsgG (gT 2 (gsC (gN 1) (gsC (gN 2) gsN))) (cVar 0))
  (sSeq (sAsg 3 (cC (.int 0)))
  (sSeq (sWhile fuel0 w1_octaves_of_t w1_octaves_of_b)
  (sSeq (sWhile fuel0 w2_octaves_of_t w2_octaves_of_b)
  (sSeq (sRet (cHand 3))
  sSkip)))))
def f_octaves_of : List U → Mh → Option (U × Mh) := cFn 4 1 b_octaves_of
theorem c_octaves_of {f : Addr} {fd : FuncData} (F : Fun K "octaves_of" "octaves_of" s_octaves_of f fd) (gm : mg "octaves_of" = some (.ref f)) : Cal P w K mg base 1 "octaves_of" 1 f_octaves_of :=
  cal_mk F gm sc_octaves_of (by decide) (F.binds (ps := ["ratio"]) fun _ _ _ _ _ _ us hl => match us, hl with | [_], _ => rfl) fun cdv A outer s H E hr G =>
  (sss_cons (have GG := G; ss_asgG (se_var 0) (sg_tup 2 GG (sgs_cons (sg_name 1 GG) (sgs_cons (sg_name 2 GG) sgs_nil))))
  (sss_cons (ss_asg 3 G se_int)
  (sss_cons (ss_while (t := w1_octaves_of_t) (cs := w1_octaves_of_b) fuel0 G (sb_ge G (se_var 1) (se_mul se_int (se_var 2)))
  (sss_cons (ss_augMul 2 G se_int)
  (sss_cons (ss_augAdd 3 G se_int)
  sss_nil)))
  (sss_cons (ss_while (t := w2_octaves_of_t) (cs := w2_octaves_of_b) fuel0 G (sb_lt G (se_var 1) (se_var 2))
  (sss_cons (ss_augMul 1 G se_int)
  (sss_cons (ss_augSub 3 G se_int)
  sss_nil)))
  (sss_cons (ss_ret (sr_hand 3))
  sss_nil)))))
abbrev s_steps_floor : Stmt := topS 6
theorem sc_steps_floor : FnScope ["ratio", "steps"] ["ratio", "steps"] (defScope s_steps_floor) := ⟨rfl, rfl, rfl, by decide +kernel, rfl, by decide +kernel, by decide +kernel⟩
def b_steps_floor : CS :=
  (sSeq (sRet (cRt (cCall f_octaves_of (caCons (cTup (caCons (cCall f_power (caCons (cIx (cVar 0) (cC (.int 0))) (caCons (cVar 1) caNil))) (caCons (cCall f_power (caCons (cIx (cVar 0) (cC (.int 1))) (caCons (cVar 1) caNil))) caNil))) caNil))))
  sSkip)
def f_steps_floor : List U → Mh → Option (U × Mh) := cFn 2 2 b_steps_floor
theorem c_steps_floor {f : Addr} {fd : FuncData} (F : Fun K "steps_floor" "steps_floor" s_steps_floor f fd) (gm : mg "steps_floor" = some (.ref f)) (c_octaves_of : Cal P w K mg base 1 "octaves_of" 1 f_octaves_of) (c_power : Cal P w K mg base 1 "power" 2 f_power) : Cal P w K mg base 2 "steps_floor" 2 f_steps_floor :=
  cal_mk F gm sc_steps_floor (by decide) (F.binds (ps := ["ratio", "steps"]) fun _ _ _ _ _ _ us hl => match us, hl with | [_, _], _ => rfl) fun cdv A outer s H E hr G =>
  (sss_cons (ss_ret (sr_of (se_call c_octaves_of hr (by decide) (fun _ _ _ _ e => cFn_len _ _ _ _ e) rfl (sa_cons (se_tup (sa_cons (se_call c_power hr (by decide) (fun _ _ _ _ e => cFn_len _ _ _ _ e) rfl (sa_cons (se_ix (se_var 0) se_int) (sa_cons (se_var 1) sa_nil))) (sa_cons (se_call c_power hr (by decide) (fun _ _ _ _ e => cFn_len _ _ _ _ e) rfl (sa_cons (se_ix (se_var 0) se_int) (sa_cons (se_var 1) sa_nil))) sa_nil))) sa_nil))))
  sss_nil)
abbrev s_is_half : Stmt := topS 8
theorem sc_is_half : FnScope ["ratio", "steps", "low", "above", "below", "wide"] ["ratio", "steps", "low"] (defScope s_is_half) := ⟨rfl, rfl, rfl, by decide +kernel, rfl, by decide +kernel, by decide +kernel⟩
def b_is_half : CS :=
  (sSeq (sPar [3, 4] (caCons (cCall f_power (caCons (cIx (cVar 0) (cC (.int 0))) (caCons (cMul (cC (.int 2)) (cVar 1)) caNil))) (caCons (cCall f_power (caCons (cIx (cVar 0) (cC (.int 1))) (caCons (cMul (cC (.int 2)) (cVar 1)) caNil))) caNil)))
  (sSeq (sAsg 5 (cAdd (cMul (cC (.int 2)) (cVar 2)) (cC (.int 1))))
  (sSeq (sIf (bGe (cVar 5) (cC (.int 0)))
  (sSeq (sRet (cRt (cEq (cVar 3) (cMul (cVar 4) (cCall f_power (caCons (cC (.int 2)) (caCons (cVar 5) caNil)))))))
  sSkip)
  sSkip)
  (sSeq (sRet (cRt (cEq (cMul (cVar 3) (cCall f_power (caCons (cC (.int 2)) (caCons (cNeg (cVar 5)) caNil)))) (cVar 4))))
  sSkip))))
def f_is_half : List U → Mh → Option (U × Mh) := cFn 6 3 b_is_half
theorem c_is_half {f : Addr} {fd : FuncData} (F : Fun K "is_half" "is_half" s_is_half f fd) (gm : mg "is_half" = some (.ref f)) (c_power : Cal P w K mg base 1 "power" 2 f_power) : Cal P w K mg base 2 "is_half" 3 f_is_half :=
  cal_mk F gm sc_is_half (by decide) (F.binds (ps := ["ratio", "steps", "low"]) fun _ _ _ _ _ _ us hl => match us, hl with | [_, _, _], _ => rfl) fun cdv A outer s H E hr G =>
  (sss_cons (ss_par 3 4 G (sa_cons (se_call c_power hr (by decide) (fun _ _ _ _ e => cFn_len _ _ _ _ e) rfl (sa_cons (se_ix (se_var 0) se_int) (sa_cons (se_mul se_int (se_var 1)) sa_nil))) (sa_cons (se_call c_power hr (by decide) (fun _ _ _ _ e => cFn_len _ _ _ _ e) rfl (sa_cons (se_ix (se_var 0) se_int) (sa_cons (se_mul se_int (se_var 1)) sa_nil))) sa_nil)))
  (sss_cons (ss_asg 5 G (se_add (se_mul se_int (se_var 2)) se_int))
  (sss_cons (ss_if (sb_ge G (se_var 5) se_int)
  (sss_cons (ss_ret (sr_of (se_eq G (se_var 3) (se_mul (se_var 4) (se_call c_power hr (by decide) (fun _ _ _ _ e => cFn_len _ _ _ _ e) rfl (sa_cons se_int (sa_cons (se_var 5) sa_nil)))))))
  sss_nil)
  sss_nil)
  (sss_cons (ss_ret (sr_of (se_eq G (se_mul (se_var 3) (se_call c_power hr (by decide) (fun _ _ _ _ e => cFn_len _ _ _ _ e) rfl (sa_cons se_int (sa_cons (se_neg (se_var 5)) sa_nil)))) (se_var 4))))
  sss_nil))))
abbrev s_nearest_steps : Stmt := topS 7
theorem sc_nearest_steps : FnScope ["ratio", "steps", "low", "doubled"] ["ratio", "steps"] (defScope s_nearest_steps) := ⟨rfl, rfl, rfl, by decide +kernel, rfl, by decide +kernel, by decide +kernel⟩
def b_nearest_steps : CS :=
  (sSeq (sAsg 2 (cCall f_steps_floor (caCons (cVar 0) (caCons (cVar 1) caNil))))
  (sSeq (sAsg 3 (cCall f_steps_floor (caCons (cVar 0) (caCons (cMul (cC (.int 2)) (cVar 1)) caNil))))
  (sSeq (sIf (bEq (cVar 3) (cMul (cC (.int 2)) (cVar 2)))
  (sSeq (sRet (cHand 2))
  sSkip)
  sSkip)
  (sSeq (sRet (cIf (bTru (cCall f_is_half (caCons (cVar 0) (caCons (cVar 1) (caCons (cVar 2) caNil))))) (cHand 2) (cRt (cAdd (cVar 2) (cC (.int 1))))))
  sSkip))))
def f_nearest_steps : List U → Mh → Option (U × Mh) := cFn 4 2 b_nearest_steps
theorem c_nearest_steps {f : Addr} {fd : FuncData} (F : Fun K "nearest_steps" "nearest_steps" s_nearest_steps f fd) (gm : mg "nearest_steps" = some (.ref f)) (c_is_half : Cal P w K mg base 2 "is_half" 3 f_is_half) (c_steps_floor : Cal P w K mg base 2 "steps_floor" 2 f_steps_floor) : Cal P w K mg base 3 "nearest_steps" 2 f_nearest_steps :=
  cal_mk F gm sc_nearest_steps (by decide) (F.binds (ps := ["ratio", "steps"]) fun _ _ _ _ _ _ us hl => match us, hl with | [_, _], _ => rfl) fun cdv A outer s H E hr G =>
  (sss_cons (ss_asg 2 G (se_call c_steps_floor hr (by decide) (fun _ _ _ _ e => cFn_len _ _ _ _ e) rfl (sa_cons (se_var 0) (sa_cons (se_var 1) sa_nil))))
  (sss_cons (ss_asg 3 G (se_call c_steps_floor hr (by decide) (fun _ _ _ _ e => cFn_len _ _ _ _ e) rfl (sa_cons (se_var 0) (sa_cons (se_mul se_int (se_var 1)) sa_nil))))
  (sss_cons (ss_if (sb_eq G (se_var 3) (se_mul se_int (se_var 2)))
  (sss_cons (ss_ret (sr_hand 2))
  sss_nil)
  sss_nil)
  (sss_cons (ss_ret (sr_if (sb_tru (se_call c_is_half hr (by decide) (fun _ _ _ _ e => cFn_len _ _ _ _ e) rfl (sa_cons (se_var 0) (sa_cons (se_var 1) (sa_cons (se_var 2) sa_nil))))) (sr_hand 2) (sr_of (se_add (se_var 2) se_int))))
  sss_nil))))
abbrev s_dot : Stmt := topS 10
theorem sc_dot : FnScope ["one", "two", "first", "second"] ["one", "two"] (defScope s_dot) := ⟨rfl, rfl, rfl, by decide +kernel, rfl, by decide +kernel, by decide +kernel⟩
def e1_dot_e : CE := (cFz (cMul (cVar 2) (cVar 3)))
def b_dot : CS :=
  (sSeq (sRet (cRt (cSum (cLc (ciZip (cVar 0) (cVar 1)) (gT 2 (gsC (gN 2) (gsC (gN 3) gsN))) cbYes e1_dot_e [2, 3]))))
  sSkip)
def f_dot : List U → Mh → Option (U × Mh) := cFn 4 2 b_dot
theorem c_dot {f : Addr} {fd : FuncData} (F : Fun K "dot" "dot" s_dot f fd) (gm : mg "dot" = some (.ref f)) (z_sum : mg "sum" = none) (z_zip : mg "zip" = none) : Cal P w K mg base 1 "dot" 2 f_dot :=
  cal_mk F gm sc_dot (by decide) (F.binds (ps := ["one", "two"]) fun _ _ _ _ _ _ us hl => match us, hl with | [_, _], _ => rfl) fun cdv A outer s H E hr G =>
  (sss_cons (ss_ret (sr_of (se_sum G rfl z_sum (se_lc G (sj_of (si_zip rfl z_zip (se_var 0) (se_var 1))) (blkOk_by (own := [("first", 2), ("second", 3)]) (by rfl)) (fun _ _ _ _ _ G => have GG := G; (sg_tup 2 GG (sgs_cons (sg_name 2 GG) (sgs_cons (sg_name 3 GG) sgs_nil)))) (gsl_t (gsls_c (gsl_n (by decide)) (gsls_c (gsl_n (by decide)) gsls_n))) (fun _ _ _ _ _ G => have GG := G; sbs_nil) (fun _ _ _ _ _ G => have GG := G; (se_fz (se_mul (se_var 2) (se_var 3))))))))
  sss_nil)
abbrev s_less_times : Stmt := topS 11
theorem sc_less_times : FnScope ["one", "two", "factor", "first", "second"] ["one", "two", "factor"] (defScope s_less_times) := ⟨rfl, rfl, rfl, by decide +kernel, rfl, by decide +kernel, by decide +kernel⟩
def e1_less_times_e : CE := (cSub (cVar 3) (cMul (cVar 2) (cVar 4)))
def b_less_times : CS :=
  (sSeq (sRet (cRt (cTupOf (cLc (ciZip (cVar 0) (cVar 1)) (gT 2 (gsC (gN 3) (gsC (gN 4) gsN))) cbYes e1_less_times_e [3, 4]))))
  sSkip)
def f_less_times : List U → Mh → Option (U × Mh) := cFn 5 3 b_less_times
theorem c_less_times {f : Addr} {fd : FuncData} (F : Fun K "less_times" "less_times" s_less_times f fd) (gm : mg "less_times" = some (.ref f)) (z_tuple : mg "tuple" = none) (z_zip : mg "zip" = none) : Cal P w K mg base 1 "less_times" 3 f_less_times :=
  cal_mk F gm sc_less_times (by decide) (F.binds (ps := ["one", "two", "factor"]) fun _ _ _ _ _ _ us hl => match us, hl with | [_, _, _], _ => rfl) fun cdv A outer s H E hr G =>
  (sss_cons (ss_ret (sr_of (se_tupOf rfl z_tuple (se_lc G (sj_of (si_zip rfl z_zip (se_var 0) (se_var 1))) (blkOk_by (own := [("first", 3), ("second", 4)]) (by rfl)) (fun _ _ _ _ _ G => have GG := G; (sg_tup 2 GG (sgs_cons (sg_name 3 GG) (sgs_cons (sg_name 4 GG) sgs_nil)))) (gsl_t (gsls_c (gsl_n (by decide)) (gsls_c (gsl_n (by decide)) gsls_n))) (fun _ _ _ _ _ G => have GG := G; sbs_nil) (fun _ _ _ _ _ G => have GG := G; (se_sub (se_var 3) (se_mul (se_var 2) (se_var 4))))))))
  sss_nil)
abbrev s_first_place : Stmt := topS 16
theorem sc_first_place : FnScope ["row", "place", "number"] ["row"] (defScope s_first_place) := ⟨rfl, rfl, rfl, by decide +kernel, rfl, by decide +kernel, by decide +kernel⟩
def e1_first_place_e : CE := (cVar 1)
def e1_first_place_t : CB := (bTru (cVar 2))
def b_first_place : CS :=
  (sSeq (sRet (cRt (cIx (cLc (ciEnum (cVar 0)) (gT 2 (gsC (gN 1) (gsC (gN 2) gsN))) e1_first_place_t e1_first_place_e [1, 2]) (cC (.int 0)))))
  sSkip)
def f_first_place : List U → Mh → Option (U × Mh) := cFn 3 1 b_first_place
theorem c_first_place {f : Addr} {fd : FuncData} (F : Fun K "first_place" "first_place" s_first_place f fd) (gm : mg "first_place" = some (.ref f)) (z_enumerate : mg "enumerate" = none) : Cal P w K mg base 1 "first_place" 1 f_first_place :=
  cal_mk F gm sc_first_place (by decide) (F.binds (ps := ["row"]) fun _ _ _ _ _ _ us hl => match us, hl with | [_], _ => rfl) fun cdv A outer s H E hr G =>
  (sss_cons (ss_ret (sr_of (se_ix (se_lc G (sj_of (si_enum rfl z_enumerate (se_var 0))) (blkOk_by (own := [("place", 1), ("number", 2)]) (by rfl)) (fun _ _ _ _ _ G => have GG := G; (sg_tup 2 GG (sgs_cons (sg_name 1 GG) (sgs_cons (sg_name 2 GG) sgs_nil)))) (gsl_t (gsls_c (gsl_n (by decide)) (gsls_c (gsl_n (by decide)) gsls_n))) (fun _ _ _ _ _ G => have GG := G; (sbs_one (sb_tru (se_var 2)))) (fun _ _ _ _ _ G => have GG := G; (se_var 1))) se_int)))
  sss_nil)
abbrev s_cleared : Stmt := topS 15
theorem sc_cleared : FnScope ["rows", "made", "number", "place", "above"] ["rows"] (defScope s_cleared) := ⟨rfl, rfl, rfl, by decide +kernel, rfl, by decide +kernel, by decide +kernel⟩
def l1_cleared_b : CS := (sSeq (sSt 1 stoF (cVar 4) (cFz (cCall f_less_times (caCons (cIx (cVar 1) (cVar 4)) (caCons (cIx (cVar 1) (cVar 2)) (caCons (cFdiv (cIx (cIx (cVar 1) (cVar 4)) (cVar 3)) (cIx (cIx (cVar 1) (cVar 2)) (cVar 3))) caNil))))))
  sSkip)
def l2_cleared_b : CS := (sSeq (sAsg 3 (cCall f_first_place (caCons (cIx (cVar 1) (cVar 2)) caNil)))
  (sSeq (sFor (ciRng1 (cVar 2)) (gN 4) l1_cleared_b)
  sSkip))
def b_cleared : CS :=
  (sSeq (sAsgA 1 (cLstOf (cVar 0)))
  (sSeq (sFor (ciRng1 (cLen (cVar 1))) (gN 2) l2_cleared_b)
  (sSeq (sRet (cRt (cTupOf (cVar 1))))
  sSkip)))
def f_cleared : List U → Mh → Option (U × Mh) := cFn 5 1 b_cleared
theorem c_cleared {f : Addr} {fd : FuncData} (F : Fun K "cleared" "cleared" s_cleared f fd) (gm : mg "cleared" = some (.ref f)) (c_first_place : Cal P w K mg base 1 "first_place" 1 f_first_place) (c_less_times : Cal P w K mg base 1 "less_times" 3 f_less_times) (z_len : mg "len" = none) (z_list : mg "list" = none) (z_range : mg "range" = none) (z_tuple : mg "tuple" = none) : Cal P w K mg base 2 "cleared" 1 f_cleared :=
  cal_mk F gm sc_cleared (by decide) (F.binds (ps := ["rows"]) fun _ _ _ _ _ _ us hl => match us, hl with | [_], _ => rfl) fun cdv A outer s H E hr G =>
  (sss_cons (ss_asgA 1 G (se_lstOf rfl z_list (se_var 0)))
  (sss_cons (have GG := G; ss_for (cs := l2_cleared_b) G (si_rng1 rfl z_range (se_len rfl z_len (se_var 1))) (sg_name 2 GG)
  (sss_cons (ss_asg 3 G (se_call c_first_place hr (by decide) (fun _ _ _ _ e => cFn_len _ _ _ _ e) rfl (sa_cons (se_ix (se_var 1) (se_var 2)) sa_nil)))
  (sss_cons (have GG := G; ss_for (cs := l1_cleared_b) G (si_rng1 rfl z_range (se_var 2)) (sg_name 4 GG)
  (sss_cons (ss_st 1 set_list st_list (se_var 4) (se_call c_less_times hr (by decide) (fun _ _ _ _ e => cFn_len _ _ _ _ e) rfl (sa_cons (se_ix (se_var 1) (se_var 4)) (sa_cons (se_ix (se_var 1) (se_var 2)) (sa_cons (se_fdiv (se_ix (se_ix (se_var 1) (se_var 4)) (se_var 3)) (se_ix (se_ix (se_var 1) (se_var 2)) (se_var 3))) sa_nil)))))
  sss_nil))
  sss_nil)))
  (sss_cons (ss_ret (sr_of (se_tupOf rfl z_tuple (se_var 1))))
  sss_nil)))
abbrev s_least_row : Stmt := topS 13
theorem sc_least_row : FnScope ["rows", "column", "best", "row"] ["rows", "column"] (defScope s_least_row) := ⟨rfl, rfl, rfl, by decide +kernel, rfl, by decide +kernel, by decide +kernel⟩
def l1_least_row_b : CS := (sSeq (sIf (bLt (cAbs (cIx (cVar 3) (cVar 1))) (cAbs (cIx (cVar 2) (cVar 1))))
  (sSeq (sAsg 2 (cVar 3))
  sSkip)
  sSkip)
  sSkip)
def b_least_row : CS :=
  (sSeq (sAsg 2 (cIx (cVar 0) (cC (.int 0))))
  (sSeq (sFor (ciSeq (cSl (cVar 0) (coSome (cC (.int 1))) coNone)) (gN 3) l1_least_row_b)
  (sSeq (sRet (cHand 2))
  sSkip)))
def f_least_row : List U → Mh → Option (U × Mh) := cFn 4 2 b_least_row
theorem c_least_row {f : Addr} {fd : FuncData} (F : Fun K "least_row" "least_row" s_least_row f fd) (gm : mg "least_row" = some (.ref f)) (z_abs : mg "abs" = none) : Cal P w K mg base 1 "least_row" 2 f_least_row :=
  cal_mk F gm sc_least_row (by decide) (F.binds (ps := ["rows", "column"]) fun _ _ _ _ _ _ us hl => match us, hl with | [_, _], _ => rfl) fun cdv A outer s H E hr G =>
  (sss_cons (ss_asg 2 G (se_ix (se_var 0) se_int))
  (sss_cons (have GG := G; ss_for (cs := l1_least_row_b) G (si_seq (se_sl (se_var 0) (so_some se_int) so_none)) (sg_name 3 GG)
  (sss_cons (ss_if (sb_lt G (se_abs rfl z_abs (se_ix (se_var 3) (se_var 1))) (se_abs rfl z_abs (se_ix (se_var 2) (se_var 1))))
  (sss_cons (ss_asg 2 G (se_var 3))
  sss_nil)
  sss_nil)
  sss_nil))
  (sss_cons (ss_ret (sr_hand 2))
  sss_nil)))
abbrev s_with_sign : Stmt := topS 14
theorem sc_with_sign : FnScope ["row", "column", "number"] ["row", "column"] (defScope s_with_sign) := ⟨rfl, rfl, rfl, by decide +kernel, rfl, by decide +kernel, by decide +kernel⟩
def e1_with_sign_e : CE := (cNeg (cVar 2))
def b_with_sign : CS :=
  (sSeq (sRet (cIf (bGt (cIx (cVar 0) (cVar 1)) (cC (.int 0))) (cHand 0) (cRt (cTupOf (cLc (cjSeq (cVar 0)) (gN 2) cbYes e1_with_sign_e [2])))))
  sSkip)
def f_with_sign : List U → Mh → Option (U × Mh) := cFn 3 2 b_with_sign
theorem c_with_sign {f : Addr} {fd : FuncData} (F : Fun K "with_sign" "with_sign" s_with_sign f fd) (gm : mg "with_sign" = some (.ref f)) (z_tuple : mg "tuple" = none) : Cal P w K mg base 1 "with_sign" 2 f_with_sign :=
  cal_mk F gm sc_with_sign (by decide) (F.binds (ps := ["row", "column"]) fun _ _ _ _ _ _ us hl => match us, hl with | [_, _], _ => rfl) fun cdv A outer s H E hr G =>
  (sss_cons (ss_ret (sr_if (sb_gt G (se_ix (se_var 0) (se_var 1)) se_int) (sr_hand 0) (sr_of (se_tupOf rfl z_tuple (se_lc G (sj_seq (se_var 0)) (blkOk_by (own := [("number", 2)]) (by rfl)) (fun _ _ _ _ _ G => have GG := G; (sg_name 2 GG)) (gsl_n (by decide)) (fun _ _ _ _ _ G => have GG := G; sbs_nil) (fun _ _ _ _ _ G => have GG := G; (se_neg (se_var 2))))))))
  sss_nil)
abbrev s_in_steps : Stmt := topS 12
theorem sc_in_steps : FnScope ["rows", "left", "found", "column", "standing", "rest", "head", "others", "made", "row"] ["rows"] (defScope s_in_steps) := ⟨rfl, rfl, rfl, by decide +kernel, rfl, by decide +kernel, by decide +kernel⟩
def e1_in_steps_e : CE := (cTupOf (cVar 9))
def e1_in_steps_t : CB := (bTru (cAny (cVar 9)))
def e2_in_steps_e : CE := (cVar 9)
def e2_in_steps_t : CB := (bTru (cIx (cVar 9) (cVar 3)))
def e3_in_steps_e : CE := (cVar 9)
def e3_in_steps_t : CB := (bNot (bTru (cIx (cVar 9) (cVar 3))))
def e4_in_steps_e : CE := (cCall f_less_times (caCons (cVar 9) (caCons (cVar 6) (caCons (cFdiv (cIx (cVar 9) (cVar 3)) (cIx (cVar 6) (cVar 3))) caNil))))
def e5_in_steps_e : CE := (cVar 9)
def e5_in_steps_t : CB := (bTru (cIx (cVar 9) (cVar 3)))
def e6_in_steps_e : CE := (cVar 9)
def e6_in_steps_t : CB := (bAnd (bNot (bTru (cIx (cVar 9) (cVar 3)))) (bTru (cAny (cVar 9))))
def w1_in_steps_t : CB := (bGt (cLen (cVar 4)) (cC (.int 1)))
def w1_in_steps_b : CS := (sSeq (sAsg 6 (cCall f_least_row (caCons (cVar 4) (caCons (cVar 3) caNil))))
  (sSeq (sAsgA 7 (cLstOf (cVar 4)))
  (sSeq (sOwn 7 isL remF (caCons (cFz (cVar 6)) caNil))
  (sSeq (sAsg 8 (cFz (cLc (cjSeq (cVar 7)) (gN 9) cbYes e4_in_steps_e [9])))
  (sSeq (sAsg 4 (cFz (cAdd (cLst (caCons (cVar 6) caNil)) (cLc (cjSeq (cVar 8)) (gN 9) e5_in_steps_t e5_in_steps_e [9]))))
  (sSeq (sOwn 5 isL extF (caCons (cFz (cLc (cjSeq (cVar 8)) (gN 9) e6_in_steps_t e6_in_steps_e [9])) caNil))
  sSkip))))))
def w2_in_steps_t : CB := (bAnd (bTru (cVar 1)) (bLt (cVar 3) (cLen (cIx (cVar 1) (cC (.int 0))))))
def w2_in_steps_b : CS := (sSeq (sAsg 4 (cFz (cLc (cjSeq (cVar 1)) (gN 9) e2_in_steps_t e2_in_steps_e [9])))
  (sSeq (sAsgA 5 (cLc (cjSeq (cVar 1)) (gN 9) e3_in_steps_t e3_in_steps_e [9]))
  (sSeq (sWhile fuel0 w1_in_steps_t w1_in_steps_b)
  (sSeq (sIf (bTru (cVar 4))
  (sSeq (sOwn 2 isL appF (caCons (cFz (cCall f_with_sign (caCons (cIx (cVar 4) (cC (.int 0))) (caCons (cVar 3) caNil)))) caNil))
  sSkip)
  sSkip)
  (sSeq (sFzL 5 (sAsgG (gT 2 (gsC (gN 1) (gsC (gN 3) gsN))) (cTup (caCons (cVar 5) (caCons (cAdd (cVar 3) (cC (.int 1))) caNil)))))
  sSkip)))))
def b_in_steps : CS :=
  (sSeq (sAsg 1 (cFz (cLc (cjSeq (cVar 0)) (gN 9) e1_in_steps_t e1_in_steps_e [9])))
  (sSeq (sAsgA 2 (cLst caNil))
  (sSeq (sAsg 3 (cC (.int 0)))
  (sSeq (sWhile fuel0 w2_in_steps_t w2_in_steps_b)
  (sSeq (sFzL 2 (sRet (cRt (cCall f_cleared (caCons (cVar 2) caNil)))))
  sSkip)))))
def f_in_steps : List U → Mh → Option (U × Mh) := cFn 10 1 b_in_steps
theorem c_in_steps {f : Addr} {fd : FuncData} (F : Fun K "in_steps" "in_steps" s_in_steps f fd) (gm : mg "in_steps" = some (.ref f)) (c_cleared : Cal P w K mg base 2 "cleared" 1 f_cleared) (c_least_row : Cal P w K mg base 1 "least_row" 2 f_least_row) (c_less_times : Cal P w K mg base 1 "less_times" 3 f_less_times) (c_with_sign : Cal P w K mg base 1 "with_sign" 2 f_with_sign) (z_any : mg "any" = none) (z_len : mg "len" = none) (z_list : mg "list" = none) (z_tuple : mg "tuple" = none) : Cal P w K mg base 3 "in_steps" 1 f_in_steps :=
  cal_mk F gm sc_in_steps (by decide) (F.binds (ps := ["rows"]) fun _ _ _ _ _ _ us hl => match us, hl with | [_], _ => rfl) fun cdv A outer s H E hr G =>
  (sss_cons (ss_lcF 1 G (sj_seq (se_var 0)) (blkOk_by (own := [("row", 9)]) (by rfl)) (fun _ _ _ _ _ G => have GG := G; (sg_name 9 GG)) (gsl_n (by decide)) (fun _ _ _ _ _ G => have GG := G; (sbs_one (sb_tru (se_any G rfl z_any (se_var 9))))) (fun _ _ _ _ _ G => have GG := G; (se_tupOf rfl z_tuple (se_var 9))))
  (sss_cons (ss_asgA 2 G (se_lst sa_nil))
  (sss_cons (ss_asg 3 G se_int)
  (sss_cons (ss_while (t := w2_in_steps_t) (cs := w2_in_steps_b) fuel0 G (sb_w (sw_and (sb_tru (se_var 1)) (sw_and1 (sb_lt G (se_var 3) (se_len rfl z_len (se_ix (se_var 1) se_int))))))
  (sss_cons (ss_lcF 4 G (sj_seq (se_var 1)) (blkOk_by (own := [("row", 9)]) (by rfl)) (fun _ _ _ _ _ G => have GG := G; (sg_name 9 GG)) (gsl_n (by decide)) (fun _ _ _ _ _ G => have GG := G; (sbs_one (sb_tru (se_ix (se_var 9) (se_var 3))))) (fun _ _ _ _ _ G => have GG := G; (se_var 9)))
  (sss_cons (ss_lcA 5 G (sj_seq (se_var 1)) (blkOk_by (own := [("row", 9)]) (by rfl)) (fun _ _ _ _ _ G => have GG := G; (sg_name 9 GG)) (gsl_n (by decide)) (fun _ _ _ _ _ G => have GG := G; (sbs_one (sb_not (sb_tru (se_ix (se_var 9) (se_var 3)))))) (fun _ _ _ _ _ G => have GG := G; (se_var 9)))
  (sss_cons (ss_while (t := w1_in_steps_t) (cs := w1_in_steps_b) fuel0 G (sb_gt G (se_len rfl z_len (se_var 4)) se_int)
  (sss_cons (ss_asg 6 G (se_call c_least_row hr (by decide) (fun _ _ _ _ e => cFn_len _ _ _ _ e) rfl (sa_cons (se_var 4) (sa_cons (se_var 3) sa_nil))))
  (sss_cons (ss_asgA 7 G (se_lstOf rfl z_list (se_var 4)))
  (sss_cons (ss_rem 7 G (se_var 6))
  (sss_cons (ss_lcF 8 G (sj_seq (se_var 7)) (blkOk_by (own := [("row", 9)]) (by rfl)) (fun _ _ _ _ _ G => have GG := G; (sg_name 9 GG)) (gsl_n (by decide)) (fun _ _ _ _ _ G => have GG := G; sbs_nil) (fun _ _ _ _ _ G => have GG := G; (se_call c_less_times hr (by decide) (fun _ _ _ _ e => cFn_len _ _ _ _ e) rfl (sa_cons (se_var 9) (sa_cons (se_var 6) (sa_cons (se_fdiv (se_ix (se_var 9) (se_var 3)) (se_ix (se_var 6) (se_var 3))) sa_nil))))))
  (sss_cons (ss_asg 4 G (se_fz (se_add (se_lst (sa_cons (se_var 6) sa_nil)) (se_lc G (sj_seq (se_var 8)) (blkOk_by (own := [("row", 9)]) (by rfl)) (fun _ _ _ _ _ G => have GG := G; (sg_name 9 GG)) (gsl_n (by decide)) (fun _ _ _ _ _ G => have GG := G; (sbs_one (sb_tru (se_ix (se_var 9) (se_var 3))))) (fun _ _ _ _ _ G => have GG := G; (se_var 9))))))
  (sss_cons (ss_ext 5 (se_lc G (sj_seq (se_var 8)) (blkOk_by (own := [("row", 9)]) (by rfl)) (fun _ _ _ _ _ G => have GG := G; (sg_name 9 GG)) (gsl_n (by decide)) (fun _ _ _ _ _ G => have GG := G; (sbs_one (sb_w (sw_and (sb_not (sb_tru (se_ix (se_var 9) (se_var 3)))) (sw_and1 (sb_tru (se_any G rfl z_any (se_var 9)))))))) (fun _ _ _ _ _ G => have GG := G; (se_var 9))))
  sss_nil)))))))
  (sss_cons (ss_if (sb_tru (se_var 4))
  (sss_cons (ss_app 2 (se_call c_with_sign hr (by decide) (fun _ _ _ _ e => cFn_len _ _ _ _ e) rfl (sa_cons (se_ix (se_var 4) se_int) (sa_cons (se_var 3) sa_nil))))
  sss_nil)
  sss_nil)
  (sss_cons (ss_fzl (have GG := G; ss_asgG (se_tup (sa_cons (se_var 5) (sa_cons (se_add (se_var 3) se_int) sa_nil))) (sg_tup 2 GG (sgs_cons (sg_name 1 GG) (sgs_cons (sg_name 3 GG) sgs_nil)))))
  sss_nil))))))
  (sss_cons (ss_fzl (ss_ret (sr_of (se_call c_cleared hr (by decide) (fun _ _ _ _ e => cFn_len _ _ _ _ e) rfl (sa_cons (se_var 2) sa_nil)))))
  sss_nil)))))
abbrev s_hidden_from : Stmt := topS 17
theorem sc_hidden_from : FnScope ["rows", "columns", "wide", "column", "mark", "many", "place", "row"] ["rows", "columns"] (defScope s_hidden_from) := ⟨rfl, rfl, rfl, by decide +kernel, rfl, by decide +kernel, by decide +kernel⟩
def e1_hidden_from_e : CE := (cInt (cEq (cVar 6) (cVar 3)))
def e2_hidden_from_e : CE := (cIx (cVar 7) (cVar 3))
def l1_hidden_from_b : CS := (sSeq (sAsg 4 (cTupOf (cLc (ciRng1 (cVar 1)) (gN 6) cbYes e1_hidden_from_e [6])))
  (sSeq (sOwn 2 isL appF (caCons (cFz (cAdd (cTupOf (cLc (cjSeq (cVar 0)) (gN 7) cbYes e2_hidden_from_e [7])) (cVar 4))) caNil))
  sSkip))
def e3_hidden_from_e : CE := (cFz (cSl (cVar 7) (coSome (cVar 5)) coNone))
def e3_hidden_from_t : CB := (bNot (bTru (cAny (cSl (cVar 7) coNone (coSome (cVar 5))))))
def b_hidden_from : CS :=
  (sSeq (sAsgA 2 (cLst caNil))
  (sSeq (sFor (ciRng1 (cVar 1)) (gN 3) l1_hidden_from_b)
  (sSeq (sAsg 5 (cLen (cVar 0)))
  (sSeq (sFzL 2 (sRet (cRt (cCall f_in_steps (caCons (cFz (cLc (cjSeq (cCall f_in_steps (caCons (cVar 2) caNil))) (gN 7) e3_hidden_from_t e3_hidden_from_e [7])) caNil)))))
  sSkip))))
def f_hidden_from : List U → Mh → Option (U × Mh) := cFn 8 2 b_hidden_from
theorem c_hidden_from {f : Addr} {fd : FuncData} (F : Fun K "hidden_from" "hidden_from" s_hidden_from f fd) (gm : mg "hidden_from" = some (.ref f)) (c_in_steps : Cal P w K mg base 3 "in_steps" 1 f_in_steps) (z_any : mg "any" = none) (z_int : mg "int" = none) (z_len : mg "len" = none) (z_range : mg "range" = none) (z_tuple : mg "tuple" = none) : Cal P w K mg base 4 "hidden_from" 2 f_hidden_from :=
  cal_mk F gm sc_hidden_from (by decide) (F.binds (ps := ["rows", "columns"]) fun _ _ _ _ _ _ us hl => match us, hl with | [_, _], _ => rfl) fun cdv A outer s H E hr G =>
  (sss_cons (ss_asgA 2 G (se_lst sa_nil))
  (sss_cons (have GG := G; ss_for (cs := l1_hidden_from_b) G (si_rng1 rfl z_range (se_var 1)) (sg_name 3 GG)
  (sss_cons (ss_asg 4 G (se_tupOf rfl z_tuple (se_lc G (sj_of (si_rng1 rfl z_range (se_var 1))) (blkOk_by (own := [("place", 6)]) (by rfl)) (fun _ _ _ _ _ G => have GG := G; (sg_name 6 GG)) (gsl_n (by decide)) (fun _ _ _ _ _ G => have GG := G; sbs_nil) (fun _ _ _ _ _ G => have GG := G; (se_int1 rfl z_int (se_eq G (se_var 6) (se_var 3)))))))
  (sss_cons (ss_app 2 (se_add (se_tupOf rfl z_tuple (se_lc G (sj_seq (se_var 0)) (blkOk_by (own := [("row", 7)]) (by rfl)) (fun _ _ _ _ _ G => have GG := G; (sg_name 7 GG)) (gsl_n (by decide)) (fun _ _ _ _ _ G => have GG := G; sbs_nil) (fun _ _ _ _ _ G => have GG := G; (se_ix (se_var 7) (se_var 3))))) (se_var 4)))
  sss_nil)))
  (sss_cons (ss_asg 5 G (se_len rfl z_len (se_var 0)))
  (sss_cons (ss_fzl (ss_ret (sr_of (se_call c_in_steps hr (by decide) (fun _ _ _ _ e => cFn_len _ _ _ _ e) rfl (sa_cons (se_fz (se_lc G (sj_seq (se_call c_in_steps hr (by decide) (fun _ _ _ _ e => cFn_len _ _ _ _ e) rfl (sa_cons (se_var 2) sa_nil))) (blkOk_by (own := [("row", 7)]) (by rfl)) (fun _ _ _ _ _ G => have GG := G; (sg_name 7 GG)) (gsl_n (by decide)) (fun _ _ _ _ _ G => have GG := G; (sbs_one (sb_not (sb_tru (se_any G rfl z_any (se_sl (se_var 7) so_none (so_some (se_var 5)))))))) (fun _ _ _ _ _ G => have GG := G; (se_fz (se_sl (se_var 7) (so_some (se_var 5)) so_none))))) sa_nil)))))
  sss_nil))))
abbrev s_maps_of : Stmt := topS 18
theorem sc_maps_of : FnScope ["commas", "limit"] ["commas", "limit"] (defScope s_maps_of) := ⟨rfl, rfl, rfl, by decide +kernel, rfl, by decide +kernel, by decide +kernel⟩
def b_maps_of : CS :=
  (sSeq (sRet (cRt (cCall f_hidden_from (caCons (cVar 0) (caCons (cVar 1) caNil)))))
  sSkip)
def f_maps_of : List U → Mh → Option (U × Mh) := cFn 2 2 b_maps_of
theorem c_maps_of {f : Addr} {fd : FuncData} (F : Fun K "maps_of" "maps_of" s_maps_of f fd) (gm : mg "maps_of" = some (.ref f)) (c_hidden_from : Cal P w K mg base 4 "hidden_from" 2 f_hidden_from) : Cal P w K mg base 5 "maps_of" 2 f_maps_of :=
  cal_mk F gm sc_maps_of (by decide) (F.binds (ps := ["commas", "limit"]) fun _ _ _ _ _ _ us hl => match us, hl with | [_, _], _ => rfl) fun cdv A outer s H E hr G =>
  (sss_cons (ss_ret (sr_of (se_call c_hidden_from hr (by decide) (fun _ _ _ _ e => cFn_len _ _ _ _ e) rfl (sa_cons (se_var 0) (sa_cons (se_var 1) sa_nil)))))
  sss_nil)
abbrev s_commas_of : Stmt := topS 19
theorem sc_commas_of : FnScope ["maps", "limit"] ["maps", "limit"] (defScope s_commas_of) := ⟨rfl, rfl, rfl, by decide +kernel, rfl, by decide +kernel, by decide +kernel⟩
def b_commas_of : CS :=
  (sSeq (sRet (cRt (cCall f_hidden_from (caCons (cVar 0) (caCons (cVar 1) caNil)))))
  sSkip)
def f_commas_of : List U → Mh → Option (U × Mh) := cFn 2 2 b_commas_of
theorem c_commas_of {f : Addr} {fd : FuncData} (F : Fun K "commas_of" "commas_of" s_commas_of f fd) (gm : mg "commas_of" = some (.ref f)) (c_hidden_from : Cal P w K mg base 4 "hidden_from" 2 f_hidden_from) : Cal P w K mg base 5 "commas_of" 2 f_commas_of :=
  cal_mk F gm sc_commas_of (by decide) (F.binds (ps := ["maps", "limit"]) fun _ _ _ _ _ _ us hl => match us, hl with | [_, _], _ => rfl) fun cdv A outer s H E hr G =>
  (sss_cons (ss_ret (sr_of (se_call c_hidden_from hr (by decide) (fun _ _ _ _ e => cFn_len _ _ _ _ e) rfl (sa_cons (se_var 0) (sa_cons (se_var 1) sa_nil)))))
  sss_nil)
abbrev s_is_tempered : Stmt := topS 20
theorem sc_is_tempered : FnScope ["maps", "exponents", "one"] ["maps", "exponents"] (defScope s_is_tempered) := ⟨rfl, rfl, rfl, by decide +kernel, rfl, by decide +kernel, by decide +kernel⟩
def g1_is_tempered_e : CE := (cCall f_dot (caCons (cVar 2) (caCons (cVar 1) caNil)))
def b_is_tempered : CS :=
  (sSeq (sRet (cRt (cNotV (cQ true (cjSeq (cVar 0)) (gN 2) cbYes g1_is_tempered_e [2]))))
  sSkip)
def f_is_tempered : List U → Mh → Option (U × Mh) := cFn 3 2 b_is_tempered
theorem c_is_tempered {f cc PT : Addr} {fd : FuncData} (F : FunC K "is_tempered" "is_tempered" s_is_tempered f fd (.ref cc)) (TB : GxR.TabB base mg cc PT) (hT : Tb.T PT) (gm : mg "is_tempered" = some (.ref f)) (c_dot : Cal P w K mg base 1 "dot" 2 f_dot) (z_any : mg "any" = none) : Cal P w K mg base 3 "is_tempered" 2 f_is_tempered :=
  cal_mkC F gm sc_is_tempered (by decide) (F.fun.binds (ps := ["maps", "exponents"]) fun _ _ _ _ _ _ us hl => match us, hl with | [_, _], _ => rfl) fun A outer s H E hr G =>
  (sss_cons (ss_ret (sr_of (se_not (se_anyX (k := 1) G rfl z_any TB hT rfl (hr.mono (by decide)) (sj_seq (se_var 0)) (blkOk_by (own := [("one", 2)]) (by rfl)) (gsl_n (by decide)) (fun _ _ _ _ _ _ G hr => have GG := G; (sg_name 2 GG)) (fun _ _ _ _ _ _ G hr => have GG := G; sbs_nil) (fun _ _ _ _ _ _ G hr => have GG := G; (se_call c_dot hr (by decide) (fun _ _ _ _ e => cFn_len _ _ _ _ e) rfl (sa_cons (se_var 2) (sa_cons (se_var 1) sa_nil))))))))
  sss_nil)
abbrev s_freedom : Stmt := topS 21
theorem sc_freedom : FnScope ["commas", "limit"] ["commas", "limit"] (defScope s_freedom) := ⟨rfl, rfl, rfl, by decide +kernel, rfl, by decide +kernel, by decide +kernel⟩
def b_freedom : CS :=
  (sSeq (sRet (cRt (cLen (cCall f_maps_of (caCons (cVar 0) (caCons (cVar 1) caNil))))))
  sSkip)
def f_freedom : List U → Mh → Option (U × Mh) := cFn 2 2 b_freedom
theorem c_freedom {f : Addr} {fd : FuncData} (F : Fun K "freedom" "freedom" s_freedom f fd) (gm : mg "freedom" = some (.ref f)) (c_maps_of : Cal P w K mg base 5 "maps_of" 2 f_maps_of) (z_len : mg "len" = none) : Cal P w K mg base 6 "freedom" 2 f_freedom :=
  cal_mk F gm sc_freedom (by decide) (F.binds (ps := ["commas", "limit"]) fun _ _ _ _ _ _ us hl => match us, hl with | [_, _], _ => rfl) fun cdv A outer s H E hr G =>
  (sss_cons (ss_ret (sr_of (se_len rfl z_len (se_call c_maps_of hr (by decide) (fun _ _ _ _ e => cFn_len _ _ _ _ e) rfl (sa_cons (se_var 0) (sa_cons (se_var 1) sa_nil))))))
  sss_nil)
abbrev s_equal_map : Stmt := topS 22
theorem sc_equal_map : FnScope ["steps", "limit", "prime"] ["steps", "limit"] (defScope s_equal_map) := ⟨rfl, rfl, rfl, by decide +kernel, rfl, by decide +kernel, by decide +kernel⟩
def e1_equal_map_e : CE := (cCall f_nearest_steps (caCons (cTup (caCons (cVar 2) (caCons (cC (.int 1)) caNil))) (caCons (cVar 0) caNil)))
def b_equal_map : CS :=
  (sSeq (sRet (cRt (cTupOf (cLc (cjSeq (cGSl k_PRIMES coNone (coSome (cVar 1)))) (gN 2) cbYes e1_equal_map_e [2]))))
  sSkip)
def f_equal_map : List U → Mh → Option (U × Mh) := cFn 3 2 b_equal_map
theorem c_equal_map {f : Addr} {fd : FuncData} (F : Fun K "equal_map" "equal_map" s_equal_map f fd) (gm : mg "equal_map" = some (.ref f)) (c_nearest_steps : Cal P w K mg base 3 "nearest_steps" 2 f_nearest_steps) (z_tuple : mg "tuple" = none) {ga_PRIMES : Addr} (g_PRIMES : mg "PRIMES" = some (.ref ga_PRIMES)) (t_PRIMES : ∀ H, SqT K H ga_PRIMES (vs_PRIMES)) : Cal P w K mg base 4 "equal_map" 2 f_equal_map :=
  cal_mk F gm sc_equal_map (by decide) (F.binds (ps := ["steps", "limit"]) fun _ _ _ _ _ _ us hl => match us, hl with | [_, _], _ => rfl) fun cdv A outer s H E hr G =>
  (sss_cons (ss_ret (sr_of (se_tupOf rfl z_tuple (se_lc G (sj_seq (se_gsl (x := "PRIMES") rfl g_PRIMES t_PRIMES r_PRIMES so_none (so_some (se_var 1)))) (blkOk_by (own := [("prime", 2)]) (by rfl)) (fun _ _ _ _ _ G => have GG := G; (sg_name 2 GG)) (gsl_n (by decide)) (fun _ _ _ _ _ G => have GG := G; sbs_nil) (fun _ _ _ _ _ G => have GG := G; (se_call c_nearest_steps hr (by decide) (fun _ _ _ _ e => cFn_len _ _ _ _ e) rfl (sa_cons (se_tup (sa_cons (se_var 2) (sa_cons se_int sa_nil))) (sa_cons (se_var 0) sa_nil))))))))
  sss_nil)
abbrev s_equal_maps_up_to : Stmt := topS 23
theorem sc_equal_maps_up_to : FnScope ["most", "commas", "limit", "found", "steps", "made", "one"] ["most", "commas", "limit"] (defScope s_equal_maps_up_to) := ⟨rfl, rfl, rfl, by decide +kernel, rfl, by decide +kernel, by decide +kernel⟩
def g1_equal_maps_up_to_e : CE := (cEq (cCall f_dot (caCons (cVar 5) (caCons (cVar 6) caNil))) (cC (.int 0)))
def l1_equal_maps_up_to_b : CS := (sSeq (sAsg 5 (cCall f_equal_map (caCons (cVar 4) (caCons (cVar 2) caNil))))
  (sSeq (sIf (bTru (cQ false (cjSeq (cVar 1)) (gN 6) cbYes g1_equal_maps_up_to_e [6]))
  (sSeq (sOwn 3 isL appF (caCons (cFz (cVar 4)) caNil))
  sSkip)
  sSkip)
  sSkip))
def b_equal_maps_up_to : CS :=
  (sSeq (sAsgA 3 (cLst caNil))
  (sSeq (sFor (ciRng2 (cC (.int 1)) (cAdd (cVar 0) (cC (.int 1)))) (gN 4) l1_equal_maps_up_to_b)
  (sSeq (sRet (cHand 3))
  sSkip)))
def f_equal_maps_up_to : List U → Mh → Option (U × Mh) := cFn 7 3 b_equal_maps_up_to
theorem c_equal_maps_up_to {f cc PT : Addr} {fd : FuncData} (F : FunC K "equal_maps_up_to" "equal_maps_up_to" s_equal_maps_up_to f fd (.ref cc)) (TB : GxR.TabB base mg cc PT) (hT : Tb.T PT) (gm : mg "equal_maps_up_to" = some (.ref f)) (c_dot : Cal P w K mg base 1 "dot" 2 f_dot) (c_equal_map : Cal P w K mg base 4 "equal_map" 2 f_equal_map) (z_all : mg "all" = none) (z_range : mg "range" = none) : Cal P w K mg base 5 "equal_maps_up_to" 3 f_equal_maps_up_to :=
  cal_mkC F gm sc_equal_maps_up_to (by decide) (F.fun.binds (ps := ["most", "commas", "limit"]) fun _ _ _ _ _ _ us hl => match us, hl with | [_, _, _], _ => rfl) fun A outer s H E hr G =>
  (sss_cons (ss_asgA 3 G (se_lst sa_nil))
  (sss_cons (have GG := G; ss_for (cs := l1_equal_maps_up_to_b) G (si_rng2 rfl z_range se_int (se_add (se_var 0) se_int)) (sg_name 4 GG)
  (sss_cons (ss_asg 5 G (se_call c_equal_map hr (by decide) (fun _ _ _ _ e => cFn_len _ _ _ _ e) rfl (sa_cons (se_var 4) (sa_cons (se_var 2) sa_nil))))
  (sss_cons (ss_if (sb_tru (se_allX (k := 1) G rfl z_all TB hT rfl (hr.mono (by decide)) (sj_seq (se_var 1)) (blkOk_by (own := [("one", 6)]) (by rfl)) (gsl_n (by decide)) (fun _ _ _ _ _ _ G hr => have GG := G; (sg_name 6 GG)) (fun _ _ _ _ _ _ G hr => have GG := G; sbs_nil) (fun _ _ _ _ _ _ G hr => have GG := G; (se_eq G (se_call c_dot hr (by decide) (fun _ _ _ _ e => cFn_len _ _ _ _ e) rfl (sa_cons (se_var 5) (sa_cons (se_var 6) sa_nil))) se_int))))
  (sss_cons (ss_app 3 (se_var 4))
  sss_nil)
  sss_nil)
  sss_nil)))
  (sss_cons (ss_ret (sr_hand 3))
  sss_nil)))
abbrev s_steps_of : Stmt := topS 24
theorem sc_steps_of : FnScope ["mapping", "exponents"] ["mapping", "exponents"] (defScope s_steps_of) := ⟨rfl, rfl, rfl, by decide +kernel, rfl, by decide +kernel, by decide +kernel⟩
def b_steps_of : CS :=
  (sSeq (sRet (cRt (cCall f_dot (caCons (cVar 0) (caCons (cVar 1) caNil)))))
  sSkip)
def f_steps_of : List U → Mh → Option (U × Mh) := cFn 2 2 b_steps_of
theorem c_steps_of {f : Addr} {fd : FuncData} (F : Fun K "steps_of" "steps_of" s_steps_of f fd) (gm : mg "steps_of" = some (.ref f)) (c_dot : Cal P w K mg base 1 "dot" 2 f_dot) : Cal P w K mg base 2 "steps_of" 2 f_steps_of :=
  cal_mk F gm sc_steps_of (by decide) (F.binds (ps := ["mapping", "exponents"]) fun _ _ _ _ _ _ us hl => match us, hl with | [_, _], _ => rfl) fun cdv A outer s H E hr G =>
  (sss_cons (ss_ret (sr_of (se_call c_dot hr (by decide) (fun _ _ _ _ e => cFn_len _ _ _ _ e) rfl (sa_cons (se_var 0) (sa_cons (se_var 1) sa_nil)))))
  sss_nil)
abbrev s_lies_in : Stmt := topS 25
theorem sc_lies_in : FnScope ["steps", "row", "rest", "step", "place"] ["steps", "row"] (defScope s_lies_in) := ⟨rfl, rfl, rfl, by decide +kernel, rfl, by decide +kernel, by decide +kernel⟩
def l1_lies_in_b : CS := (sSeq (sAsg 4 (cCall f_first_place (caCons (cVar 3) caNil)))
  (sSeq (sIf (bTru (cMod (cIx (cVar 2) (cVar 4)) (cIx (cVar 3) (cVar 4))))
  (sSeq (sRet (cRt (cC (.bool false))))
  sSkip)
  sSkip)
  (sSeq (sAsg 2 (cCall f_less_times (caCons (cVar 2) (caCons (cVar 3) (caCons (cFdiv (cIx (cVar 2) (cVar 4)) (cIx (cVar 3) (cVar 4))) caNil)))))
  sSkip)))
def b_lies_in : CS :=
  (sSeq (sAsg 2 (cTupOf (cVar 1)))
  (sSeq (sFor (ciSeq (cVar 0)) (gN 3) l1_lies_in_b)
  (sSeq (sRet (cRt (cNotV (cAny (cVar 2)))))
  sSkip)))
def f_lies_in : List U → Mh → Option (U × Mh) := cFn 5 2 b_lies_in
theorem c_lies_in {f : Addr} {fd : FuncData} (F : Fun K "lies_in" "lies_in" s_lies_in f fd) (gm : mg "lies_in" = some (.ref f)) (c_first_place : Cal P w K mg base 1 "first_place" 1 f_first_place) (c_less_times : Cal P w K mg base 1 "less_times" 3 f_less_times) (z_any : mg "any" = none) (z_tuple : mg "tuple" = none) : Cal P w K mg base 2 "lies_in" 2 f_lies_in :=
  cal_mk F gm sc_lies_in (by decide) (F.binds (ps := ["steps", "row"]) fun _ _ _ _ _ _ us hl => match us, hl with | [_, _], _ => rfl) fun cdv A outer s H E hr G =>
  (sss_cons (ss_asg 2 G (se_tupOf rfl z_tuple (se_var 1)))
  (sss_cons (have GG := G; ss_for (cs := l1_lies_in_b) G (si_seq (se_var 0)) (sg_name 3 GG)
  (sss_cons (ss_asg 4 G (se_call c_first_place hr (by decide) (fun _ _ _ _ e => cFn_len _ _ _ _ e) rfl (sa_cons (se_var 3) sa_nil)))
  (sss_cons (ss_if (sb_tru (se_mod (se_ix (se_var 2) (se_var 4)) (se_ix (se_var 3) (se_var 4))))
  (sss_cons (ss_ret (sr_of se_bl))
  sss_nil)
  sss_nil)
  (sss_cons (ss_asg 2 G (se_call c_less_times hr (by decide) (fun _ _ _ _ e => cFn_len _ _ _ _ e) rfl (sa_cons (se_var 2) (sa_cons (se_var 3) (sa_cons (se_fdiv (se_ix (se_var 2) (se_var 4)) (se_ix (se_var 3) (se_var 4))) sa_nil)))))
  sss_nil))))
  (sss_cons (ss_ret (sr_of (se_not (se_any G rfl z_any (se_var 2)))))
  sss_nil)))
abbrev s_generator_of : Stmt := topS 26
theorem sc_generator_of : FnScope ["commas", "limit", "maps"] ["commas", "limit"] (defScope s_generator_of) := ⟨rfl, rfl, rfl, by decide +kernel, rfl, by decide +kernel, by decide +kernel⟩
def b_generator_of : CS :=
  (sSeq (sAsg 2 (cCall f_maps_of (caCons (cVar 0) (caCons (cVar 1) caNil))))
  (sSeq (sRet (cIf (bEq (cLen (cVar 2)) (cC (.int 2))) (cHand 2) (cRt (cC .none))))
  sSkip))
def f_generator_of : List U → Mh → Option (U × Mh) := cFn 3 2 b_generator_of
theorem c_generator_of {f : Addr} {fd : FuncData} (F : Fun K "generator_of" "generator_of" s_generator_of f fd) (gm : mg "generator_of" = some (.ref f)) (c_maps_of : Cal P w K mg base 5 "maps_of" 2 f_maps_of) (z_len : mg "len" = none) : Cal P w K mg base 6 "generator_of" 2 f_generator_of :=
  cal_mk F gm sc_generator_of (by decide) (F.binds (ps := ["commas", "limit"]) fun _ _ _ _ _ _ us hl => match us, hl with | [_, _], _ => rfl) fun cdv A outer s H E hr G =>
  (sss_cons (ss_asg 2 G (se_call c_maps_of hr (by decide) (fun _ _ _ _ e => cFn_len _ _ _ _ e) rfl (sa_cons (se_var 0) (sa_cons (se_var 1) sa_nil))))
  (sss_cons (ss_ret (sr_if (sb_eq G (se_len rfl z_len (se_var 2)) se_int) (sr_hand 2) (sr_of se_non)))
  sss_nil))
abbrev s_fifth_of : Stmt := topS 31
theorem sc_fifth_of : FnScope ["tone"] ["tone"] (defScope s_fifth_of) := ⟨rfl, rfl, rfl, by decide +kernel, rfl, by decide +kernel, by decide +kernel⟩
def b_fifth_of : CS :=
  (sSeq (sRet (cRt (cAdd (cSub (cMeth (cC k_LETTERS) isStr sindexF (caCons (cIx (cC k_SCALE) (cIx (cVar 0) (cC (.int 0)))) caNil)) (cC (.int 1))) (cMul (cC (.int 7)) (cIx (cVar 0) (cC (.int 1)))))))
  sSkip)
def f_fifth_of : List U → Mh → Option (U × Mh) := cFn 1 1 b_fifth_of
theorem c_fifth_of {f : Addr} {fd : FuncData} (F : Fun K "fifth_of" "fifth_of" s_fifth_of f fd) (gm : mg "fifth_of" = some (.ref f)) {gu_LETTERS : Value} (g_LETTERS : mg "LETTERS" = some gu_LETTERS) (r_LETTERS : RelV v_LETTERS gu_LETTERS) {gu_SCALE : Value} (g_SCALE : mg "SCALE" = some gu_SCALE) (r_SCALE : RelV v_SCALE gu_SCALE) : Cal P w K mg base 1 "fifth_of" 1 f_fifth_of :=
  cal_mk F gm sc_fifth_of (by decide) (F.binds (ps := ["tone"]) fun _ _ _ _ _ _ us hl => match us, hl with | [_], _ => rfl) fun cdv A outer s H E hr G =>
  (sss_cons (ss_ret (sr_of (se_add (se_sub (se_sindex (se_glob (x := "LETTERS") rfl g_LETTERS r_LETTERS x_LETTERS) (se_ix (se_glob (x := "SCALE") rfl g_SCALE r_SCALE x_SCALE) (se_ix (se_var 0) se_int))) se_int) (se_mul se_int (se_ix (se_var 0) se_int)))))
  sss_nil)
abbrev s_tone_at : Stmt := topS 32
theorem sc_tone_at : FnScope ["fifth", "place"] ["fifth"] (defScope s_tone_at) := ⟨rfl, rfl, rfl, by decide +kernel, rfl, by decide +kernel, by decide +kernel⟩
def b_tone_at : CS :=
  (sSeq (sAsg 1 (cMod (cAdd (cVar 0) (cC (.int 1))) (cC (.int 7))))
  (sSeq (sRet (cRt (cTup (caCons (cMeth (cC k_SCALE) isStr sindexF (caCons (cIx (cC k_LETTERS) (cVar 1)) caNil)) (caCons (cFdiv (cAdd (cVar 0) (cC (.int 1))) (cC (.int 7))) caNil)))))
  sSkip))
def f_tone_at : List U → Mh → Option (U × Mh) := cFn 2 1 b_tone_at
theorem c_tone_at {f : Addr} {fd : FuncData} (F : Fun K "tone_at" "tone_at" s_tone_at f fd) (gm : mg "tone_at" = some (.ref f)) {gu_LETTERS : Value} (g_LETTERS : mg "LETTERS" = some gu_LETTERS) (r_LETTERS : RelV v_LETTERS gu_LETTERS) {gu_SCALE : Value} (g_SCALE : mg "SCALE" = some gu_SCALE) (r_SCALE : RelV v_SCALE gu_SCALE) : Cal P w K mg base 1 "tone_at" 1 f_tone_at :=
  cal_mk F gm sc_tone_at (by decide) (F.binds (ps := ["fifth"]) fun _ _ _ _ _ _ us hl => match us, hl with | [_], _ => rfl) fun cdv A outer s H E hr G =>
  (sss_cons (ss_asg 1 G (se_mod (se_add (se_var 0) se_int) se_int))
  (sss_cons (ss_ret (sr_of (se_tup (sa_cons (se_sindex (se_glob (x := "SCALE") rfl g_SCALE r_SCALE x_SCALE) (se_ix (se_glob (x := "LETTERS") rfl g_LETTERS r_LETTERS x_LETTERS) (se_var 1))) (sa_cons (se_fdiv (se_add (se_var 0) se_int) se_int) sa_nil)))))
  sss_nil))
abbrev s_height_of : Stmt := topS 33
theorem sc_height_of : FnScope ["tone"] ["tone"] (defScope s_height_of) := ⟨rfl, rfl, rfl, by decide +kernel, rfl, by decide +kernel, by decide +kernel⟩
def b_height_of : CS :=
  (sSeq (sRet (cRt (cAdd (cAdd (cGIx k_WHITE (cIx (cVar 0) (cC (.int 0)))) (cIx (cVar 0) (cC (.int 1)))) (cMul (cC (.int 12)) (cIx (cVar 0) (cC (.int 2)))))))
  sSkip)
def f_height_of : List U → Mh → Option (U × Mh) := cFn 1 1 b_height_of
theorem c_height_of {f : Addr} {fd : FuncData} (F : Fun K "height_of" "height_of" s_height_of f fd) (gm : mg "height_of" = some (.ref f)) {ga_WHITE : Addr} (g_WHITE : mg "WHITE" = some (.ref ga_WHITE)) (t_WHITE : ∀ H, SqT K H ga_WHITE (vs_WHITE)) : Cal P w K mg base 1 "height_of" 1 f_height_of :=
  cal_mk F gm sc_height_of (by decide) (F.binds (ps := ["tone"]) fun _ _ _ _ _ _ us hl => match us, hl with | [_], _ => rfl) fun cdv A outer s H E hr G =>
  (sss_cons (ss_ret (sr_of (se_add (se_add (se_gix (x := "WHITE") rfl g_WHITE t_WHITE r_WHITE (se_ix (se_var 0) se_int)) (se_ix (se_var 0) se_int)) (se_mul se_int (se_ix (se_var 0) se_int)))))
  sss_nil)
abbrev s_degree_of : Stmt := topS 34
theorem sc_degree_of : FnScope ["tone"] ["tone"] (defScope s_degree_of) := ⟨rfl, rfl, rfl, by decide +kernel, rfl, by decide +kernel, by decide +kernel⟩
def b_degree_of : CS :=
  (sSeq (sRet (cRt (cAdd (cIx (cVar 0) (cC (.int 0))) (cMul (cC (.int 7)) (cIx (cVar 0) (cC (.int 2)))))))
  sSkip)
def f_degree_of : List U → Mh → Option (U × Mh) := cFn 1 1 b_degree_of
theorem c_degree_of {f : Addr} {fd : FuncData} (F : Fun K "degree_of" "degree_of" s_degree_of f fd) (gm : mg "degree_of" = some (.ref f)) : Cal P w K mg base 1 "degree_of" 1 f_degree_of :=
  cal_mk F gm sc_degree_of (by decide) (F.binds (ps := ["tone"]) fun _ _ _ _ _ _ us hl => match us, hl with | [_], _ => rfl) fun cdv A outer s H E hr G =>
  (sss_cons (ss_ret (sr_of (se_add (se_ix (se_var 0) se_int) (se_mul se_int (se_ix (se_var 0) se_int)))))
  sss_nil)
abbrev s_interval : Stmt := topS 35
theorem sc_interval : FnScope ["one", "two"] ["one", "two"] (defScope s_interval) := ⟨rfl, rfl, rfl, by decide +kernel, rfl, by decide +kernel, by decide +kernel⟩
def b_interval : CS :=
  (sSeq (sRet (cRt (cTup (caCons (cSub (cCall f_degree_of (caCons (cVar 1) caNil)) (cCall f_degree_of (caCons (cVar 0) caNil))) (caCons (cSub (cCall f_height_of (caCons (cVar 1) caNil)) (cCall f_height_of (caCons (cVar 0) caNil))) caNil)))))
  sSkip)
def f_interval : List U → Mh → Option (U × Mh) := cFn 2 2 b_interval
theorem c_interval {f : Addr} {fd : FuncData} (F : Fun K "interval" "interval" s_interval f fd) (gm : mg "interval" = some (.ref f)) (c_degree_of : Cal P w K mg base 1 "degree_of" 1 f_degree_of) (c_height_of : Cal P w K mg base 1 "height_of" 1 f_height_of) : Cal P w K mg base 2 "interval" 2 f_interval :=
  cal_mk F gm sc_interval (by decide) (F.binds (ps := ["one", "two"]) fun _ _ _ _ _ _ us hl => match us, hl with | [_, _], _ => rfl) fun cdv A outer s H E hr G =>
  (sss_cons (ss_ret (sr_of (se_tup (sa_cons (se_sub (se_call c_degree_of hr (by decide) (fun _ _ _ _ e => cFn_len _ _ _ _ e) rfl (sa_cons (se_var 1) sa_nil)) (se_call c_degree_of hr (by decide) (fun _ _ _ _ e => cFn_len _ _ _ _ e) rfl (sa_cons (se_var 0) sa_nil))) (sa_cons (se_sub (se_call c_height_of hr (by decide) (fun _ _ _ _ e => cFn_len _ _ _ _ e) rfl (sa_cons (se_var 1) sa_nil)) (se_call c_height_of hr (by decide) (fun _ _ _ _ e => cFn_len _ _ _ _ e) rfl (sa_cons (se_var 0) sa_nil))) sa_nil)))))
  sss_nil)
abbrev s_fifths_of : Stmt := topS 36
theorem sc_fifths_of : FnScope ["one"] ["one"] (defScope s_fifths_of) := ⟨rfl, rfl, rfl, by decide +kernel, rfl, by decide +kernel, by decide +kernel⟩
def b_fifths_of : CS :=
  (sSeq (sRet (cRt (cSub (cMul (cC (.int 7)) (cIx (cVar 0) (cC (.int 1)))) (cMul (cC (.int 12)) (cIx (cVar 0) (cC (.int 0)))))))
  sSkip)
def f_fifths_of : List U → Mh → Option (U × Mh) := cFn 1 1 b_fifths_of
theorem c_fifths_of {f : Addr} {fd : FuncData} (F : Fun K "fifths_of" "fifths_of" s_fifths_of f fd) (gm : mg "fifths_of" = some (.ref f)) : Cal P w K mg base 1 "fifths_of" 1 f_fifths_of :=
  cal_mk F gm sc_fifths_of (by decide) (F.binds (ps := ["one"]) fun _ _ _ _ _ _ us hl => match us, hl with | [_], _ => rfl) fun cdv A outer s H E hr G =>
  (sss_cons (ss_ret (sr_of (se_sub (se_mul se_int (se_ix (se_var 0) se_int)) (se_mul se_int (se_ix (se_var 0) se_int)))))
  sss_nil)
abbrev s__law_draw : Stmt := topS 38
theorem sc__law_draw : FnScope ["state", "limit", "position", "cell", "mixed", "digit"] ["state", "limit"] (defScope s__law_draw) := ⟨rfl, rfl, rfl, by decide +kernel, rfl, by decide +kernel, by decide +kernel⟩
def b__law_draw : CS :=
  (sSeq (sIf (bLt (cIx (cVar 0) (cC (.int 0))) (cVar 1))
  (sSeq (sAsg 2 (cIx (cVar 0) (cC (.int 1))))
  (sSeq (sStC stoF (cVar 0) (cC (.int 1)) (cFz (cAdd (cVar 2) (cC (.int 1)))))
  (sSeq (sAsg 3 (cC (.int 0)))
  (sSeq (sIf (bLt (cVar 2) (cLen (cIx (cVar 0) (cC (.int 2)))))
  (sSeq (sAsg 3 (cIx (cIx (cVar 0) (cC (.int 2))) (cVar 2)))
  sSkip)
  sSkip)
  (sSeq (sIf (bGe (cVar 3) (cPow (cC (.int 10)) (cC (.int 18))))
  (sSeq (sStC stoF (cVar 0) (cC (.int 0)) (cFz (cVar 3)))
  sSkip)
  (sSeq (sStC stoF (cVar 0) (cC (.int 3)) (cFz (cMod (cInt (cMul (cAdd (cAdd (cAdd (cIx (cVar 0) (cC (.int 3))) (cMod (cInt (cVar 3)) (cC (.int 2147483629)))) (cVar 2)) (cC (.int 1))) (cC (.int 48271)))) (cC (.int 2147483647)))))
  (sSeq (sAsg 4 (cMod (cInt (cAdd (cMul (cIx (cVar 0) (cC (.int 3))) (cC (.int 69621))) (cC (.int 11)))) (cC (.int 2147483629))))
  (sSeq (sStC stoF (cVar 0) (cC (.int 0)) (cFz (cAdd (cMul (cVar 4) (cC (.int 2147483647))) (cMod (cInt (cAdd (cMul (cVar 4) (cC (.int 30011))) (cIx (cVar 0) (cC (.int 3))))) (cC (.int 2147483587))))))
  sSkip))))
  sSkip)))))
  sSkip)
  (sSeq (sAsg 5 (cMod (cInt (cIx (cVar 0) (cC (.int 0)))) (cVar 1)))
  (sSeq (sStC stoF (cVar 0) (cC (.int 0)) (cFz (cFdiv (cIx (cVar 0) (cC (.int 0))) (cVar 1))))
  (sSeq (sRet (cHand 5))
  sSkip))))
def f__law_draw : List U → Mh → Option (U × Mh) := cFn 6 2 b__law_draw
theorem c__law_draw {f : Addr} {fd : FuncData} (F : Fun K "_law_draw" "_law_draw" s__law_draw f fd) (gm : mg "_law_draw" = some (.ref f)) (z_int : mg "int" = none) (z_len : mg "len" = none) : Cal P w K mg base 1 "_law_draw" 2 f__law_draw :=
  cal_mk F gm sc__law_draw (by decide) (F.binds (ps := ["state", "limit"]) fun _ _ _ _ _ _ us hl => match us, hl with | [_, _], _ => rfl) fun cdv A outer s H E hr G =>
  (sss_cons (ss_if (sb_lt G (se_ix (se_var 0) se_int) (se_var 1))
  (sss_cons (ss_asg 2 G (se_ix (se_var 0) se_int))
  (sss_cons (ss_stC set_list st_list (se_var 0) se_int (se_add (se_var 2) se_int))
  (sss_cons (ss_asg 3 G se_int)
  (sss_cons (ss_if (sb_lt G (se_var 2) (se_len rfl z_len (se_ix (se_var 0) se_int)))
  (sss_cons (ss_asg 3 G (se_ix (se_ix (se_var 0) se_int) (se_var 2)))
  sss_nil)
  sss_nil)
  (sss_cons (ss_if (sb_ge G (se_var 3) (se_pow se_int se_int))
  (sss_cons (ss_stC set_list st_list (se_var 0) se_int (se_var 3))
  sss_nil)
  (sss_cons (ss_stC set_list st_list (se_var 0) se_int (se_mod (se_int1 rfl z_int (se_mul (se_add (se_add (se_add (se_ix (se_var 0) se_int) (se_mod (se_int1 rfl z_int (se_var 3)) se_int)) (se_var 2)) se_int) se_int)) se_int))
  (sss_cons (ss_asg 4 G (se_mod (se_int1 rfl z_int (se_add (se_mul (se_ix (se_var 0) se_int) se_int) se_int)) se_int))
  (sss_cons (ss_stC set_list st_list (se_var 0) se_int (se_add (se_mul (se_var 4) se_int) (se_mod (se_int1 rfl z_int (se_add (se_mul (se_var 4) se_int) (se_ix (se_var 0) se_int))) se_int)))
  sss_nil))))
  sss_nil)))))
  sss_nil)
  (sss_cons (ss_asg 5 G (se_mod (se_int1 rfl z_int (se_ix (se_var 0) se_int)) (se_var 1)))
  (sss_cons (ss_stC set_list st_list (se_var 0) se_int (se_fdiv (se_ix (se_var 0) se_int) (se_var 1)))
  (sss_cons (ss_ret (sr_hand 5))
  sss_nil))))
abbrev s_law : Stmt := topS 39
theorem sc_law : FnScope ["script", "state", "comma", "sizes", "rows", "maps", "size", "mapping", "fifth", "one", "two", "first", "second", "gap", "fifths", "octaves", "row", "tall", "same", "period", "power_v", "moved", "third"] ["script"] (defScope s_law) := ⟨rfl, rfl, rfl, by decide +kernel, rfl, by decide +kernel, by decide +kernel⟩
def e1_law_e : CE := (cCall f_equal_map (caCons (cVar 6) (caCons (cC (.int 3)) caNil)))
def e2_law_e : CE := (cIx (cVar 16) (cC (.int 0)))
def e2_law_t : CB := (bEq (cSub (cMul (cC (.int 4)) (cIx (cVar 16) (cC (.int 1)))) (cMul (cC (.int 4)) (cIx (cVar 16) (cC (.int 0))))) (cIx (cVar 16) (cC (.int 2))))
def e3_law_e : CE := (cIn (cVar 6) (cVar 3))
def b_law : CS :=
  (sSeq (sAsg 1 (cNew (cLst (caCons (cC (.int 0)) (caCons (cC (.int 0)) (caCons (cFz (cLstOf (cVar 0))) (caCons (cC (.int 1)) caNil)))))))
  (sSeq (sAsg 2 (cTup (caCons (cSub (cC (.int 0)) (cC (.int 4))) (caCons (cC (.int 4)) (caCons (cSub (cC (.int 0)) (cC (.int 1))) caNil)))))
  (sSeq (sAsg 3 (cCall f_equal_maps_up_to (caCons (cC (.int 60)) (caCons (cTup (caCons (cVar 2) caNil)) (caCons (cC (.int 3)) caNil)))))
  (sSeq (sAsg 4 (cFz (cLc (ciRng2 (cC (.int 1)) (cC (.int 61))) (gN 6) cbYes e1_law_e [6])))
  (sSeq (sIf (bOr (bNe (cVar 3) (cLc (cjSeq (cVar 4)) (gN 16) e2_law_t e2_law_e [16])) (bNot (bTru (cAll (cLc (cjSeq (cLst (caCons (cC (.int 5)) (caCons (cC (.int 7)) (caCons (cC (.int 12)) (caCons (cC (.int 19)) (caCons (cC (.int 31)) caNil))))))) (gN 6) cbYes e3_law_e [6])))))
  (sSeq (sRet (cRt (cC (.bool false))))
  sSkip)
  sSkip)
  (sSeq (sAsg 5 (cCall f_maps_of (caCons (cTup (caCons (cVar 2) caNil)) (caCons (cC (.int 3)) caNil))))
  (sSeq (sIf (bOr (bNe (cCall f_freedom (caCons (cTup (caCons (cVar 2) caNil)) (caCons (cC (.int 3)) caNil))) (cC (.int 2))) (bOr (bNe (cCall f_generator_of (caCons (cTup (caCons (cVar 2) caNil)) (caCons (cC (.int 3)) caNil))) (cVar 5)) (bOr (bNe (cCall f_commas_of (caCons (cVar 5) (caCons (cC (.int 3)) caNil))) (cTup (caCons (cTup (caCons (cC (.int 4)) (caCons (cSub (cC (.int 0)) (cC (.int 4))) (caCons (cC (.int 1)) caNil)))) caNil))) (bNot (bTru (cCall f_is_tempered (caCons (cVar 5) (caCons (cVar 2) caNil))))))))
  (sSeq (sRet (cRt (cC (.bool false))))
  sSkip)
  sSkip)
  (sSeq (sAsg 6 (cIx (cVar 3) (cCall f__law_draw (caCons (cVar 1) (caCons (cLen (cVar 3)) caNil)))))
  (sSeq (sAsg 7 (cCall f_equal_map (caCons (cVar 6) (caCons (cC (.int 3)) caNil))))
  (sSeq (sIf (bNot (bTru (cCall f_lies_in (caCons (cVar 5) (caCons (cVar 7) caNil)))))
  (sSeq (sRet (cRt (cC (.bool false))))
  sSkip)
  sSkip)
  (sSeq (sAsg 8 (cSub (cIx (cVar 7) (cC (.int 1))) (cIx (cVar 7) (cC (.int 0)))))
  (sSeq (sAsg 9 (cSub (cCall f__law_draw (caCons (cVar 1) (caCons (cC (.int 31)) caNil))) (cC (.int 15))))
  (sSeq (sAsg 10 (cSub (cCall f__law_draw (caCons (cVar 1) (caCons (cC (.int 31)) caNil))) (cC (.int 15))))
  (sSeq (sAsg 11 (cAdd (cCall f_tone_at (caCons (cVar 9) caNil)) (cTup (caCons (cC (.int 4)) caNil))))
  (sSeq (sAsg 12 (cAdd (cCall f_tone_at (caCons (cVar 10) caNil)) (cTup (caCons (cC (.int 4)) caNil))))
  (sSeq (sAsg 13 (cCall f_interval (caCons (cVar 11) (caCons (cVar 12) caNil))))
  (sSeq (sAsg 14 (cCall f_fifths_of (caCons (cVar 13) caNil)))
  (sSeq (sIf (bOr (bNe (cVar 14) (cSub (cVar 10) (cVar 9))) (bNe (cSub (cCall f_fifth_of (caCons (cVar 12) caNil)) (cCall f_fifth_of (caCons (cVar 11) caNil))) (cVar 14)))
  (sSeq (sRet (cRt (cC (.bool false))))
  sSkip)
  sSkip)
  (sSeq (sAsg 15 (cFdiv (cInt (cSub (cIx (cVar 13) (cC (.int 0))) (cMul (cC (.int 4)) (cVar 14)))) (cC (.int 7))))
  (sSeq (sIf (bOr (bNe (cMod (cInt (cSub (cIx (cVar 13) (cC (.int 0))) (cMul (cC (.int 4)) (cVar 14)))) (cC (.int 7))) (cC (.int 0))) (bNe (cIx (cVar 13) (cC (.int 1))) (cAdd (cMul (cC (.int 7)) (cVar 14)) (cMul (cC (.int 12)) (cVar 15)))))
  (sSeq (sRet (cRt (cC (.bool false))))
  sSkip)
  sSkip)
  (sSeq (sAsg 16 (cTup (caCons (cSub (cVar 15) (cVar 14)) (caCons (cVar 14) (caCons (cC (.int 0)) caNil)))))
  (sSeq (sAsg 17 (cCall f_steps_of (caCons (cVar 7) (caCons (cVar 16) caNil))))
  (sSeq (sIf (bNe (cVar 17) (cAdd (cMul (cVar 14) (cVar 8)) (cMul (cVar 15) (cVar 6))))
  (sSeq (sRet (cRt (cC (.bool false))))
  sSkip)
  sSkip)
  (sSeq (sAsg 18 (cEq (cMod (cInt (cVar 17)) (cVar 6)) (cC (.int 0))))
  (sSeq (sAsg 19 (cFdiv (cVar 6) (cCall f_common_divisor (caCons (cVar 6) (caCons (cVar 8) caNil)))))
  (sSeq (sIf (bNe (cVar 18) (cEq (cMod (cInt (cVar 14)) (cVar 19)) (cC (.int 0))))
  (sSeq (sRet (cRt (cC (.bool false))))
  sSkip)
  sSkip)
  (sSeq (sAsg 20 (cSub (cCall f__law_draw (caCons (cVar 1) (caCons (cC (.int 9)) caNil))) (cC (.int 4))))
  (sSeq (sAsg 21 (cTup (caCons (cSub (cIx (cVar 16) (cC (.int 0))) (cMul (cC (.int 4)) (cVar 20))) (caCons (cAdd (cIx (cVar 16) (cC (.int 1))) (cMul (cC (.int 4)) (cVar 20))) (caCons (cSub (cIx (cVar 16) (cC (.int 2))) (cVar 20)) caNil)))))
  (sSeq (sIf (bNe (cCall f_steps_of (caCons (cVar 7) (caCons (cVar 21) caNil))) (cVar 17))
  (sSeq (sRet (cRt (cC (.bool false))))
  sSkip)
  sSkip)
  (sSeq (sAsg 22 (cCall f_steps_of (caCons (cVar 7) (caCons (cTup (caCons (cSub (cC (.int 0)) (cC (.int 2))) (caCons (cC (.int 0)) (caCons (cC (.int 1)) caNil)))) caNil))))
  (sSeq (sRet (cRt (cAndV (cEq (cVar 22) (cSub (cMul (cC (.int 4)) (cVar 8)) (cMul (cC (.int 2)) (cVar 6)))) (cEq (cCall f_steps_of (caCons (cVar 7) (caCons (cTup (caCons (cC (.int 1)) (caCons (cC (.int 1)) (caCons (cSub (cC (.int 0)) (cC (.int 1))) caNil)))) caNil))) (cSub (cVar 8) (cVar 22))))))
  sSkip)))))))))))))))))))))))))))))))
def f_law : List U → Mh → Option (U × Mh) := cFn 23 1 b_law
theorem o_law {f : Addr} {fd : FuncData} (F : Fun K "law" "law" s_law f fd) (c__law_draw : Cal P w K mg base 1 "_law_draw" 2 f__law_draw) (c_commas_of : Cal P w K mg base 5 "commas_of" 2 f_commas_of) (c_common_divisor : Cal P w K mg base 1 "common_divisor" 2 f_common_divisor) (c_equal_map : Cal P w K mg base 4 "equal_map" 2 f_equal_map) (c_equal_maps_up_to : Cal P w K mg base 5 "equal_maps_up_to" 3 f_equal_maps_up_to) (c_fifth_of : Cal P w K mg base 1 "fifth_of" 1 f_fifth_of) (c_fifths_of : Cal P w K mg base 1 "fifths_of" 1 f_fifths_of) (c_freedom : Cal P w K mg base 6 "freedom" 2 f_freedom) (c_generator_of : Cal P w K mg base 6 "generator_of" 2 f_generator_of) (c_interval : Cal P w K mg base 2 "interval" 2 f_interval) (c_is_tempered : Cal P w K mg base 3 "is_tempered" 2 f_is_tempered) (c_lies_in : Cal P w K mg base 2 "lies_in" 2 f_lies_in) (c_maps_of : Cal P w K mg base 5 "maps_of" 2 f_maps_of) (c_steps_of : Cal P w K mg base 2 "steps_of" 2 f_steps_of) (c_tone_at : Cal P w K mg base 1 "tone_at" 1 f_tone_at) (z_all : mg "all" = none) (z_int : mg "int" = none) (z_len : mg "len" = none) (z_list : mg "list" = none) (z_range : mg "range" = none) : FnOk P w K mg base CX0 7 f fd ["script"] (spF ⟨K, mg, Tb.T⟩ 1 f_law) :=
  fn_ok F sc_law (by decide) fun cdv A outer s H E hr G =>
  (sss_cons (ss_asg 1 G (se_new (se_lst (sa_cons se_int (sa_cons se_int (sa_cons (se_fz (se_lstOf rfl z_list (se_var 0))) (sa_cons se_int sa_nil)))))))
  (sss_cons (ss_asg 2 G (se_tup (sa_cons (se_sub se_int se_int) (sa_cons se_int (sa_cons (se_sub se_int se_int) sa_nil)))))
  (sss_cons (ss_asg 3 G (se_call c_equal_maps_up_to hr (by decide) (fun _ _ _ _ e => cFn_len _ _ _ _ e) rfl (sa_cons se_int (sa_cons (se_tup (sa_cons (se_var 2) sa_nil)) (sa_cons se_int sa_nil)))))
  (sss_cons (ss_lcF 4 G (sj_of (si_rng2 rfl z_range se_int se_int)) (blkOk_by (own := [("size", 6)]) (by rfl)) (fun _ _ _ _ _ G => have GG := G; (sg_name 6 GG)) (gsl_n (by decide)) (fun _ _ _ _ _ G => have GG := G; sbs_nil) (fun _ _ _ _ _ G => have GG := G; (se_call c_equal_map hr (by decide) (fun _ _ _ _ e => cFn_len _ _ _ _ e) rfl (sa_cons (se_var 6) (sa_cons se_int sa_nil)))))
  (sss_cons (ss_if (sb_w (sw_or (sb_ne G (se_var 3) (se_lc G (sj_seq (se_var 4)) (blkOk_by (own := [("row", 16)]) (by rfl)) (fun _ _ _ _ _ G => have GG := G; (sg_name 16 GG)) (gsl_n (by decide)) (fun _ _ _ _ _ G => have GG := G; (sbs_one (sb_eq G (se_sub (se_mul se_int (se_ix (se_var 16) se_int)) (se_mul se_int (se_ix (se_var 16) se_int))) (se_ix (se_var 16) se_int)))) (fun _ _ _ _ _ G => have GG := G; (se_ix (se_var 16) se_int)))) (sw_or1 (sb_not (sb_tru (se_all G rfl z_all (se_lc G (sj_seq (se_lst (sa_cons se_int (sa_cons se_int (sa_cons se_int (sa_cons se_int (sa_cons se_int sa_nil))))))) (blkOk_by (own := [("size", 6)]) (by rfl)) (fun _ _ _ _ _ G => have GG := G; (sg_name 6 GG)) (gsl_n (by decide)) (fun _ _ _ _ _ G => have GG := G; sbs_nil) (fun _ _ _ _ _ G => have GG := G; (se_in G (se_var 6) (se_var 3))))))))))
  (sss_cons (ss_ret (sr_of se_bl))
  sss_nil)
  sss_nil)
  (sss_cons (ss_asg 5 G (se_call c_maps_of hr (by decide) (fun _ _ _ _ e => cFn_len _ _ _ _ e) rfl (sa_cons (se_tup (sa_cons (se_var 2) sa_nil)) (sa_cons se_int sa_nil))))
  (sss_cons (ss_if (sb_w (sw_or (sb_ne G (se_call c_freedom hr (by decide) (fun _ _ _ _ e => cFn_len _ _ _ _ e) rfl (sa_cons (se_tup (sa_cons (se_var 2) sa_nil)) (sa_cons se_int sa_nil))) se_int) (sw_or (sb_ne G (se_call c_generator_of hr (by decide) (fun _ _ _ _ e => cFn_len _ _ _ _ e) rfl (sa_cons (se_tup (sa_cons (se_var 2) sa_nil)) (sa_cons se_int sa_nil))) (se_var 5)) (sw_or (sb_ne G (se_call c_commas_of hr (by decide) (fun _ _ _ _ e => cFn_len _ _ _ _ e) rfl (sa_cons (se_var 5) (sa_cons se_int sa_nil))) (se_tup (sa_cons (se_tup (sa_cons se_int (sa_cons (se_sub se_int se_int) (sa_cons se_int sa_nil)))) sa_nil))) (sw_or1 (sb_not (sb_tru (se_call c_is_tempered hr (by decide) (fun _ _ _ _ e => cFn_len _ _ _ _ e) rfl (sa_cons (se_var 5) (sa_cons (se_var 2) sa_nil))))))))))
  (sss_cons (ss_ret (sr_of se_bl))
  sss_nil)
  sss_nil)
  (sss_cons (ss_asg 6 G (se_ix (se_var 3) (se_call c__law_draw hr (by decide) (fun _ _ _ _ e => cFn_len _ _ _ _ e) rfl (sa_cons (se_var 1) (sa_cons (se_len rfl z_len (se_var 3)) sa_nil)))))
  (sss_cons (ss_asg 7 G (se_call c_equal_map hr (by decide) (fun _ _ _ _ e => cFn_len _ _ _ _ e) rfl (sa_cons (se_var 6) (sa_cons se_int sa_nil))))
  (sss_cons (ss_if (sb_not (sb_tru (se_call c_lies_in hr (by decide) (fun _ _ _ _ e => cFn_len _ _ _ _ e) rfl (sa_cons (se_var 5) (sa_cons (se_var 7) sa_nil)))))
  (sss_cons (ss_ret (sr_of se_bl))
  sss_nil)
  sss_nil)
  (sss_cons (ss_asg 8 G (se_sub (se_ix (se_var 7) se_int) (se_ix (se_var 7) se_int)))
  (sss_cons (ss_asg 9 G (se_sub (se_call c__law_draw hr (by decide) (fun _ _ _ _ e => cFn_len _ _ _ _ e) rfl (sa_cons (se_var 1) (sa_cons se_int sa_nil))) se_int))
  (sss_cons (ss_asg 10 G (se_sub (se_call c__law_draw hr (by decide) (fun _ _ _ _ e => cFn_len _ _ _ _ e) rfl (sa_cons (se_var 1) (sa_cons se_int sa_nil))) se_int))
  (sss_cons (ss_asg 11 G (se_add (se_call c_tone_at hr (by decide) (fun _ _ _ _ e => cFn_len _ _ _ _ e) rfl (sa_cons (se_var 9) sa_nil)) (se_tup (sa_cons se_int sa_nil))))
  (sss_cons (ss_asg 12 G (se_add (se_call c_tone_at hr (by decide) (fun _ _ _ _ e => cFn_len _ _ _ _ e) rfl (sa_cons (se_var 10) sa_nil)) (se_tup (sa_cons se_int sa_nil))))
  (sss_cons (ss_asg 13 G (se_call c_interval hr (by decide) (fun _ _ _ _ e => cFn_len _ _ _ _ e) rfl (sa_cons (se_var 11) (sa_cons (se_var 12) sa_nil))))
  (sss_cons (ss_asg 14 G (se_call c_fifths_of hr (by decide) (fun _ _ _ _ e => cFn_len _ _ _ _ e) rfl (sa_cons (se_var 13) sa_nil)))
  (sss_cons (ss_if (sb_w (sw_or (sb_ne G (se_var 14) (se_sub (se_var 10) (se_var 9))) (sw_or1 (sb_ne G (se_sub (se_call c_fifth_of hr (by decide) (fun _ _ _ _ e => cFn_len _ _ _ _ e) rfl (sa_cons (se_var 12) sa_nil)) (se_call c_fifth_of hr (by decide) (fun _ _ _ _ e => cFn_len _ _ _ _ e) rfl (sa_cons (se_var 11) sa_nil))) (se_var 14)))))
  (sss_cons (ss_ret (sr_of se_bl))
  sss_nil)
  sss_nil)
  (sss_cons (ss_asg 15 G (se_fdiv (se_int1 rfl z_int (se_sub (se_ix (se_var 13) se_int) (se_mul se_int (se_var 14)))) se_int))
  (sss_cons (ss_if (sb_w (sw_or (sb_ne G (se_mod (se_int1 rfl z_int (se_sub (se_ix (se_var 13) se_int) (se_mul se_int (se_var 14)))) se_int) se_int) (sw_or1 (sb_ne G (se_ix (se_var 13) se_int) (se_add (se_mul se_int (se_var 14)) (se_mul se_int (se_var 15)))))))
  (sss_cons (ss_ret (sr_of se_bl))
  sss_nil)
  sss_nil)
  (sss_cons (ss_asg 16 G (se_tup (sa_cons (se_sub (se_var 15) (se_var 14)) (sa_cons (se_var 14) (sa_cons se_int sa_nil)))))
  (sss_cons (ss_asg 17 G (se_call c_steps_of hr (by decide) (fun _ _ _ _ e => cFn_len _ _ _ _ e) rfl (sa_cons (se_var 7) (sa_cons (se_var 16) sa_nil))))
  (sss_cons (ss_if (sb_ne G (se_var 17) (se_add (se_mul (se_var 14) (se_var 8)) (se_mul (se_var 15) (se_var 6))))
  (sss_cons (ss_ret (sr_of se_bl))
  sss_nil)
  sss_nil)
  (sss_cons (ss_asg 18 G (se_eq G (se_mod (se_int1 rfl z_int (se_var 17)) (se_var 6)) se_int))
  (sss_cons (ss_asg 19 G (se_fdiv (se_var 6) (se_call c_common_divisor hr (by decide) (fun _ _ _ _ e => cFn_len _ _ _ _ e) rfl (sa_cons (se_var 6) (sa_cons (se_var 8) sa_nil)))))
  (sss_cons (ss_if (sb_ne G (se_var 18) (se_eq G (se_mod (se_int1 rfl z_int (se_var 14)) (se_var 19)) se_int))
  (sss_cons (ss_ret (sr_of se_bl))
  sss_nil)
  sss_nil)
  (sss_cons (ss_asg 20 G (se_sub (se_call c__law_draw hr (by decide) (fun _ _ _ _ e => cFn_len _ _ _ _ e) rfl (sa_cons (se_var 1) (sa_cons se_int sa_nil))) se_int))
  (sss_cons (ss_asg 21 G (se_tup (sa_cons (se_sub (se_ix (se_var 16) se_int) (se_mul se_int (se_var 20))) (sa_cons (se_add (se_ix (se_var 16) se_int) (se_mul se_int (se_var 20))) (sa_cons (se_sub (se_ix (se_var 16) se_int) (se_var 20)) sa_nil)))))
  (sss_cons (ss_if (sb_ne G (se_call c_steps_of hr (by decide) (fun _ _ _ _ e => cFn_len _ _ _ _ e) rfl (sa_cons (se_var 7) (sa_cons (se_var 21) sa_nil))) (se_var 17))
  (sss_cons (ss_ret (sr_of se_bl))
  sss_nil)
  sss_nil)
  (sss_cons (ss_asg 22 G (se_call c_steps_of hr (by decide) (fun _ _ _ _ e => cFn_len _ _ _ _ e) rfl (sa_cons (se_var 7) (sa_cons (se_tup (sa_cons (se_sub se_int se_int) (sa_cons se_int (sa_cons se_int sa_nil)))) sa_nil))))
  (sss_cons (ss_ret (sr_of (se_and (se_eq G (se_var 22) (se_sub (se_mul se_int (se_var 8)) (se_mul se_int (se_var 6)))) (se_one (se_eq G (se_call c_steps_of hr (by decide) (fun _ _ _ _ e => cFn_len _ _ _ _ e) rfl (sa_cons (se_var 7) (sa_cons (se_tup (sa_cons se_int (sa_cons se_int (sa_cons (se_sub se_int se_int) sa_nil)))) sa_nil))) (se_sub (se_var 8) (se_var 22)))))))
  sss_nil)))))))))))))))))))))))))))))))
end

end K57
end M
namespace M
open PySem PySem.Spec
theorem trunc_self (u : U) (m : Mh) : trunc m.length u m = m := if_pos (Nat.le_refl _)
def Bg (x : Int) : Prop := x.natAbs < 2 ^ 400000
theorem mulOk_of {x y : Int} (hx : Bg x) (hy : Bg y) : mulOk x y = true := by
  unfold mulOk
  have l : ∀ z : Int, Bg z → z.natAbs.log2 < 400000 := fun z hz => by
    by_cases h0 : z.natAbs = 0
    · rw [h0]
      decide
    · exact (Nat.log2_lt h0).mpr hz
  have h := l x hx
  have h' := l y hy
  have : decide (x.natAbs.log2 + y.natAbs.log2 < 1000000) = true := decide_eq_true (by omega)
  rw [this, Bool.or_true]
theorem mulOk_l {x y : Int} (h : x.natAbs < 2 ^ 64) : mulOk x y = true := by
  unfold mulOk
  rw [decide_eq_true h, Bool.true_or, Bool.true_or]
theorem mulOk_r {x y : Int} (h : y.natAbs < 2 ^ 64) : mulOk x y = true := by
  unfold mulOk
  rw [decide_eq_true h, Bool.or_true, Bool.true_or]
theorem Bg.le {x y : Int} (h0 : 0 ≤ x) (h : x ≤ y) (hy : Bg y) : Bg x := Nat.lt_of_le_of_lt (by omega) hy
theorem Bg.small {x : Int} (h : x.natAbs < 2 ^ 64) : Bg x := Nat.lt_of_lt_of_le h (Nat.pow_le_pow_right (by decide) (by decide))
theorem Bg.pow {a n : Nat} (ha : a ≤ 16) (hn : n ≤ 90000) : Bg ((a ^ n : Nat) : Int) := by
  show ((a ^ n : Nat) : Int).natAbs < _
  rw [Int.natAbs_natCast]
  refine Nat.lt_of_le_of_lt (Nat.pow_le_pow_left ha n) ?_
  rw [show (16 : Nat) = 2 ^ 4 from rfl, ← Nat.pow_mul]
  exact Nat.pow_lt_pow_right (by decide) (by omega)
theorem fdivI_pos {a b : Int} (h : 0 < b) : fdivI a b = a / b := if_pos h
theorem fmodI_pos {a b : Int} (h : 0 < b) : fmodI a b = a % b := if_pos h
theorem fdivOk_small {b : Int} (h0 : b ≠ 0) (h : b.natAbs < 1073741824) : fdivOk b = true := by
  unfold fdivOk
  rw [decide_eq_true h, bne_iff_ne.mpr h0]
  rfl
end M
namespace M
theorem fmodI_nat (a : Nat) {b : Nat} (h : 0 < b) : fmodI (a : Int) (b : Int) = ((a % b : Nat) : Int) := by
  rw [fmodI_pos (by omega)]
  exact (Int.natCast_emod a b).symm
theorem fdivI_nat (a : Nat) {b : Nat} (h : 0 < b) : fdivI (a : Int) (b : Int) = ((a / b : Nat) : Int) := by
  rw [fdivI_pos (by omega)]
  exact (Int.natCast_ediv a b).symm
end M
namespace M
section
variable {t : CB} {b : CS} {k : Nat} {ρ ρ2 : Sg} {m m1 m2 : Mh} {g : CG} {d : D} {ds : List D} {l : List (Nat × D)}
theorem lpW_go (ht : t ρ m = some (true, m1)) (hb : b ρ m1 = some (.nx, ρ2, m2)) : lpW t b (k + 1) ρ m = lpW t b k ρ2 m2 := by
  show (t ρ m).bind _ = _
  rw [ht, Option.bind_some]
  simp only [if_true, hb, Option.bind_some]
theorem lpW_end (ht : t ρ m = some (false, m1)) : lpW t b (k + 1) ρ m = some (.nx, ρ, m1) := by
  show (t ρ m).bind _ = _
  rw [ht, Option.bind_some]
  simp only [Bool.false_eq_true, if_false]
theorem lpW_bk (ht : t ρ m = some (true, m1)) (hb : b ρ m1 = some (.bk, ρ2, m2)) : lpW t b (k + 1) ρ m = some (.nx, ρ2, m2) := by
  show (t ρ m).bind _ = _
  rw [ht, Option.bind_some]
  simp only [if_true, hb, Option.bind_some]
theorem lpW_rt {u : U} (ht : t ρ m = some (true, m1)) (hb : b ρ m1 = some (.rt u, ρ2, m2)) : lpW t b (k + 1) ρ m = some (.rt u, ρ2, m2) := by
  show (t ρ m).bind _ = _
  rw [ht, Option.bind_some]
  simp only [if_true, hb, Option.bind_some]
theorem lpF_go (hg : g d = some l) (hb : b (setL ρ l) m = some (.nx, ρ2, m2)) : lpF g b (d :: ds) ρ m = lpF g b ds ρ2 m2 := by
  show (g d).bind _ = _
  rw [hg, Option.bind_some, hb]
  rfl
theorem lpF_ct (hg : g d = some l) (hb : b (setL ρ l) m = some (.ct, ρ2, m2)) : lpF g b (d :: ds) ρ m = lpF g b ds ρ2 m2 := by
  show (g d).bind _ = _
  rw [hg, Option.bind_some, hb]
  rfl
theorem lpF_rt {u : U} (hg : g d = some l) (hb : b (setL ρ l) m = some (.rt u, ρ2, m2)) : lpF g b (d :: ds) ρ m = some (.rt u, ρ2, m2) := by
  show (g d).bind _ = _
  rw [hg, Option.bind_some, hb]
  rfl
theorem lpF_bk (hg : g d = some l) (hb : b (setL ρ l) m = some (.bk, ρ2, m2)) : lpF g b (d :: ds) ρ m = some (.nx, ρ2, m2) := by
  show (g d).bind _ = _
  rw [hg, Option.bind_some, hb]
  rfl
end
end M
namespace M
theorem atI_n {α : Type} {xs : List α} {j : Nat} (h : j < xs.length) : L2.atI xs (j : Int) = xs[j]? := by
  unfold L2.atI L2.ixN
  rw [if_pos (by omega), if_pos (by omega)]
  rfl
section
variable {α : Type} {a0 a1 a2 a3 a4 a5 a6 a7 a8 : α} {l : List α}
theorem atI_0 : L2.atI (a0 :: l) 0 = some a0 := (atI_n (j := 0) (by simp)).trans rfl
theorem atI_1 : L2.atI (a0 :: a1 :: l) 1 = some a1 := (atI_n (j := 1) (by simp)).trans rfl
theorem atI_2 : L2.atI (a0 :: a1 :: a2 :: l) 2 = some a2 := (atI_n (j := 2) (by simp)).trans rfl
theorem atI_3 : L2.atI (a0 :: a1 :: a2 :: a3 :: l) 3 = some a3 := (atI_n (j := 3) (by simp)).trans rfl
theorem atI_4 : L2.atI (a0 :: a1 :: a2 :: a3 :: a4 :: l) 4 = some a4 := (atI_n (j := 4) (by simp)).trans rfl
theorem atI_5 : L2.atI (a0 :: a1 :: a2 :: a3 :: a4 :: a5 :: l) 5 = some a5 := (atI_n (j := 5) (by simp)).trans rfl
theorem atI_6 : L2.atI (a0 :: a1 :: a2 :: a3 :: a4 :: a5 :: a6 :: l) 6 = some a6 := (atI_n (j := 6) (by simp)).trans rfl
theorem atI_7 : L2.atI (a0 :: a1 :: a2 :: a3 :: a4 :: a5 :: a6 :: a7 :: l) 7 = some a7 := (atI_n (j := 7) (by simp)).trans rfl
theorem atI_8 : L2.atI (a0 :: a1 :: a2 :: a3 :: a4 :: a5 :: a6 :: a7 :: a8 :: l) 8 = some a8 := (atI_n (j := 8) (by simp)).trans rfl
end
end M
namespace M
section
variable {g : CG} {t : CB} {e : CE} {ρ : Sg} {m : Mh}
theorem lpC_map (f : D → D) : ∀ ds : List D, (∀ d ∈ ds, ∃ l, g d = some l ∧ t (setL ρ l) m = some (true, m) ∧ e (setL ρ l) m = some (.d (f d), m)) → lpC g t e ρ ds m = some (ds.map f, m)
  | [], _ => rfl
  | d :: ds, h => by
    obtain ⟨l, h1, h2, h3⟩ := h d (List.mem_cons_self ..)
    have ih := lpC_map f ds fun x hx => h x (List.mem_cons_of_mem _ hx)
    show (g d).bind _ = _
    rw [h1, Option.bind_some, h2, Option.bind_some]
    simp only [if_true, h3, Option.bind_some, ih, Option.map_some, List.map]
theorem lpC_flt (k : D → Bool) (f : D → D) : ∀ ds : List D, (∀ d ∈ ds, ∃ l, g d = some l ∧ t (setL ρ l) m = some (k d, m) ∧ (k d = true → e (setL ρ l) m = some (.d (f d), m))) → lpC g t e ρ ds m = some ((ds.filter k).map f, m)
  | [], _ => rfl
  | d :: ds, h => by
    obtain ⟨l, h1, h2, h3⟩ := h d (List.mem_cons_self ..)
    have ih := lpC_flt k f ds fun x hx => h x (List.mem_cons_of_mem _ hx)
    show (g d).bind _ = _
    rw [h1, Option.bind_some, h2, Option.bind_some]
    cases hk : k d with
    | true => simp only [if_true, h3 hk, Option.bind_some, ih, Option.map_some, List.map, List.filter, hk]
    | false => simp only [if_false, Bool.false_eq_true, ih, List.filter, hk]
theorem lpQ_all (k : D → Bool) : ∀ ds : List D, (∀ d ∈ ds, ∃ l u, g d = some l ∧ t (setL ρ l) m = some (true, m) ∧ e (setL ρ l) m = some (u, m) ∧ truB u = some (k d)) → lpQ false g t e ρ ds m = some (ds.all k, m)
  | [], _ => rfl
  | d :: ds, h => by
    obtain ⟨l, u, h1, h2, h3, h4⟩ := h d (List.mem_cons_self ..)
    have ih := lpQ_all k ds fun x hx => h x (List.mem_cons_of_mem _ hx)
    show (g d).bind _ = _
    rw [h1, Option.bind_some, h2, Option.bind_some]
    simp only [if_true, h3, Option.bind_some, h4]
    cases hk : k d with
    | true => simp only [Bool.true_eq_false, if_false, ih, List.all_cons, hk, Bool.true_and]
    | false => simp only [if_true, List.all_cons, hk, Bool.false_and]
theorem lpQ_any (k : D → Bool) : ∀ ds : List D, (∀ d ∈ ds, ∃ l u, g d = some l ∧ t (setL ρ l) m = some (true, m) ∧ e (setL ρ l) m = some (u, m) ∧ truB u = some (k d)) → lpQ true g t e ρ ds m = some (ds.any k, m)
  | [], _ => rfl
  | d :: ds, h => by
    obtain ⟨l, u, h1, h2, h3, h4⟩ := h d (List.mem_cons_self ..)
    have ih := lpQ_any k ds fun x hx => h x (List.mem_cons_of_mem _ hx)
    show (g d).bind _ = _
    rw [h1, Option.bind_some, h2, Option.bind_some]
    simp only [if_true, h3, Option.bind_some, h4]
    cases hk : k d with
    | true => simp only [if_true, List.any_cons, hk, Bool.true_or]
    | false => simp only [Bool.false_eq_true, if_false, ih, List.any_cons, hk, Bool.false_or]
end
end M
namespace M
theorem seq_go {a b : CS} {ρ ρ1 : Sg} {m m1 : Mh} {r : Option (Fl × Sg × Mh)} (h : a ρ m = some (.nx, ρ1, m1)) (h2 : b ρ1 m1 = r) : sSeq a b ρ m = r := by
  unfold sSeq
  rw [h, Option.bind_some]
  exact h2
theorem seq_rt {a b : CS} {ρ ρ1 : Sg} {m m1 : Mh} {u : U} (h : a ρ m = some (.rt u, ρ1, m1)) : sSeq a b ρ m = some (.rt u, ρ1, m1) := by
  unfold sSeq
  rw [h, Option.bind_some]
theorem fn_rt {k np : Nat} {b : CS} {us : List U} {m m1 : Mh} {u : U} {ρ1 : Sg} (hl : us.length = np) (h : b (us.map some ++ List.replicate (k - np) none) m = some (.rt u, ρ1, m1)) (ho : okF u = true) : cFn k np b us m = some (u, trunc m.length u m1) := by
  unfold cFn
  rw [if_pos hl, h, Option.bind_some]
  simp only [ho, if_true]
end M

namespace M
open PySem PySem.Spec
def fillB : CS := (sSeq (sAsg 2 (cIx (cVar 0) (cC (.int 1))))
  (sSeq (sStC stoF (cVar 0) (cC (.int 1)) (cFz (cAdd (cVar 2) (cC (.int 1)))))
  (sSeq (sAsg 3 (cC (.int 0)))
  (sSeq (sIf (bLt (cVar 2) (cLen (cIx (cVar 0) (cC (.int 2)))))
  (sSeq (sAsg 3 (cIx (cIx (cVar 0) (cC (.int 2))) (cVar 2)))
  sSkip)
  sSkip)
  (sSeq (sIf (bGe (cVar 3) (cPow (cC (.int 10)) (cC (.int 18))))
  (sSeq (sStC stoF (cVar 0) (cC (.int 0)) (cFz (cVar 3)))
  sSkip)
  (sSeq (sStC stoF (cVar 0) (cC (.int 3)) (cFz (cMod (cInt (cMul (cAdd (cAdd (cAdd (cIx (cVar 0) (cC (.int 3))) (cMod (cInt (cVar 3)) (cC (.int 2147483629)))) (cVar 2)) (cC (.int 1))) (cC (.int 48271)))) (cC (.int 2147483647)))))
  (sSeq (sAsg 4 (cMod (cInt (cAdd (cMul (cIx (cVar 0) (cC (.int 3))) (cC (.int 69621))) (cC (.int 11)))) (cC (.int 2147483629))))
  (sSeq (sStC stoF (cVar 0) (cC (.int 0)) (cFz (cAdd (cMul (cVar 4) (cC (.int 2147483647))) (cMod (cInt (cAdd (cMul (cVar 4) (cC (.int 30011))) (cIx (cVar 0) (cC (.int 3))))) (cC (.int 2147483587))))))
  sSkip))))
  sSkip)))))
def drawB : CS := (sSeq (sIf (bLt (cIx (cVar 0) (cC (.int 0))) (cVar 1)) fillB sSkip)
  (sSeq (sAsg 5 (cMod (cInt (cIx (cVar 0) (cC (.int 0)))) (cVar 1)))
  (sSeq (sStC stoF (cVar 0) (cC (.int 0)) (cFz (cFdiv (cIx (cVar 0) (cC (.int 0))) (cVar 1))))
  (sSeq (sRet (cHand 5))
  sSkip))))
def fDraw : List U → Mh → Option (U × Mh) := cFn 6 2 drawB
def dst (a p s : Int) (ns : List Int) : MO := .v (.list [.int a, .int p, .list (ns.map .int), .int s])
theorem atI_nat {α : Type} {xs : List α} {p : Int} {j : Nat} (hp : p = j) (h : j < xs.length) : L2.atI xs p = some xs[j] := by
  subst hp
  rw [atI_n h, List.getElem?_eq_getElem h]
theorem set4_0 {a b c d x : D} : [a, b, c, d].set 0 x = [x, b, c, d] := rfl
theorem set4_1 {a b c d x : D} : [a, b, c, d].set 1 x = [a, x, c, d] := rfl
theorem set4_3 {a b c d x : D} : [a, b, c, d].set 3 x = [a, b, c, x] := rfl
theorem ix4_0 : L2.ixN 4 0 = some 0 := by decide
theorem ix4_1 : L2.ixN 4 1 = some 1 := by decide
theorem ix4_3 : L2.ixN 4 3 = some 3 := by decide
theorem pow10 : ((10 : Int) ^ (18 : Int).toNat) = 1000000000000000000 := by decide
theorem fill_ok {m : Mh} {r : Nat} {a p s : Int} {ns : List Int} {lim : Int} (hm : m[r]? = some (dst a p s ns)) (hp : 0 ≤ p) :
    ∃ a' p' s' s2 s3 s4, 0 ≤ a' ∧ 0 ≤ p' ∧ fillB [some (.ref r), some (.d (.int lim)), none, none, none, none] m = some (.nx, [some (.ref r), some (.d (.int lim)), s2, s3, s4, none], m.set r (dst a' p' s' ns)) := by
  have hr : r < m.length := by
    cases Nat.lt_or_ge r m.length with
    | inl h => exact h
    | inr h => rw [List.getElem?_eq_none h] at hm; cases hm
  have hs1 : ∀ x : MO, (m.set r x)[r]? = some x := fun x => by rw [List.getElem?_set_self hr]
  have hs2 : ∀ x y : MO, (m.set r x).set r y = m.set r y := fun x y => List.set_set ..
  unfold dst at hm ⊢
  generalize hL : ns.map PyData.int = L at hm ⊢
  have n1 : ∀ x : Int, mulOk x 48271 = true := fun x => mulOk_r (by decide)
  have n2 : ∀ x : Int, mulOk x 69621 = true := fun x => mulOk_r (by decide)
  have n3 : ∀ x : Int, mulOk x 2147483647 = true := fun x => mulOk_r (by decide)
  have n4 : ∀ x : Int, mulOk x 30011 = true := fun x => mulOk_r (by decide)
  have o1 : ¬ (2147483629 : Int) = 0 := by decide
  have o2 : ¬ (2147483647 : Int) = 0 := by decide
  have o3 : ¬ (2147483587 : Int) = 0 := by decide
  have q1 : (0 : Int) ≤ 18 := by decide
  have q2 : (18 : Int) ≤ 1000000 := by decide
  have q3 : (10 : Int).natAbs < 2 ^ 64 := by decide
  have fm : ∀ (x : Int) {b : Int}, 0 < b → 0 ≤ fmodI x b := fun x b hb => by
    rw [fmodI_pos hb]
    exact Int.emod_nonneg _ (by omega)
  have els : ∀ c : Int, 0 ≤ fmodI (fmodI ((s + fmodI c 2147483629 + p + 1) * 48271) 2147483647 * 69621 + 11) 2147483629 * 2147483647 + fmodI (fmodI (fmodI ((s + fmodI c 2147483629 + p + 1) * 48271) 2147483647 * 69621 + 11) 2147483629 * 30011 + fmodI ((s + fmodI c 2147483629 + p + 1) * 48271) 2147483647) 2147483587 := fun c => by
    have h1 := fm (fmodI ((s + fmodI c 2147483629 + p + 1) * 48271) 2147483647 * 69621 + 11) (b := 2147483629) (by decide)
    have h2 := fm (fmodI (fmodI ((s + fmodI c 2147483629 + p + 1) * 48271) 2147483647 * 69621 + 11) 2147483629 * 30011 + fmodI ((s + fmodI c 2147483629 + p + 1) * 48271) 2147483647) (b := 2147483587) (by decide)
    omega
  by_cases hlt : p < (L.length : Int)
  · have hc : L2.atI L p = _ := atI_nat (xs := L) (j := p.toNat) (by omega) (by omega)
    obtain ⟨c, hcc⟩ : ∃ c, L[p.toNat]'(by omega) = PyData.int c := by
      subst hL
      exact ⟨_, List.getElem_map ..⟩
    rw [hcc] at hc
    by_cases hbig : c ≥ 1000000000000000000
    · refine ⟨c, p + 1, s, some (.d (.int p)), some (.d (.int c)), none, by omega, by omega, ?_⟩
      simp only [fillB, cFn, sSeq, sSkip, sPar, setP, parU, caCons, caNil, cC, cVar, sRet, sRetN, cHand, cRt, rtU, cCall, argOk, okF, sIf, sAsg, asgU, sAsgA, cFz, fzU, sAsgG, gT, gsC, gsN, gN, setL, cTup, cLst, cDisp, allD, cIx, ixG, cGIx, sAug, slotD, _root_.M.c2, cB2, vB, addG, subG, mulG, fdivG, modG, negG, iMulG, iAddG, _root_.M.c1, cAdd, cSub, cMul, cFdiv, cMod, cNeg, bTru, truD, valU, bNot, bAnd, bOr, cNotV, cAndV, cOrV, cIf, eqB, neB, ltB, leB, gtB, geB, bEq, bNe, bLt, bLe, bGt, bGe, cEq, cNe, cLt, cLe, cGt, cGe, cCB, _root_.M.g1, _root_.M.g2, absG, intG, cAbs, cInt, cLen, lenG, cSum, sumG, intsD, sFzL, sFz, sExpr, sWhile, sFor, ciSeq, cjSeq, seqS, seqN, ciRng1, ciRng2, ciRng3, ciA, intsU, rg1, rg2, cLc, cbYes, wipeG, cMeth, isStr, isL, caD, cCellM, cellU, sStC, sSt, dU, stoF, cNew, sBreak, sCont, List.map, List.length_cons, List.length_nil, Option.bind_some, Option.map_some, List.replicate, List.cons_append, List.nil_append, List.getElem?_cons_succ, List.getElem?_cons_zero, List.set, if_true, trunc_self, List.all_cons, List.all_nil, Bool.and_true, Nat.reduceAdd, Nat.reduceSub, Nat.reduceEqDiff, Nat.reduceLeDiff, decide_eq_true_eq, reduceIte, atI_0, atI_1, atI_2, atI_3, atI_4, atI_5, atI_6, atI_7, atI_8, cQ, cGSl, coSome, coNone, cTupOf, tupG, wipeG, seqN, lpC, lpQ, ciZip, zipU, fzU, truB, List.zip, List.zipWith, asgU, dU, sOwn, appF, extF, isL, caD, zipD, enU, sumG, intsD, ciEnum, decide_true, decide_false, Bool.true_eq_false, Bool.false_eq_true, if_false, Bool.not_true, Bool.not_false, hm, hs1, hs2, hlt, hc, hbig, powG, cPow, q1, q2, q3, and_self, pow10, stoF, ix4_0, ix4_1, ix4_3, set4_0, set4_1, set4_3, cellU]
    · refine ⟨_, p + 1, (fmodI ((s + fmodI c 2147483629 + p + 1) * 48271) 2147483647), some (.d (.int p)), some (.d (.int c)), some (.d (.int (fmodI (fmodI ((s + fmodI c 2147483629 + p + 1) * 48271) 2147483647 * 69621 + 11) 2147483629))), els c, by omega, ?_⟩
      simp only [fillB, cFn, sSeq, sSkip, sPar, setP, parU, caCons, caNil, cC, cVar, sRet, sRetN, cHand, cRt, rtU, cCall, argOk, okF, sIf, sAsg, asgU, sAsgA, cFz, fzU, sAsgG, gT, gsC, gsN, gN, setL, cTup, cLst, cDisp, allD, cIx, ixG, cGIx, sAug, slotD, _root_.M.c2, cB2, vB, addG, subG, mulG, fdivG, modG, negG, iMulG, iAddG, _root_.M.c1, cAdd, cSub, cMul, cFdiv, cMod, cNeg, bTru, truD, valU, bNot, bAnd, bOr, cNotV, cAndV, cOrV, cIf, eqB, neB, ltB, leB, gtB, geB, bEq, bNe, bLt, bLe, bGt, bGe, cEq, cNe, cLt, cLe, cGt, cGe, cCB, _root_.M.g1, _root_.M.g2, absG, intG, cAbs, cInt, cLen, lenG, cSum, sumG, intsD, sFzL, sFz, sExpr, sWhile, sFor, ciSeq, cjSeq, seqS, seqN, ciRng1, ciRng2, ciRng3, ciA, intsU, rg1, rg2, cLc, cbYes, wipeG, cMeth, isStr, isL, caD, cCellM, cellU, sStC, sSt, dU, stoF, cNew, sBreak, sCont, List.map, List.length_cons, List.length_nil, Option.bind_some, Option.map_some, List.replicate, List.cons_append, List.nil_append, List.getElem?_cons_succ, List.getElem?_cons_zero, List.set, if_true, trunc_self, List.all_cons, List.all_nil, Bool.and_true, Nat.reduceAdd, Nat.reduceSub, Nat.reduceEqDiff, Nat.reduceLeDiff, decide_eq_true_eq, reduceIte, atI_0, atI_1, atI_2, atI_3, atI_4, atI_5, atI_6, atI_7, atI_8, cQ, cGSl, coSome, coNone, cTupOf, tupG, wipeG, seqN, lpC, lpQ, ciZip, zipU, fzU, truB, List.zip, List.zipWith, asgU, dU, sOwn, appF, extF, isL, caD, zipD, enU, sumG, intsD, ciEnum, decide_true, decide_false, Bool.true_eq_false, Bool.false_eq_true, if_false, Bool.not_true, Bool.not_false, hm, hs1, hs2, hlt, hc, hbig, powG, cPow, q1, q2, q3, and_self, pow10, stoF, ix4_0, ix4_1, ix4_3, set4_0, set4_1, set4_3, cellU, n1, n2, n3, n4, o1, o2, o3]
  · have hbig : ¬ (0 : Int) ≥ 1000000000000000000 := by decide
    refine ⟨_, p + 1, (fmodI ((s + fmodI 0 2147483629 + p + 1) * 48271) 2147483647), some (.d (.int p)), some (.d (.int 0)), some (.d (.int (fmodI (fmodI ((s + fmodI 0 2147483629 + p + 1) * 48271) 2147483647 * 69621 + 11) 2147483629))), els 0, by omega, ?_⟩
    simp only [fillB, cFn, sSeq, sSkip, sPar, setP, parU, caCons, caNil, cC, cVar, sRet, sRetN, cHand, cRt, rtU, cCall, argOk, okF, sIf, sAsg, asgU, sAsgA, cFz, fzU, sAsgG, gT, gsC, gsN, gN, setL, cTup, cLst, cDisp, allD, cIx, ixG, cGIx, sAug, slotD, _root_.M.c2, cB2, vB, addG, subG, mulG, fdivG, modG, negG, iMulG, iAddG, _root_.M.c1, cAdd, cSub, cMul, cFdiv, cMod, cNeg, bTru, truD, valU, bNot, bAnd, bOr, cNotV, cAndV, cOrV, cIf, eqB, neB, ltB, leB, gtB, geB, bEq, bNe, bLt, bLe, bGt, bGe, cEq, cNe, cLt, cLe, cGt, cGe, cCB, _root_.M.g1, _root_.M.g2, absG, intG, cAbs, cInt, cLen, lenG, cSum, sumG, intsD, sFzL, sFz, sExpr, sWhile, sFor, ciSeq, cjSeq, seqS, seqN, ciRng1, ciRng2, ciRng3, ciA, intsU, rg1, rg2, cLc, cbYes, wipeG, cMeth, isStr, isL, caD, cCellM, cellU, sStC, sSt, dU, stoF, cNew, sBreak, sCont, List.map, List.length_cons, List.length_nil, Option.bind_some, Option.map_some, List.replicate, List.cons_append, List.nil_append, List.getElem?_cons_succ, List.getElem?_cons_zero, List.set, if_true, trunc_self, List.all_cons, List.all_nil, Bool.and_true, Nat.reduceAdd, Nat.reduceSub, Nat.reduceEqDiff, Nat.reduceLeDiff, decide_eq_true_eq, reduceIte, atI_0, atI_1, atI_2, atI_3, atI_4, atI_5, atI_6, atI_7, atI_8, cQ, cGSl, coSome, coNone, cTupOf, tupG, wipeG, seqN, lpC, lpQ, ciZip, zipU, fzU, truB, List.zip, List.zipWith, asgU, dU, sOwn, appF, extF, isL, caD, zipD, enU, sumG, intsD, ciEnum, decide_true, decide_false, Bool.true_eq_false, Bool.false_eq_true, if_false, Bool.not_true, Bool.not_false, hm, hs1, hs2, hlt, hbig, powG, cPow, q1, q2, q3, and_self, pow10, stoF, ix4_0, ix4_1, ix4_3, set4_0, set4_1, set4_3, cellU, n1, n2, n3, n4, o1, o2, o3]
theorem draw_ok {m : Mh} {r : Nat} {a p s : Int} {ns : List Int} {lim : Int} (hm : m[r]? = some (dst a p s ns)) (ha : 0 ≤ a) (hp : 0 ≤ p) (hl : 0 < lim) (hl2 : lim < 1073741824) :
    ∃ a' p' s' d, 0 ≤ a' ∧ 0 ≤ p' ∧ 0 ≤ d ∧ d < lim ∧ fDraw [.ref r, .d (.int lim)] m = some (.d (.int d), m.set r (dst a' p' s' ns)) := by
  have hr : r < m.length := by
    cases Nat.lt_or_ge r m.length with
    | inl h => exact h
    | inr h => rw [List.getElem?_eq_none h] at hm; cases hm
  have hs1 : ∀ x : MO, (m.set r x)[r]? = some x := fun x => by rw [List.getElem?_set_self hr]
  have hs2 : ∀ x y : MO, (m.set r x).set r y = m.set r y := fun x y => List.set_set ..
  have hs3 : ∀ x : MO, m.length = (m.set r x).length := fun x => by rw [List.length_set]
  have k0 : ¬ lim = 0 := by omega
  have k1 : fdivOk lim = true := fdivOk_small k0 (by omega)
  have fin : ∀ (x : Int), 0 ≤ x → 0 ≤ fdivI x lim ∧ 0 ≤ fmodI x lim ∧ fmodI x lim < lim := fun x hx => by
    rw [fdivI_pos hl, fmodI_pos hl]
    exact ⟨Int.ediv_nonneg hx (by omega), Int.emod_nonneg _ (by omega), Int.emod_lt_of_pos _ hl⟩
  by_cases hlt : a < lim
  · obtain ⟨a', p', s', s2, s3, s4, i1, i2, e⟩ := fill_ok (lim := lim) hm hp
    obtain ⟨j1, j2, j3⟩ := fin a' i1
    refine ⟨_, p', s', _, j1, i2, j2, j3, ?_⟩
    unfold dst at hm e ⊢
    have tr : ∀ x : MO, trunc m.length (.d (.int (fmodI a' lim))) (m.set r x) = m.set r x := fun x => by rw [hs3 x, trunc_self]
    simp only [fDraw, drawB, cFn, sSeq, sSkip, sPar, setP, parU, caCons, caNil, cC, cVar, sRet, sRetN, cHand, cRt, rtU, cCall, argOk, okF, sIf, sAsg, asgU, sAsgA, cFz, fzU, sAsgG, gT, gsC, gsN, gN, setL, cTup, cLst, cDisp, allD, cIx, ixG, cGIx, sAug, slotD, _root_.M.c2, cB2, vB, addG, subG, mulG, fdivG, modG, negG, iMulG, iAddG, _root_.M.c1, cAdd, cSub, cMul, cFdiv, cMod, cNeg, bTru, truD, valU, bNot, bAnd, bOr, cNotV, cAndV, cOrV, cIf, eqB, neB, ltB, leB, gtB, geB, bEq, bNe, bLt, bLe, bGt, bGe, cEq, cNe, cLt, cLe, cGt, cGe, cCB, _root_.M.g1, _root_.M.g2, absG, intG, cAbs, cInt, cLen, lenG, cSum, sumG, intsD, sFzL, sFz, sExpr, sWhile, sFor, ciSeq, cjSeq, seqS, seqN, ciRng1, ciRng2, ciRng3, ciA, intsU, rg1, rg2, cLc, cbYes, wipeG, cMeth, isStr, isL, caD, cCellM, cellU, sStC, sSt, dU, stoF, cNew, sBreak, sCont, List.map, List.length_cons, List.length_nil, Option.bind_some, Option.map_some, List.replicate, List.cons_append, List.nil_append, List.getElem?_cons_succ, List.getElem?_cons_zero, List.set, if_true, trunc_self, List.all_cons, List.all_nil, Bool.and_true, Nat.reduceAdd, Nat.reduceSub, Nat.reduceEqDiff, Nat.reduceLeDiff, decide_eq_true_eq, reduceIte, atI_0, atI_1, atI_2, atI_3, atI_4, atI_5, atI_6, atI_7, atI_8, cQ, cGSl, coSome, coNone, cTupOf, tupG, wipeG, seqN, lpC, lpQ, ciZip, zipU, fzU, truB, List.zip, List.zipWith, asgU, dU, sOwn, appF, extF, isL, caD, zipD, enU, sumG, intsD, ciEnum, decide_true, decide_false, Bool.true_eq_false, Bool.false_eq_true, if_false, Bool.not_true, Bool.not_false, hm, hlt, e, hs1, hs2, k0, k1, stoF, ix4_0, ix4_1, ix4_3, set4_0, set4_1, set4_3, cellU, tr]
  · obtain ⟨j1, j2, j3⟩ := fin a ha
    refine ⟨_, p, s, _, j1, hp, j2, j3, ?_⟩
    unfold dst at hm ⊢
    have tr : ∀ x : MO, trunc m.length (.d (.int (fmodI a lim))) (m.set r x) = m.set r x := fun x => by rw [hs3 x, trunc_self]
    simp only [fDraw, drawB, cFn, sSeq, sSkip, sPar, setP, parU, caCons, caNil, cC, cVar, sRet, sRetN, cHand, cRt, rtU, cCall, argOk, okF, sIf, sAsg, asgU, sAsgA, cFz, fzU, sAsgG, gT, gsC, gsN, gN, setL, cTup, cLst, cDisp, allD, cIx, ixG, cGIx, sAug, slotD, _root_.M.c2, cB2, vB, addG, subG, mulG, fdivG, modG, negG, iMulG, iAddG, _root_.M.c1, cAdd, cSub, cMul, cFdiv, cMod, cNeg, bTru, truD, valU, bNot, bAnd, bOr, cNotV, cAndV, cOrV, cIf, eqB, neB, ltB, leB, gtB, geB, bEq, bNe, bLt, bLe, bGt, bGe, cEq, cNe, cLt, cLe, cGt, cGe, cCB, _root_.M.g1, _root_.M.g2, absG, intG, cAbs, cInt, cLen, lenG, cSum, sumG, intsD, sFzL, sFz, sExpr, sWhile, sFor, ciSeq, cjSeq, seqS, seqN, ciRng1, ciRng2, ciRng3, ciA, intsU, rg1, rg2, cLc, cbYes, wipeG, cMeth, isStr, isL, caD, cCellM, cellU, sStC, sSt, dU, stoF, cNew, sBreak, sCont, List.map, List.length_cons, List.length_nil, Option.bind_some, Option.map_some, List.replicate, List.cons_append, List.nil_append, List.getElem?_cons_succ, List.getElem?_cons_zero, List.set, if_true, trunc_self, List.all_cons, List.all_nil, Bool.and_true, Nat.reduceAdd, Nat.reduceSub, Nat.reduceEqDiff, Nat.reduceLeDiff, decide_eq_true_eq, reduceIte, atI_0, atI_1, atI_2, atI_3, atI_4, atI_5, atI_6, atI_7, atI_8, cQ, cGSl, coSome, coNone, cTupOf, tupG, wipeG, seqN, lpC, lpQ, ciZip, zipU, fzU, truB, List.zip, List.zipWith, asgU, dU, sOwn, appF, extF, isL, caD, zipD, enU, sumG, intsD, ciEnum, decide_true, decide_false, Bool.true_eq_false, Bool.false_eq_true, if_false, Bool.not_true, Bool.not_false, hm, hlt, hs1, hs2, k0, k1, stoF, ix4_0, ix4_1, ix4_3, set4_0, set4_1, set4_3, cellU, tr]
def St (m : Mh) : Prop := ∃ a p s ns, 0 ≤ a ∧ 0 ≤ p ∧ m = [dst a p s ns]
theorem draw_St {m : Mh} {lim : Int} (h : St m) (hl : 0 < lim) (hl2 : lim < 1073741824) : ∃ d m', 0 ≤ d ∧ d < lim ∧ St m' ∧ fDraw [.ref 0, .d (.int lim)] m = some (.d (.int d), m') := by
  obtain ⟨a, p, s, ns, ha, hp, rfl⟩ := h
  obtain ⟨a', p', s', d, i1, i2, i3, i4, e⟩ := draw_ok (m := [dst a p s ns]) (r := 0) rfl ha hp hl hl2
  exact ⟨d, _, i3, i4, ⟨a', p', s', ns, i1, i2, rfl⟩, e⟩
end M

namespace M
open PySem PySem.Spec
namespace K57
abbrev pwS (b0 e0 : U) (f h r : Nat) : Sg := [some b0, some e0, some (.d (.int f)), some (.d (.int h)), some (.d (.int r))]
theorem pow_t (m : Mh) (b0 e0 : U) (f h r : Nat) : w1_power_t (pwS b0 e0 f h r) m = some (decide (r ≠ 0), m) := by
  simp only [w1_power_t, cFn, sSeq, sSkip, sPar, setP, parU, caCons, caNil, cC, cVar, sRet, sRetN, cHand, cRt, rtU, cCall, argOk, okF, sIf, sAsg, asgU, sAsgA, cFz, fzU, sAsgG, gT, gsC, gsN, gN, setL, cTup, cLst, cDisp, allD, cIx, ixG, cGIx, sAug, slotD, _root_.M.c2, cB2, vB, addG, subG, mulG, fdivG, modG, negG, iMulG, iAddG, _root_.M.c1, cAdd, cSub, cMul, cFdiv, cMod, cNeg, bTru, truD, valU, bNot, bAnd, bOr, cNotV, cAndV, cOrV, cIf, eqB, neB, ltB, leB, gtB, geB, bEq, bNe, bLt, bLe, bGt, bGe, cEq, cNe, cLt, cLe, cGt, cGe, cCB, _root_.M.g1, _root_.M.g2, absG, intG, cAbs, cInt, cLen, lenG, cSum, sumG, intsD, sFzL, sFz, sExpr, sWhile, sFor, ciSeq, cjSeq, seqS, seqN, ciRng1, ciRng2, ciRng3, ciA, intsU, rg1, rg2, cLc, cbYes, wipeG, cMeth, isStr, isL, caD, cCellM, cellU, sStC, sSt, dU, stoF, cNew, sBreak, sCont, List.map, List.length_cons, List.length_nil, Option.bind_some, Option.map_some, List.replicate, List.cons_append, List.nil_append, List.getElem?_cons_succ, List.getElem?_cons_zero, List.set, if_true, trunc_self, List.all_cons, List.all_nil, Bool.and_true, Nat.reduceAdd, Nat.reduceSub, Nat.reduceEqDiff, Nat.reduceLeDiff, decide_eq_true_eq, reduceIte, atI_0, atI_1, atI_2, atI_3, atI_4, atI_5, atI_6, atI_7, atI_8, cQ, cGSl, coSome, coNone, cTupOf, tupG, wipeG, seqN, lpC, lpQ, ciZip, zipU, fzU, truB, List.zip, List.zipWith, asgU, dU, sOwn, appF, extF, isL, caD, zipD, enU, sumG, intsD, ciEnum, decide_true, decide_false, Bool.true_eq_false, Bool.false_eq_true, if_false, Bool.not_true, Bool.not_false]
  by_cases h0 : r = 0
  · subst h0; rfl
  · simp [h0]
theorem ne0 {r : Nat} (h : r ≠ 0) : ((r : Int) != 0) = true := by simp [h]
theorem pow_b (m : Mh) (b0 e0 : U) (f h r : Nat) (m1 : mulOk (f : Int) (h : Int) = true) (m2 : mulOk (h : Int) (h : Int) = true) :
    w1_power_b (pwS b0 e0 f h r) m = some (.nx, pwS b0 e0 (if r % 2 = 1 then f * h else f) (if r / 2 = 0 then h else h * h) (r / 2), m) := by
  have e1 : fmodI (r : Int) 2 = ((r % 2 : Nat) : Int) := fmodI_nat r (by decide)
  have e2 : fdivI (r : Int) 2 = ((r / 2 : Nat) : Int) := fdivI_nat r (by decide)
  have k3 : fdivOk 2 = true := by decide
  have k2 : ¬ ((2 : Int) = 0) := by decide
  have z0 : (((0 : Nat) : Int) != 0) = false := rfl
  have z1 : (((1 : Nat) : Int) != 0) = true := rfl
  rcases Nat.mod_two_eq_zero_or_one r with par | par
  · by_cases q0 : r / 2 = 0
    · simp only [w1_power_b, pwS, cFn, sSeq, sSkip, sPar, setP, parU, caCons, caNil, cC, cVar, sRet, sRetN, cHand, cRt, rtU, cCall, argOk, okF, sIf, sAsg, asgU, sAsgA, cFz, fzU, sAsgG, gT, gsC, gsN, gN, setL, cTup, cLst, cDisp, allD, cIx, ixG, cGIx, sAug, slotD, _root_.M.c2, cB2, vB, addG, subG, mulG, fdivG, modG, negG, iMulG, iAddG, _root_.M.c1, cAdd, cSub, cMul, cFdiv, cMod, cNeg, bTru, truD, valU, bNot, bAnd, bOr, cNotV, cAndV, cOrV, cIf, eqB, neB, ltB, leB, gtB, geB, bEq, bNe, bLt, bLe, bGt, bGe, cEq, cNe, cLt, cLe, cGt, cGe, cCB, _root_.M.g1, _root_.M.g2, absG, intG, cAbs, cInt, cLen, lenG, cSum, sumG, intsD, sFzL, sFz, sExpr, sWhile, sFor, ciSeq, cjSeq, seqS, seqN, ciRng1, ciRng2, ciRng3, ciA, intsU, rg1, rg2, cLc, cbYes, wipeG, cMeth, isStr, isL, caD, cCellM, cellU, sStC, sSt, dU, stoF, cNew, sBreak, sCont, List.map, List.length_cons, List.length_nil, Option.bind_some, Option.map_some, List.replicate, List.cons_append, List.nil_append, List.getElem?_cons_succ, List.getElem?_cons_zero, List.set, if_true, trunc_self, List.all_cons, List.all_nil, Bool.and_true, Nat.reduceAdd, Nat.reduceSub, Nat.reduceEqDiff, Nat.reduceLeDiff, decide_eq_true_eq, reduceIte, atI_0, atI_1, atI_2, atI_3, atI_4, atI_5, atI_6, atI_7, atI_8, cQ, cGSl, coSome, coNone, cTupOf, tupG, wipeG, seqN, lpC, lpQ, ciZip, zipU, fzU, truB, List.zip, List.zipWith, asgU, dU, sOwn, appF, extF, isL, caD, zipD, enU, sumG, intsD, ciEnum, decide_true, decide_false, Bool.true_eq_false, Bool.false_eq_true, if_false, Bool.not_true, Bool.not_false, e1, e2, k2, k3, par, q0, z0, z1, m1, m2, if_false, if_true, Bool.false_eq_true, Nat.zero_ne_one]
    · have t1 := ne0 q0
      simp only [w1_power_b, pwS, cFn, sSeq, sSkip, sPar, setP, parU, caCons, caNil, cC, cVar, sRet, sRetN, cHand, cRt, rtU, cCall, argOk, okF, sIf, sAsg, asgU, sAsgA, cFz, fzU, sAsgG, gT, gsC, gsN, gN, setL, cTup, cLst, cDisp, allD, cIx, ixG, cGIx, sAug, slotD, _root_.M.c2, cB2, vB, addG, subG, mulG, fdivG, modG, negG, iMulG, iAddG, _root_.M.c1, cAdd, cSub, cMul, cFdiv, cMod, cNeg, bTru, truD, valU, bNot, bAnd, bOr, cNotV, cAndV, cOrV, cIf, eqB, neB, ltB, leB, gtB, geB, bEq, bNe, bLt, bLe, bGt, bGe, cEq, cNe, cLt, cLe, cGt, cGe, cCB, _root_.M.g1, _root_.M.g2, absG, intG, cAbs, cInt, cLen, lenG, cSum, sumG, intsD, sFzL, sFz, sExpr, sWhile, sFor, ciSeq, cjSeq, seqS, seqN, ciRng1, ciRng2, ciRng3, ciA, intsU, rg1, rg2, cLc, cbYes, wipeG, cMeth, isStr, isL, caD, cCellM, cellU, sStC, sSt, dU, stoF, cNew, sBreak, sCont, List.map, List.length_cons, List.length_nil, Option.bind_some, Option.map_some, List.replicate, List.cons_append, List.nil_append, List.getElem?_cons_succ, List.getElem?_cons_zero, List.set, if_true, trunc_self, List.all_cons, List.all_nil, Bool.and_true, Nat.reduceAdd, Nat.reduceSub, Nat.reduceEqDiff, Nat.reduceLeDiff, decide_eq_true_eq, reduceIte, atI_0, atI_1, atI_2, atI_3, atI_4, atI_5, atI_6, atI_7, atI_8, cQ, cGSl, coSome, coNone, cTupOf, tupG, wipeG, seqN, lpC, lpQ, ciZip, zipU, fzU, truB, List.zip, List.zipWith, asgU, dU, sOwn, appF, extF, isL, caD, zipD, enU, sumG, intsD, ciEnum, decide_true, decide_false, Bool.true_eq_false, Bool.false_eq_true, if_false, Bool.not_true, Bool.not_false, e1, e2, k2, k3, par, q0, z0, z1, m1, m2, t1, if_false, if_true, Bool.false_eq_true, Nat.zero_ne_one, Int.natCast_mul]
  · by_cases q0 : r / 2 = 0
    · simp only [w1_power_b, pwS, cFn, sSeq, sSkip, sPar, setP, parU, caCons, caNil, cC, cVar, sRet, sRetN, cHand, cRt, rtU, cCall, argOk, okF, sIf, sAsg, asgU, sAsgA, cFz, fzU, sAsgG, gT, gsC, gsN, gN, setL, cTup, cLst, cDisp, allD, cIx, ixG, cGIx, sAug, slotD, _root_.M.c2, cB2, vB, addG, subG, mulG, fdivG, modG, negG, iMulG, iAddG, _root_.M.c1, cAdd, cSub, cMul, cFdiv, cMod, cNeg, bTru, truD, valU, bNot, bAnd, bOr, cNotV, cAndV, cOrV, cIf, eqB, neB, ltB, leB, gtB, geB, bEq, bNe, bLt, bLe, bGt, bGe, cEq, cNe, cLt, cLe, cGt, cGe, cCB, _root_.M.g1, _root_.M.g2, absG, intG, cAbs, cInt, cLen, lenG, cSum, sumG, intsD, sFzL, sFz, sExpr, sWhile, sFor, ciSeq, cjSeq, seqS, seqN, ciRng1, ciRng2, ciRng3, ciA, intsU, rg1, rg2, cLc, cbYes, wipeG, cMeth, isStr, isL, caD, cCellM, cellU, sStC, sSt, dU, stoF, cNew, sBreak, sCont, List.map, List.length_cons, List.length_nil, Option.bind_some, Option.map_some, List.replicate, List.cons_append, List.nil_append, List.getElem?_cons_succ, List.getElem?_cons_zero, List.set, if_true, trunc_self, List.all_cons, List.all_nil, Bool.and_true, Nat.reduceAdd, Nat.reduceSub, Nat.reduceEqDiff, Nat.reduceLeDiff, decide_eq_true_eq, reduceIte, atI_0, atI_1, atI_2, atI_3, atI_4, atI_5, atI_6, atI_7, atI_8, cQ, cGSl, coSome, coNone, cTupOf, tupG, wipeG, seqN, lpC, lpQ, ciZip, zipU, fzU, truB, List.zip, List.zipWith, asgU, dU, sOwn, appF, extF, isL, caD, zipD, enU, sumG, intsD, ciEnum, decide_true, decide_false, Bool.true_eq_false, Bool.false_eq_true, if_false, Bool.not_true, Bool.not_false, e1, e2, k2, k3, par, q0, z0, z1, m1, m2, if_false, if_true, Bool.false_eq_true, Int.natCast_mul]
    · have t1 := ne0 q0
      simp only [w1_power_b, pwS, cFn, sSeq, sSkip, sPar, setP, parU, caCons, caNil, cC, cVar, sRet, sRetN, cHand, cRt, rtU, cCall, argOk, okF, sIf, sAsg, asgU, sAsgA, cFz, fzU, sAsgG, gT, gsC, gsN, gN, setL, cTup, cLst, cDisp, allD, cIx, ixG, cGIx, sAug, slotD, _root_.M.c2, cB2, vB, addG, subG, mulG, fdivG, modG, negG, iMulG, iAddG, _root_.M.c1, cAdd, cSub, cMul, cFdiv, cMod, cNeg, bTru, truD, valU, bNot, bAnd, bOr, cNotV, cAndV, cOrV, cIf, eqB, neB, ltB, leB, gtB, geB, bEq, bNe, bLt, bLe, bGt, bGe, cEq, cNe, cLt, cLe, cGt, cGe, cCB, _root_.M.g1, _root_.M.g2, absG, intG, cAbs, cInt, cLen, lenG, cSum, sumG, intsD, sFzL, sFz, sExpr, sWhile, sFor, ciSeq, cjSeq, seqS, seqN, ciRng1, ciRng2, ciRng3, ciA, intsU, rg1, rg2, cLc, cbYes, wipeG, cMeth, isStr, isL, caD, cCellM, cellU, sStC, sSt, dU, stoF, cNew, sBreak, sCont, List.map, List.length_cons, List.length_nil, Option.bind_some, Option.map_some, List.replicate, List.cons_append, List.nil_append, List.getElem?_cons_succ, List.getElem?_cons_zero, List.set, if_true, trunc_self, List.all_cons, List.all_nil, Bool.and_true, Nat.reduceAdd, Nat.reduceSub, Nat.reduceEqDiff, Nat.reduceLeDiff, decide_eq_true_eq, reduceIte, atI_0, atI_1, atI_2, atI_3, atI_4, atI_5, atI_6, atI_7, atI_8, cQ, cGSl, coSome, coNone, cTupOf, tupG, wipeG, seqN, lpC, lpQ, ciZip, zipU, fzU, truB, List.zip, List.zipWith, asgU, dU, sOwn, appF, extF, isL, caD, zipD, enU, sumG, intsD, ciEnum, decide_true, decide_false, Bool.true_eq_false, Bool.false_eq_true, if_false, Bool.not_true, Bool.not_false, e1, e2, k2, k3, par, q0, z0, z1, m1, m2, t1, if_false, if_true, Bool.false_eq_true, Int.natCast_mul]
theorem pow_loop (m : Mh) (b0 e0 : U) : ∀ (r k : Nat) (f h : Nat), r < k → 1 ≤ f → 1 ≤ h → Bg ((f * h ^ r : Nat) : Int) →
    ∃ h' : Nat, lpW w1_power_t w1_power_b k (pwS b0 e0 f h r) m = some (.nx, pwS b0 e0 (f * h ^ r) h' 0, m) := by
  intro r
  induction r using Nat.strongRecOn with
  | ind r ih =>
    intro k f h hk hf hh hb
    obtain ⟨k, rfl⟩ : ∃ k', k = k' + 1 := ⟨k - 1, by omega⟩
    by_cases r0 : r = 0
    · subst r0
      refine ⟨h, ?_⟩
      rw [lpW_end (by rw [pow_t]; rfl), Nat.pow_zero, Nat.mul_one]
    · have hp : h ≤ h ^ r := Nat.le_self_pow r0 h
      have b1 : Bg (f : Int) := hb.le (by omega) (by have := Nat.le_mul_of_pos_right f (Nat.pow_pos (n := r) (show 0 < h by omega)); omega)
      have b2 : Bg (h : Int) := hb.le (by omega) (by have := Nat.le_mul_of_pos_left (h ^ r) (show 0 < f by omega); omega)
      have hr : r = 2 * (r / 2) + r % 2 := by omega
      have hpow : h ^ r = (h * h) ^ (r / 2) * h ^ (r % 2) := by
        conv => lhs; rw [hr, Nat.pow_add, Nat.pow_mul, Nat.pow_two]
      have e : f * h ^ r = (if r % 2 = 1 then f * h else f) * (if r / 2 = 0 then h else h * h) ^ (r / 2) := by
        rw [hpow]
        rcases Nat.mod_two_eq_zero_or_one r with par | par
        · by_cases q0 : r / 2 = 0
          · simp [par, q0]
          · simp [par, q0]
        · by_cases q0 : r / 2 = 0
          · simp [par, q0]
          · simp [par, q0, Nat.mul_assoc, Nat.mul_comm, Nat.mul_left_comm]
      obtain ⟨h', eh⟩ := ih (r / 2) (by omega) k (if r % 2 = 1 then f * h else f) (if r / 2 = 0 then h else h * h) (by omega) (by split; exact Nat.mul_pos hf hh; exact hf) (by split; exact hh; exact Nat.mul_pos hh hh) (by rw [← e]; exact hb)
      refine ⟨h', ?_⟩
      rw [lpW_go (by rw [pow_t]; rw [decide_eq_true (show r ≠ 0 from r0)]) (pow_b m b0 e0 f h r (mulOk_of b1 b2) (mulOk_of b2 b2)), eh, ← e]
theorem power_ok (m : Mh) {a n : Nat} (ha : 1 ≤ a) (hn : n < fuel0) (hb : Bg ((a ^ n : Nat) : Int)) : f_power [.d (.int a), .d (.int n)] m = some (.d (.int (a ^ n : Nat)), m) := by
  obtain ⟨h', e⟩ := pow_loop m (.d (.int a)) (.d (.int n)) n fuel0 1 a hn (Nat.le_refl _) ha (by rw [Nat.one_mul]; exact hb)
  have e : lpW w1_power_t w1_power_b fuel0 [some (.d (.int a)), some (.d (.int n)), some (.d (.int 1)), some (.d (.int a)), some (.d (.int n))] m = _ := e
  rw [Nat.one_mul] at e
  simp only [f_power, b_power, cFn, sSeq, sSkip, sPar, setP, parU, caCons, caNil, cC, cVar, sRet, sRetN, cHand, cRt, rtU, cCall, argOk, okF, sIf, sAsg, asgU, sAsgA, cFz, fzU, sAsgG, gT, gsC, gsN, gN, setL, cTup, cLst, cDisp, allD, cIx, ixG, cGIx, sAug, slotD, _root_.M.c2, cB2, vB, addG, subG, mulG, fdivG, modG, negG, iMulG, iAddG, _root_.M.c1, cAdd, cSub, cMul, cFdiv, cMod, cNeg, bTru, truD, valU, bNot, bAnd, bOr, cNotV, cAndV, cOrV, cIf, eqB, neB, ltB, leB, gtB, geB, bEq, bNe, bLt, bLe, bGt, bGe, cEq, cNe, cLt, cLe, cGt, cGe, cCB, _root_.M.g1, _root_.M.g2, absG, intG, cAbs, cInt, cLen, lenG, cSum, sumG, intsD, sFzL, sFz, sExpr, sWhile, sFor, ciSeq, cjSeq, seqS, seqN, ciRng1, ciRng2, ciRng3, ciA, intsU, rg1, rg2, cLc, cbYes, wipeG, cMeth, isStr, isL, caD, cCellM, cellU, sStC, sSt, dU, stoF, cNew, sBreak, sCont, List.map, List.length_cons, List.length_nil, Option.bind_some, Option.map_some, List.replicate, List.cons_append, List.nil_append, List.getElem?_cons_succ, List.getElem?_cons_zero, List.set, if_true, trunc_self, List.all_cons, List.all_nil, Bool.and_true, Nat.reduceAdd, Nat.reduceSub, Nat.reduceEqDiff, Nat.reduceLeDiff, decide_eq_true_eq, reduceIte, atI_0, atI_1, atI_2, atI_3, atI_4, atI_5, atI_6, atI_7, atI_8, cQ, cGSl, coSome, coNone, cTupOf, tupG, wipeG, seqN, lpC, lpQ, ciZip, zipU, fzU, truB, List.zip, List.zipWith, asgU, dU, sOwn, appF, extF, isL, caD, zipD, enU, sumG, intsD, ciEnum, decide_true, decide_false, Bool.true_eq_false, Bool.false_eq_true, if_false, Bool.not_true, Bool.not_false, e, pwS]
abbrev ocS (rt : U) (a b f : Nat) : Sg := [some rt, some (.d (.int a)), some (.d (.int b)), some (.d (.int f))]
theorem oct_t (m : Mh) (rt : U) (a b f : Nat) : w1_octaves_of_t (ocS rt a b f) m = some (decide (2 * b ≤ a), m) := by
  have k : mulOk 2 (b : Int) = true := mulOk_l (by decide)
  simp only [w1_octaves_of_t, ocS, cFn, sSeq, sSkip, sPar, setP, parU, caCons, caNil, cC, cVar, sRet, sRetN, cHand, cRt, rtU, cCall, argOk, okF, sIf, sAsg, asgU, sAsgA, cFz, fzU, sAsgG, gT, gsC, gsN, gN, setL, cTup, cLst, cDisp, allD, cIx, ixG, cGIx, sAug, slotD, _root_.M.c2, cB2, vB, addG, subG, mulG, fdivG, modG, negG, iMulG, iAddG, _root_.M.c1, cAdd, cSub, cMul, cFdiv, cMod, cNeg, bTru, truD, valU, bNot, bAnd, bOr, cNotV, cAndV, cOrV, cIf, eqB, neB, ltB, leB, gtB, geB, bEq, bNe, bLt, bLe, bGt, bGe, cEq, cNe, cLt, cLe, cGt, cGe, cCB, _root_.M.g1, _root_.M.g2, absG, intG, cAbs, cInt, cLen, lenG, cSum, sumG, intsD, sFzL, sFz, sExpr, sWhile, sFor, ciSeq, cjSeq, seqS, seqN, ciRng1, ciRng2, ciRng3, ciA, intsU, rg1, rg2, cLc, cbYes, wipeG, cMeth, isStr, isL, caD, cCellM, cellU, sStC, sSt, dU, stoF, cNew, sBreak, sCont, List.map, List.length_cons, List.length_nil, Option.bind_some, Option.map_some, List.replicate, List.cons_append, List.nil_append, List.getElem?_cons_succ, List.getElem?_cons_zero, List.set, if_true, trunc_self, List.all_cons, List.all_nil, Bool.and_true, Nat.reduceAdd, Nat.reduceSub, Nat.reduceEqDiff, Nat.reduceLeDiff, decide_eq_true_eq, reduceIte, atI_0, atI_1, atI_2, atI_3, atI_4, atI_5, atI_6, atI_7, atI_8, cQ, cGSl, coSome, coNone, cTupOf, tupG, wipeG, seqN, lpC, lpQ, ciZip, zipU, fzU, truB, List.zip, List.zipWith, asgU, dU, sOwn, appF, extF, isL, caD, zipD, enU, sumG, intsD, ciEnum, decide_true, decide_false, Bool.true_eq_false, Bool.false_eq_true, if_false, Bool.not_true, Bool.not_false, k]
  congr 2
  exact decide_eq_decide.mpr (by omega)
theorem oct_b (m : Mh) (rt : U) (a b f : Nat) : w1_octaves_of_b (ocS rt a b f) m = some (.nx, ocS rt a (b * 2) (f + 1), m) := by
  have k : mulOk (b : Int) 2 = true := mulOk_r (by decide)
  simp only [w1_octaves_of_b, ocS, cFn, sSeq, sSkip, sPar, setP, parU, caCons, caNil, cC, cVar, sRet, sRetN, cHand, cRt, rtU, cCall, argOk, okF, sIf, sAsg, asgU, sAsgA, cFz, fzU, sAsgG, gT, gsC, gsN, gN, setL, cTup, cLst, cDisp, allD, cIx, ixG, cGIx, sAug, slotD, _root_.M.c2, cB2, vB, addG, subG, mulG, fdivG, modG, negG, iMulG, iAddG, _root_.M.c1, cAdd, cSub, cMul, cFdiv, cMod, cNeg, bTru, truD, valU, bNot, bAnd, bOr, cNotV, cAndV, cOrV, cIf, eqB, neB, ltB, leB, gtB, geB, bEq, bNe, bLt, bLe, bGt, bGe, cEq, cNe, cLt, cLe, cGt, cGe, cCB, _root_.M.g1, _root_.M.g2, absG, intG, cAbs, cInt, cLen, lenG, cSum, sumG, intsD, sFzL, sFz, sExpr, sWhile, sFor, ciSeq, cjSeq, seqS, seqN, ciRng1, ciRng2, ciRng3, ciA, intsU, rg1, rg2, cLc, cbYes, wipeG, cMeth, isStr, isL, caD, cCellM, cellU, sStC, sSt, dU, stoF, cNew, sBreak, sCont, List.map, List.length_cons, List.length_nil, Option.bind_some, Option.map_some, List.replicate, List.cons_append, List.nil_append, List.getElem?_cons_succ, List.getElem?_cons_zero, List.set, if_true, trunc_self, List.all_cons, List.all_nil, Bool.and_true, Nat.reduceAdd, Nat.reduceSub, Nat.reduceEqDiff, Nat.reduceLeDiff, decide_eq_true_eq, reduceIte, atI_0, atI_1, atI_2, atI_3, atI_4, atI_5, atI_6, atI_7, atI_8, cQ, cGSl, coSome, coNone, cTupOf, tupG, wipeG, seqN, lpC, lpQ, ciZip, zipU, fzU, truB, List.zip, List.zipWith, asgU, dU, sOwn, appF, extF, isL, caD, zipD, enU, sumG, intsD, ciEnum, decide_true, decide_false, Bool.true_eq_false, Bool.false_eq_true, if_false, Bool.not_true, Bool.not_false, k, Int.natCast_mul, Int.natCast_add]
  rfl
theorem oct_loop (m : Mh) (rt : U) (a : Nat) (ha : a ≠ 0) : ∀ (j i k : Nat), i + j = a.log2 → j < k →
    lpW w1_octaves_of_t w1_octaves_of_b k (ocS rt a (2 ^ i) i) m = some (.nx, ocS rt a (2 ^ a.log2) a.log2, m) := by
  intro j
  induction j with
  | zero =>
    intro i k hi hk
    obtain ⟨k, rfl⟩ : ∃ k', k = k' + 1 := ⟨k - 1, by omega⟩
    have hi : i = a.log2 := by omega
    subst hi
    refine lpW_end (m1 := m) ?_
    rw [oct_t, decide_eq_false]
    have := (Nat.log2_lt (n := a) (k := a.log2 + 1) ha).mp (Nat.lt_succ_self _)
    rw [Nat.pow_succ] at this
    omega
  | succ j ih =>
    intro i k hi hk
    obtain ⟨k, rfl⟩ : ∃ k', k = k' + 1 := ⟨k - 1, by omega⟩
    have h2 : 2 ^ (i + 1) ≤ a := by
      have := (Nat.le_log2 (n := a) (k := i + 1) ha).mp (by omega)
      exact this
    rw [Nat.pow_succ] at h2
    rw [lpW_go (by rw [oct_t, decide_eq_true (show 2 * 2 ^ i ≤ a by omega)]) (oct_b m rt a (2 ^ i) i), ← Nat.pow_succ]
    exact ih (i + 1) k (by omega) (by omega)
theorem oct_t2 (m : Mh) (rt : U) (a b f : Nat) : w2_octaves_of_t (ocS rt a b f) m = some (decide (a < b), m) := by
  simp only [w2_octaves_of_t, ocS, cFn, sSeq, sSkip, sPar, setP, parU, caCons, caNil, cC, cVar, sRet, sRetN, cHand, cRt, rtU, cCall, argOk, okF, sIf, sAsg, asgU, sAsgA, cFz, fzU, sAsgG, gT, gsC, gsN, gN, setL, cTup, cLst, cDisp, allD, cIx, ixG, cGIx, sAug, slotD, _root_.M.c2, cB2, vB, addG, subG, mulG, fdivG, modG, negG, iMulG, iAddG, _root_.M.c1, cAdd, cSub, cMul, cFdiv, cMod, cNeg, bTru, truD, valU, bNot, bAnd, bOr, cNotV, cAndV, cOrV, cIf, eqB, neB, ltB, leB, gtB, geB, bEq, bNe, bLt, bLe, bGt, bGe, cEq, cNe, cLt, cLe, cGt, cGe, cCB, _root_.M.g1, _root_.M.g2, absG, intG, cAbs, cInt, cLen, lenG, cSum, sumG, intsD, sFzL, sFz, sExpr, sWhile, sFor, ciSeq, cjSeq, seqS, seqN, ciRng1, ciRng2, ciRng3, ciA, intsU, rg1, rg2, cLc, cbYes, wipeG, cMeth, isStr, isL, caD, cCellM, cellU, sStC, sSt, dU, stoF, cNew, sBreak, sCont, List.map, List.length_cons, List.length_nil, Option.bind_some, Option.map_some, List.replicate, List.cons_append, List.nil_append, List.getElem?_cons_succ, List.getElem?_cons_zero, List.set, if_true, trunc_self, List.all_cons, List.all_nil, Bool.and_true, Nat.reduceAdd, Nat.reduceSub, Nat.reduceEqDiff, Nat.reduceLeDiff, decide_eq_true_eq, reduceIte, atI_0, atI_1, atI_2, atI_3, atI_4, atI_5, atI_6, atI_7, atI_8, cQ, cGSl, coSome, coNone, cTupOf, tupG, wipeG, seqN, lpC, lpQ, ciZip, zipU, fzU, truB, List.zip, List.zipWith, asgU, dU, sOwn, appF, extF, isL, caD, zipD, enU, sumG, intsD, ciEnum, decide_true, decide_false, Bool.true_eq_false, Bool.false_eq_true, if_false, Bool.not_true, Bool.not_false]
  congr 2
  exact decide_eq_decide.mpr (by omega)
theorem octaves_ok (m : Mh) {a : Nat} (ha : a ≠ 0) (hb : a.log2 < fuel0) : f_octaves_of [.d (.tuple [.int a, .int 1])] m = some (.d (.int a.log2), m) := by
  have e := oct_loop m (.d (.tuple [.int a, .int 1])) a ha a.log2 0 fuel0 (by omega) hb
  have e : lpW w1_octaves_of_t w1_octaves_of_b fuel0 [some (.d (.tuple [.int a, .int 1])), some (.d (.int a)), some (.d (.int 1)), some (.d (.int 0))] m = _ := e
  have hl : ¬ a < 2 ^ a.log2 := by
    have := (Nat.le_log2 (n := a) (k := a.log2) ha).mp (Nat.le_refl _)
    omega
  have e2 : lpW w2_octaves_of_t w2_octaves_of_b fuel0 (ocS (.d (.tuple [.int a, .int 1])) a (2 ^ a.log2) a.log2) m = some (.nx, ocS (.d (.tuple [.int a, .int 1])) a (2 ^ a.log2) a.log2, m) :=
    lpW_end (k := 999999) (m1 := m) (by rw [oct_t2, decide_eq_false hl])
  simp only [f_octaves_of, b_octaves_of, cFn, sSeq, sSkip, sPar, setP, parU, caCons, caNil, cC, cVar, sRet, sRetN, cHand, cRt, rtU, cCall, argOk, okF, sIf, sAsg, asgU, sAsgA, cFz, fzU, sAsgG, gT, gsC, gsN, gN, setL, cTup, cLst, cDisp, allD, cIx, ixG, cGIx, sAug, slotD, _root_.M.c2, cB2, vB, addG, subG, mulG, fdivG, modG, negG, iMulG, iAddG, _root_.M.c1, cAdd, cSub, cMul, cFdiv, cMod, cNeg, bTru, truD, valU, bNot, bAnd, bOr, cNotV, cAndV, cOrV, cIf, eqB, neB, ltB, leB, gtB, geB, bEq, bNe, bLt, bLe, bGt, bGe, cEq, cNe, cLt, cLe, cGt, cGe, cCB, _root_.M.g1, _root_.M.g2, absG, intG, cAbs, cInt, cLen, lenG, cSum, sumG, intsD, sFzL, sFz, sExpr, sWhile, sFor, ciSeq, cjSeq, seqS, seqN, ciRng1, ciRng2, ciRng3, ciA, intsU, rg1, rg2, cLc, cbYes, wipeG, cMeth, isStr, isL, caD, cCellM, cellU, sStC, sSt, dU, stoF, cNew, sBreak, sCont, List.map, List.length_cons, List.length_nil, Option.bind_some, Option.map_some, List.replicate, List.cons_append, List.nil_append, List.getElem?_cons_succ, List.getElem?_cons_zero, List.set, if_true, trunc_self, List.all_cons, List.all_nil, Bool.and_true, Nat.reduceAdd, Nat.reduceSub, Nat.reduceEqDiff, Nat.reduceLeDiff, decide_eq_true_eq, reduceIte, atI_0, atI_1, atI_2, atI_3, atI_4, atI_5, atI_6, atI_7, atI_8, cQ, cGSl, coSome, coNone, cTupOf, tupG, wipeG, seqN, lpC, lpQ, ciZip, zipU, fzU, truB, List.zip, List.zipWith, asgU, dU, sOwn, appF, extF, isL, caD, zipD, enU, sumG, intsD, ciEnum, decide_true, decide_false, Bool.true_eq_false, Bool.false_eq_true, if_false, Bool.not_true, Bool.not_false, e, e2]
theorem one_pow_ok (m : Mh) {n : Nat} (hn : n < fuel0) : f_power [.d (.int 1), .d (.int n)] m = some (.d (.int 1), m) := by
  have := power_ok m (a := 1) (n := n) (Nat.le_refl _) hn (by rw [Nat.one_pow]; exact Bg.small (by decide))
  rw [Nat.one_pow] at this
  exact this
theorem floor_ok (m : Mh) {p n : Nat} (hp : 1 ≤ p) (hp2 : p ≤ 16) (hn : n ≤ 1000) : f_steps_floor [.d (.tuple [.int p, .int 1]), .d (.int n)] m = some (.d (.int (p ^ n).log2), m) := by
  have e1 := power_ok m (a := p) (n := n) hp (Nat.lt_of_le_of_lt hn (by decide)) (Bg.pow hp2 (by omega))
  have e2 := one_pow_ok m (n := n) (Nat.lt_of_le_of_lt hn (by decide))
  have h0 : p ^ n ≠ 0 := Nat.pos_iff_ne_zero.mp (Nat.pow_pos (by omega))
  have hl : (p ^ n).log2 < fuel0 := by
    refine (Nat.log2_lt h0).mpr ?_
    refine Nat.lt_of_le_of_lt (Nat.pow_le_pow_left hp2 n) ?_
    rw [show (16 : Nat) = 2 ^ 4 from rfl, ← Nat.pow_mul]
    exact Nat.pow_lt_pow_right (by decide) (show 4 * n < 1000000 by omega)
  have e3 := octaves_ok m h0 hl
  simp only [f_steps_floor, b_steps_floor, cFn, sSeq, sSkip, sPar, setP, parU, caCons, caNil, cC, cVar, sRet, sRetN, cHand, cRt, rtU, cCall, argOk, okF, sIf, sAsg, asgU, sAsgA, cFz, fzU, sAsgG, gT, gsC, gsN, gN, setL, cTup, cLst, cDisp, allD, cIx, ixG, cGIx, sAug, slotD, _root_.M.c2, cB2, vB, addG, subG, mulG, fdivG, modG, negG, iMulG, iAddG, _root_.M.c1, cAdd, cSub, cMul, cFdiv, cMod, cNeg, bTru, truD, valU, bNot, bAnd, bOr, cNotV, cAndV, cOrV, cIf, eqB, neB, ltB, leB, gtB, geB, bEq, bNe, bLt, bLe, bGt, bGe, cEq, cNe, cLt, cLe, cGt, cGe, cCB, _root_.M.g1, _root_.M.g2, absG, intG, cAbs, cInt, cLen, lenG, cSum, sumG, intsD, sFzL, sFz, sExpr, sWhile, sFor, ciSeq, cjSeq, seqS, seqN, ciRng1, ciRng2, ciRng3, ciA, intsU, rg1, rg2, cLc, cbYes, wipeG, cMeth, isStr, isL, caD, cCellM, cellU, sStC, sSt, dU, stoF, cNew, sBreak, sCont, List.map, List.length_cons, List.length_nil, Option.bind_some, Option.map_some, List.replicate, List.cons_append, List.nil_append, List.getElem?_cons_succ, List.getElem?_cons_zero, List.set, if_true, trunc_self, List.all_cons, List.all_nil, Bool.and_true, Nat.reduceAdd, Nat.reduceSub, Nat.reduceEqDiff, Nat.reduceLeDiff, decide_eq_true_eq, reduceIte, atI_0, atI_1, atI_2, atI_3, atI_4, atI_5, atI_6, atI_7, atI_8, cQ, cGSl, coSome, coNone, cTupOf, tupG, wipeG, seqN, lpC, lpQ, ciZip, zipU, fzU, truB, List.zip, List.zipWith, asgU, dU, sOwn, appF, extF, isL, caD, zipD, enU, sumG, intsD, ciEnum, decide_true, decide_false, Bool.true_eq_false, Bool.false_eq_true, if_false, Bool.not_true, Bool.not_false, e1, e2, e3]
def N (p n : Nat) : Nat := if (p ^ (2 * n)).log2 = 2 * (p ^ n).log2 then (p ^ n).log2 else if p ^ (2 * n) = 2 ^ (2 * (p ^ n).log2 + 1) then (p ^ n).log2 else (p ^ n).log2 + 1
theorem half_ok (m : Mh) {p n l : Nat} (hp : 1 ≤ p) (hp2 : p ≤ 16) (hn : n ≤ 500) (hl : l ≤ 5000) : f_is_half [.d (.tuple [.int p, .int 1]), .d (.int n), .d (.int l)] m = some (.d (.bool (decide (p ^ (2 * n) = 2 ^ (2 * l + 1)))), m) := by
  have e1 := power_ok m (a := p) (n := 2 * n) hp (Nat.lt_of_le_of_lt (show 2 * n ≤ 1000 by omega) (by decide)) (Bg.pow hp2 (by omega))
  have e2 := one_pow_ok m (n := 2 * n) (Nat.lt_of_le_of_lt (show 2 * n ≤ 1000 by omega) (by decide))
  have e3 : f_power [.d (.int 2), .d (.int (2 * l + 1 : Nat))] m = some (.d (.int (2 ^ (2 * l + 1) : Nat)), m) := power_ok m (a := 2) (n := 2 * l + 1) (by decide) (Nat.lt_of_le_of_lt (show 2 * l + 1 ≤ 10001 by omega) (by decide)) (Bg.pow (by decide) (by omega))
  have z1 : ((2 : Int) * (n : Int)) = ((2 * n : Nat) : Int) := by omega
  have z2 : ((2 : Int) * (l : Int) + 1) = ((2 * l + 1 : Nat) : Int) := by omega
  have m1 : mulOk 2 (n : Int) = true := mulOk_l (by decide)
  have m2 : mulOk 2 (l : Int) = true := mulOk_l (by decide)
  have m3 : mulOk 1 ((2 ^ (2 * l + 1) : Nat) : Int) = true := mulOk_l (by decide)
  have g0 : decide (((2 * l + 1 : Nat) : Int) ≥ 0) = true := decide_eq_true (by omega)
  simp only [f_is_half, b_is_half, cFn, sSeq, sSkip, sPar, setP, parU, caCons, caNil, cC, cVar, sRet, sRetN, cHand, cRt, rtU, cCall, argOk, okF, sIf, sAsg, asgU, sAsgA, cFz, fzU, sAsgG, gT, gsC, gsN, gN, setL, cTup, cLst, cDisp, allD, cIx, ixG, cGIx, sAug, slotD, _root_.M.c2, cB2, vB, addG, subG, mulG, fdivG, modG, negG, iMulG, iAddG, _root_.M.c1, cAdd, cSub, cMul, cFdiv, cMod, cNeg, bTru, truD, valU, bNot, bAnd, bOr, cNotV, cAndV, cOrV, cIf, eqB, neB, ltB, leB, gtB, geB, bEq, bNe, bLt, bLe, bGt, bGe, cEq, cNe, cLt, cLe, cGt, cGe, cCB, _root_.M.g1, _root_.M.g2, absG, intG, cAbs, cInt, cLen, lenG, cSum, sumG, intsD, sFzL, sFz, sExpr, sWhile, sFor, ciSeq, cjSeq, seqS, seqN, ciRng1, ciRng2, ciRng3, ciA, intsU, rg1, rg2, cLc, cbYes, wipeG, cMeth, isStr, isL, caD, cCellM, cellU, sStC, sSt, dU, stoF, cNew, sBreak, sCont, List.map, List.length_cons, List.length_nil, Option.bind_some, Option.map_some, List.replicate, List.cons_append, List.nil_append, List.getElem?_cons_succ, List.getElem?_cons_zero, List.set, if_true, trunc_self, List.all_cons, List.all_nil, Bool.and_true, Nat.reduceAdd, Nat.reduceSub, Nat.reduceEqDiff, Nat.reduceLeDiff, decide_eq_true_eq, reduceIte, atI_0, atI_1, atI_2, atI_3, atI_4, atI_5, atI_6, atI_7, atI_8, cQ, cGSl, coSome, coNone, cTupOf, tupG, wipeG, seqN, lpC, lpQ, ciZip, zipU, fzU, truB, List.zip, List.zipWith, asgU, dU, sOwn, appF, extF, isL, caD, zipD, enU, sumG, intsD, ciEnum, decide_true, decide_false, Bool.true_eq_false, Bool.false_eq_true, if_false, Bool.not_true, Bool.not_false, e1, e2, e3, z1, z2, m1, m2, m3, g0]
  congr 4
  exact decide_eq_decide.mpr (by omega)
theorem floor_small {p n : Nat} (hp : 1 ≤ p) (hp2 : p ≤ 16) (hn : n ≤ 500) : (p ^ n).log2 ≤ 5000 := by
  have h0 : p ^ n ≠ 0 := Nat.pos_iff_ne_zero.mp (Nat.pow_pos (by omega))
  refine Nat.le_of_lt_succ ((Nat.log2_lt h0).mpr (Nat.lt_of_le_of_lt (Nat.pow_le_pow_left hp2 n) ?_))
  rw [show (16 : Nat) = 2 ^ 4 from rfl, ← Nat.pow_mul]
  exact Nat.pow_lt_pow_right (a := 2) (n := 5001) (by decide) (show 4 * n < 5001 by omega)
theorem nearest_ok (m : Mh) {p n : Nat} (hp : 1 ≤ p) (hp2 : p ≤ 16) (hn : n ≤ 500) : f_nearest_steps [.d (.tuple [.int p, .int 1]), .d (.int n)] m = some (.d (.int (N p n)), m) := by
  have e1 := floor_ok m (p := p) (n := n) hp hp2 (by omega)
  have e2 := floor_ok m (p := p) (n := 2 * n) hp hp2 (by omega)
  have e3 := half_ok m (p := p) (n := n) (l := (p ^ n).log2) hp hp2 hn (floor_small hp hp2 hn)
  have z1 : ((2 : Int) * (n : Int)) = ((2 * n : Nat) : Int) := by omega
  have m1 : mulOk 2 (n : Int) = true := mulOk_l (by decide)
  have m2 : mulOk 2 ((p ^ n).log2 : Int) = true := mulOk_l (by decide)
  unfold N
  by_cases q1 : (p ^ (2 * n)).log2 = 2 * (p ^ n).log2
  · have g1 : (((p ^ (2 * n)).log2 : Nat) : Int) = 2 * ((p ^ n).log2 : Int) := by omega
    rw [if_pos q1]
    simp only [f_nearest_steps, b_nearest_steps, cFn, sSeq, sSkip, sPar, setP, parU, caCons, caNil, cC, cVar, sRet, sRetN, cHand, cRt, rtU, cCall, argOk, okF, sIf, sAsg, asgU, sAsgA, cFz, fzU, sAsgG, gT, gsC, gsN, gN, setL, cTup, cLst, cDisp, allD, cIx, ixG, cGIx, sAug, slotD, _root_.M.c2, cB2, vB, addG, subG, mulG, fdivG, modG, negG, iMulG, iAddG, _root_.M.c1, cAdd, cSub, cMul, cFdiv, cMod, cNeg, bTru, truD, valU, bNot, bAnd, bOr, cNotV, cAndV, cOrV, cIf, eqB, neB, ltB, leB, gtB, geB, bEq, bNe, bLt, bLe, bGt, bGe, cEq, cNe, cLt, cLe, cGt, cGe, cCB, _root_.M.g1, _root_.M.g2, absG, intG, cAbs, cInt, cLen, lenG, cSum, sumG, intsD, sFzL, sFz, sExpr, sWhile, sFor, ciSeq, cjSeq, seqS, seqN, ciRng1, ciRng2, ciRng3, ciA, intsU, rg1, rg2, cLc, cbYes, wipeG, cMeth, isStr, isL, caD, cCellM, cellU, sStC, sSt, dU, stoF, cNew, sBreak, sCont, List.map, List.length_cons, List.length_nil, Option.bind_some, Option.map_some, List.replicate, List.cons_append, List.nil_append, List.getElem?_cons_succ, List.getElem?_cons_zero, List.set, if_true, trunc_self, List.all_cons, List.all_nil, Bool.and_true, Nat.reduceAdd, Nat.reduceSub, Nat.reduceEqDiff, Nat.reduceLeDiff, decide_eq_true_eq, reduceIte, atI_0, atI_1, atI_2, atI_3, atI_4, atI_5, atI_6, atI_7, atI_8, cQ, cGSl, coSome, coNone, cTupOf, tupG, wipeG, seqN, lpC, lpQ, ciZip, zipU, fzU, truB, List.zip, List.zipWith, asgU, dU, sOwn, appF, extF, isL, caD, zipD, enU, sumG, intsD, ciEnum, decide_true, decide_false, Bool.true_eq_false, Bool.false_eq_true, if_false, Bool.not_true, Bool.not_false, e1, e2, z1, m1, m2, g1]
  · have g1 : ¬ (((p ^ (2 * n)).log2 : Nat) : Int) = 2 * ((p ^ n).log2 : Int) := by omega
    rw [if_neg q1]
    by_cases q2 : p ^ (2 * n) = 2 ^ (2 * (p ^ n).log2 + 1)
    · rw [if_pos q2]
      rw [decide_eq_true q2] at e3
      simp only [f_nearest_steps, b_nearest_steps, cFn, sSeq, sSkip, sPar, setP, parU, caCons, caNil, cC, cVar, sRet, sRetN, cHand, cRt, rtU, cCall, argOk, okF, sIf, sAsg, asgU, sAsgA, cFz, fzU, sAsgG, gT, gsC, gsN, gN, setL, cTup, cLst, cDisp, allD, cIx, ixG, cGIx, sAug, slotD, _root_.M.c2, cB2, vB, addG, subG, mulG, fdivG, modG, negG, iMulG, iAddG, _root_.M.c1, cAdd, cSub, cMul, cFdiv, cMod, cNeg, bTru, truD, valU, bNot, bAnd, bOr, cNotV, cAndV, cOrV, cIf, eqB, neB, ltB, leB, gtB, geB, bEq, bNe, bLt, bLe, bGt, bGe, cEq, cNe, cLt, cLe, cGt, cGe, cCB, _root_.M.g1, _root_.M.g2, absG, intG, cAbs, cInt, cLen, lenG, cSum, sumG, intsD, sFzL, sFz, sExpr, sWhile, sFor, ciSeq, cjSeq, seqS, seqN, ciRng1, ciRng2, ciRng3, ciA, intsU, rg1, rg2, cLc, cbYes, wipeG, cMeth, isStr, isL, caD, cCellM, cellU, sStC, sSt, dU, stoF, cNew, sBreak, sCont, List.map, List.length_cons, List.length_nil, Option.bind_some, Option.map_some, List.replicate, List.cons_append, List.nil_append, List.getElem?_cons_succ, List.getElem?_cons_zero, List.set, if_true, trunc_self, List.all_cons, List.all_nil, Bool.and_true, Nat.reduceAdd, Nat.reduceSub, Nat.reduceEqDiff, Nat.reduceLeDiff, decide_eq_true_eq, reduceIte, atI_0, atI_1, atI_2, atI_3, atI_4, atI_5, atI_6, atI_7, atI_8, cQ, cGSl, coSome, coNone, cTupOf, tupG, wipeG, seqN, lpC, lpQ, ciZip, zipU, fzU, truB, List.zip, List.zipWith, asgU, dU, sOwn, appF, extF, isL, caD, zipD, enU, sumG, intsD, ciEnum, decide_true, decide_false, Bool.true_eq_false, Bool.false_eq_true, if_false, Bool.not_true, Bool.not_false, e1, e2, e3, z1, m1, m2, g1, if_false]
    · rw [if_neg q2]
      rw [decide_eq_false q2] at e3
      simp only [f_nearest_steps, b_nearest_steps, cFn, sSeq, sSkip, sPar, setP, parU, caCons, caNil, cC, cVar, sRet, sRetN, cHand, cRt, rtU, cCall, argOk, okF, sIf, sAsg, asgU, sAsgA, cFz, fzU, sAsgG, gT, gsC, gsN, gN, setL, cTup, cLst, cDisp, allD, cIx, ixG, cGIx, sAug, slotD, _root_.M.c2, cB2, vB, addG, subG, mulG, fdivG, modG, negG, iMulG, iAddG, _root_.M.c1, cAdd, cSub, cMul, cFdiv, cMod, cNeg, bTru, truD, valU, bNot, bAnd, bOr, cNotV, cAndV, cOrV, cIf, eqB, neB, ltB, leB, gtB, geB, bEq, bNe, bLt, bLe, bGt, bGe, cEq, cNe, cLt, cLe, cGt, cGe, cCB, _root_.M.g1, _root_.M.g2, absG, intG, cAbs, cInt, cLen, lenG, cSum, sumG, intsD, sFzL, sFz, sExpr, sWhile, sFor, ciSeq, cjSeq, seqS, seqN, ciRng1, ciRng2, ciRng3, ciA, intsU, rg1, rg2, cLc, cbYes, wipeG, cMeth, isStr, isL, caD, cCellM, cellU, sStC, sSt, dU, stoF, cNew, sBreak, sCont, List.map, List.length_cons, List.length_nil, Option.bind_some, Option.map_some, List.replicate, List.cons_append, List.nil_append, List.getElem?_cons_succ, List.getElem?_cons_zero, List.set, if_true, trunc_self, List.all_cons, List.all_nil, Bool.and_true, Nat.reduceAdd, Nat.reduceSub, Nat.reduceEqDiff, Nat.reduceLeDiff, decide_eq_true_eq, reduceIte, atI_0, atI_1, atI_2, atI_3, atI_4, atI_5, atI_6, atI_7, atI_8, cQ, cGSl, coSome, coNone, cTupOf, tupG, wipeG, seqN, lpC, lpQ, ciZip, zipU, fzU, truB, List.zip, List.zipWith, asgU, dU, sOwn, appF, extF, isL, caD, zipD, enU, sumG, intsD, ciEnum, decide_true, decide_false, Bool.true_eq_false, Bool.false_eq_true, if_false, Bool.not_true, Bool.not_false, e1, e2, e3, z1, m1, m2, g1, if_false, Bool.false_eq_true, Int.natCast_add]
      rfl
theorem six3 : HT.sIx 8 8 (some 3) = 3 := by decide
theorem cut3 : cutD [.int 2, .int 3, .int 5, .int 7, .int 11, .int 13, .int 17, .int 19] none (some 3) = [.int 2, .int 3, .int 5] := rfl
theorem equal_map_ok (m : Mh) {n : Nat} (hn : n ≤ 500) : f_equal_map [.d (.int n), .d (.int 3)] m = some (.d (.tuple [.int (N 2 n), .int (N 3 n), .int (N 5 n)]), m) := by
  have e1 : f_nearest_steps [.d (.tuple [.int 2, .int 1]), .d (.int n)] m = _ := nearest_ok m (p := 2) (n := n) (by decide) (by decide) hn
  have e2 : f_nearest_steps [.d (.tuple [.int 3, .int 1]), .d (.int n)] m = _ := nearest_ok m (p := 3) (n := n) (by decide) (by decide) hn
  have e3 : f_nearest_steps [.d (.tuple [.int 5, .int 1]), .d (.int n)] m = _ := nearest_ok m (p := 5) (n := n) (by decide) (by decide) hn
  simp only [f_equal_map, b_equal_map, cFn, sSeq, sSkip, sPar, setP, parU, caCons, caNil, cC, cVar, sRet, sRetN, cHand, cRt, rtU, cCall, argOk, okF, sIf, sAsg, asgU, sAsgA, cFz, fzU, sAsgG, gT, gsC, gsN, gN, setL, cTup, cLst, cDisp, allD, cIx, ixG, cGIx, sAug, slotD, _root_.M.c2, cB2, vB, addG, subG, mulG, fdivG, modG, negG, iMulG, iAddG, _root_.M.c1, cAdd, cSub, cMul, cFdiv, cMod, cNeg, bTru, truD, valU, bNot, bAnd, bOr, cNotV, cAndV, cOrV, cIf, eqB, neB, ltB, leB, gtB, geB, bEq, bNe, bLt, bLe, bGt, bGe, cEq, cNe, cLt, cLe, cGt, cGe, cCB, _root_.M.g1, _root_.M.g2, absG, intG, cAbs, cInt, cLen, lenG, cSum, sumG, intsD, sFzL, sFz, sExpr, sWhile, sFor, ciSeq, cjSeq, seqS, seqN, ciRng1, ciRng2, ciRng3, ciA, intsU, rg1, rg2, cLc, cbYes, wipeG, cMeth, isStr, isL, caD, cCellM, cellU, sStC, sSt, dU, stoF, cNew, sBreak, sCont, List.map, List.length_cons, List.length_nil, Option.bind_some, Option.map_some, List.replicate, List.cons_append, List.nil_append, List.getElem?_cons_succ, List.getElem?_cons_zero, List.set, if_true, trunc_self, List.all_cons, List.all_nil, Bool.and_true, Nat.reduceAdd, Nat.reduceSub, Nat.reduceEqDiff, Nat.reduceLeDiff, decide_eq_true_eq, reduceIte, atI_0, atI_1, atI_2, atI_3, atI_4, atI_5, atI_6, atI_7, atI_8, cQ, cGSl, coSome, coNone, cTupOf, tupG, wipeG, seqN, lpC, lpQ, ciZip, zipU, fzU, truB, List.zip, List.zipWith, asgU, dU, sOwn, appF, extF, isL, caD, zipD, enU, sumG, intsD, ciEnum, decide_true, decide_false, Bool.true_eq_false, Bool.false_eq_true, if_false, Bool.not_true, Bool.not_false, k_PRIMES, e1_equal_map_e, e1, e2, e3, cut3, six3, if_false, reduceCtorEq, and_false]
def comma : U := .d (.tuple [.tuple [.int (-4), .int 4, .int (-1)]])
def upS (M : Int) (found : List D) (s4 s5 : Option U) : Sg := [some (.d (.int M)), some comma, some (.d (.int 3)), some (.own (.list found)), s4, s5, none]
def fits (n : Nat) : Bool := decide (4 * (N 3 n : Int) - 4 * (N 2 n : Int) = (N 5 n : Int))
theorem dot_ok (m : Mh) (a b c x y z : Int) (ha : mulOk a x = true) (hb : mulOk b y = true) (hc : mulOk c z = true) : f_dot [.d (.tuple [.int a, .int b, .int c]), .d (.tuple [.int x, .int y, .int z])] m = some (.d (.int (a * x + b * y + c * z)), m) := by
  simp only [f_dot, b_dot, cFn, sSeq, sSkip, sPar, setP, parU, caCons, caNil, cC, cVar, sRet, sRetN, cHand, cRt, rtU, cCall, argOk, okF, sIf, sAsg, asgU, sAsgA, cFz, fzU, sAsgG, gT, gsC, gsN, gN, setL, cTup, cLst, cDisp, allD, cIx, ixG, cGIx, sAug, slotD, _root_.M.c2, cB2, vB, addG, subG, mulG, fdivG, modG, negG, iMulG, iAddG, _root_.M.c1, cAdd, cSub, cMul, cFdiv, cMod, cNeg, bTru, truD, valU, bNot, bAnd, bOr, cNotV, cAndV, cOrV, cIf, eqB, neB, ltB, leB, gtB, geB, bEq, bNe, bLt, bLe, bGt, bGe, cEq, cNe, cLt, cLe, cGt, cGe, cCB, _root_.M.g1, _root_.M.g2, absG, intG, cAbs, cInt, cLen, lenG, cSum, sumG, intsD, sFzL, sFz, sExpr, sWhile, sFor, ciSeq, cjSeq, seqS, seqN, ciRng1, ciRng2, ciRng3, ciA, intsU, rg1, rg2, cLc, cbYes, wipeG, cMeth, isStr, isL, caD, cCellM, cellU, sStC, sSt, dU, stoF, cNew, sBreak, sCont, List.map, List.length_cons, List.length_nil, Option.bind_some, Option.map_some, List.replicate, List.cons_append, List.nil_append, List.getElem?_cons_succ, List.getElem?_cons_zero, List.set, if_true, trunc_self, List.all_cons, List.all_nil, Bool.and_true, Nat.reduceAdd, Nat.reduceSub, Nat.reduceEqDiff, Nat.reduceLeDiff, decide_eq_true_eq, reduceIte, atI_0, atI_1, atI_2, atI_3, atI_4, atI_5, atI_6, atI_7, atI_8, cQ, cGSl, coSome, coNone, cTupOf, tupG, wipeG, seqN, lpC, lpQ, ciZip, zipU, fzU, truB, List.zip, List.zipWith, asgU, dU, sOwn, appF, extF, isL, caD, zipD, enU, sumG, intsD, ciEnum, decide_true, decide_false, Bool.true_eq_false, Bool.false_eq_true, if_false, Bool.not_true, Bool.not_false, e1_dot_e, ha, hb, hc]
  congr 4
  simp only [List.sum_cons, List.sum_nil]
  omega
theorem up_b (M : Int) (m : Mh) {n : Nat} (hn : n ≤ 500) (found : List D) (hf : found.length < 1000) (s4 s5 : Option U) : ∃ s5', l1_equal_maps_up_to_b (setL (upS M found s4 s5) [(4, .int n)]) m = some (.nx, upS M (if fits n = true then found ++ [.int n] else found) (some (.d (.int n))) s5', m) := by
  have e1 := equal_map_ok m hn
  have m1 : mulOk (N 2 n : Int) (-4) = true := mulOk_r (by decide)
  have m2 : mulOk (N 3 n : Int) 4 = true := mulOk_r (by decide)
  have m3 : mulOk (N 5 n : Int) (-1) = true := mulOk_r (by decide)
  have e2 := dot_ok m (N 2 n) (N 3 n) (N 5 n) (-4) 4 (-1) m1 m2 m3
  have hl : found.length < 16777216 := by omega
  refine ⟨some (.d (.tuple [.int (N 2 n), .int (N 3 n), .int (N 5 n)])), ?_⟩
  unfold fits
  by_cases q : 4 * (N 3 n : Int) - 4 * (N 2 n : Int) = (N 5 n : Int)
  · have q' : (N 2 n : Int) * -4 + (N 3 n : Int) * 4 + (N 5 n : Int) * -1 = 0 := by omega
    simp only [l1_equal_maps_up_to_b, upS, comma, cFn, sSeq, sSkip, sPar, setP, parU, caCons, caNil, cC, cVar, sRet, sRetN, cHand, cRt, rtU, cCall, argOk, okF, sIf, sAsg, asgU, sAsgA, cFz, fzU, sAsgG, gT, gsC, gsN, gN, setL, cTup, cLst, cDisp, allD, cIx, ixG, cGIx, sAug, slotD, _root_.M.c2, cB2, vB, addG, subG, mulG, fdivG, modG, negG, iMulG, iAddG, _root_.M.c1, cAdd, cSub, cMul, cFdiv, cMod, cNeg, bTru, truD, valU, bNot, bAnd, bOr, cNotV, cAndV, cOrV, cIf, eqB, neB, ltB, leB, gtB, geB, bEq, bNe, bLt, bLe, bGt, bGe, cEq, cNe, cLt, cLe, cGt, cGe, cCB, _root_.M.g1, _root_.M.g2, absG, intG, cAbs, cInt, cLen, lenG, cSum, sumG, intsD, sFzL, sFz, sExpr, sWhile, sFor, ciSeq, cjSeq, seqS, seqN, ciRng1, ciRng2, ciRng3, ciA, intsU, rg1, rg2, cLc, cbYes, wipeG, cMeth, isStr, isL, caD, cCellM, cellU, sStC, sSt, dU, stoF, cNew, sBreak, sCont, List.map, List.length_cons, List.length_nil, Option.bind_some, Option.map_some, List.replicate, List.cons_append, List.nil_append, List.getElem?_cons_succ, List.getElem?_cons_zero, List.set, if_true, trunc_self, List.all_cons, List.all_nil, Bool.and_true, Nat.reduceAdd, Nat.reduceSub, Nat.reduceEqDiff, Nat.reduceLeDiff, decide_eq_true_eq, reduceIte, atI_0, atI_1, atI_2, atI_3, atI_4, atI_5, atI_6, atI_7, atI_8, cQ, cGSl, coSome, coNone, cTupOf, tupG, wipeG, seqN, lpC, lpQ, ciZip, zipU, fzU, truB, List.zip, List.zipWith, asgU, dU, sOwn, appF, extF, isL, caD, zipD, enU, sumG, intsD, ciEnum, decide_true, decide_false, Bool.true_eq_false, Bool.false_eq_true, if_false, Bool.not_true, Bool.not_false, g1_equal_maps_up_to_e, e1, e2, q, q', hl]
  · have q' : ¬ ((N 2 n : Int) * -4 + (N 3 n : Int) * 4 + (N 5 n : Int) * -1 = 0) := by omega
    simp only [l1_equal_maps_up_to_b, upS, comma, cFn, sSeq, sSkip, sPar, setP, parU, caCons, caNil, cC, cVar, sRet, sRetN, cHand, cRt, rtU, cCall, argOk, okF, sIf, sAsg, asgU, sAsgA, cFz, fzU, sAsgG, gT, gsC, gsN, gN, setL, cTup, cLst, cDisp, allD, cIx, ixG, cGIx, sAug, slotD, _root_.M.c2, cB2, vB, addG, subG, mulG, fdivG, modG, negG, iMulG, iAddG, _root_.M.c1, cAdd, cSub, cMul, cFdiv, cMod, cNeg, bTru, truD, valU, bNot, bAnd, bOr, cNotV, cAndV, cOrV, cIf, eqB, neB, ltB, leB, gtB, geB, bEq, bNe, bLt, bLe, bGt, bGe, cEq, cNe, cLt, cLe, cGt, cGe, cCB, _root_.M.g1, _root_.M.g2, absG, intG, cAbs, cInt, cLen, lenG, cSum, sumG, intsD, sFzL, sFz, sExpr, sWhile, sFor, ciSeq, cjSeq, seqS, seqN, ciRng1, ciRng2, ciRng3, ciA, intsU, rg1, rg2, cLc, cbYes, wipeG, cMeth, isStr, isL, caD, cCellM, cellU, sStC, sSt, dU, stoF, cNew, sBreak, sCont, List.map, List.length_cons, List.length_nil, Option.bind_some, Option.map_some, List.replicate, List.cons_append, List.nil_append, List.getElem?_cons_succ, List.getElem?_cons_zero, List.set, if_true, trunc_self, List.all_cons, List.all_nil, Bool.and_true, Nat.reduceAdd, Nat.reduceSub, Nat.reduceEqDiff, Nat.reduceLeDiff, decide_eq_true_eq, reduceIte, atI_0, atI_1, atI_2, atI_3, atI_4, atI_5, atI_6, atI_7, atI_8, cQ, cGSl, coSome, coNone, cTupOf, tupG, wipeG, seqN, lpC, lpQ, ciZip, zipU, fzU, truB, List.zip, List.zipWith, asgU, dU, sOwn, appF, extF, isL, caD, zipD, enU, sumG, intsD, ciEnum, decide_true, decide_false, Bool.true_eq_false, Bool.false_eq_true, if_false, Bool.not_true, Bool.not_false, g1_equal_maps_up_to_e, e1, e2, q, q', hl]
theorem rngD_eq (lo n : Nat) : rngD (lo : Int) n = (List.range' lo n).map fun i => PyData.int (i : Nat) := by
  unfold rngD
  rw [List.range'_eq_map_range, List.map_map]
  refine List.map_congr_left fun i _ => ?_
  show _ = PyData.int ((lo + i : Nat) : Int)
  congr 1
theorem up_loop (M : Int) (m : Mh) : ∀ (j k : Nat) (found : List D) (s4 s5 : Option U), k + j ≤ 500 → found.length + j < 1000 →
    ∃ s4' s5', lpF (gN 4) l1_equal_maps_up_to_b ((List.range' k j).map fun i => PyData.int (i : Nat)) (upS M found s4 s5) m = some (.nx, upS M (found ++ ((List.range' k j).filter fits).map fun i => PyData.int (i : Nat)) s4' s5', m)
  | 0, k, found, s4, s5, _, _ => ⟨s4, s5, by simp [lpF]⟩
  | j + 1, k, found, s4, s5, h, h2 => by
    obtain ⟨s5', e⟩ := up_b M m (n := k) (by omega) found (by omega) s4 s5
    obtain ⟨a, b, e2⟩ := up_loop M m j (k + 1) (if fits k = true then found ++ [.int k] else found) (some (.d (.int k))) s5' (by omega) (by split <;> (try simp only [List.length_append, List.length_cons, List.length_nil]) <;> omega)
    refine ⟨a, b, ?_⟩
    rw [List.range'_succ, List.map_cons, lpF_go (l := [(4, .int k)]) rfl e, e2]
    cases hk : fits k with
    | true => simp [hk]
    | false => simp [hk]
def sizes : List Nat := [5, 7, 12, 19, 24, 26, 31, 36, 38, 43, 45, 50, 55, 57]
theorem sizes_eq : (List.range' 1 60).filter fits = sizes := by decide +kernel
theorem up_run (m : Mh) (M : Int) (xs L : List D) (s4 s5 : Option U) (r2 : (i62 1 && i62 (M + 1)) = true) (r : rngD 1 (M + 1 - 1).toNat = xs)
    (e : lpF (gN 4) l1_equal_maps_up_to_b xs (upS M [] none none) m = some (.nx, upS M L s4 s5, m)) : f_equal_maps_up_to [.d (.int M), comma, .d (.int 3)] m = some (.d (.list L), m) := by
  simp only [upS] at e
  simp only [f_equal_maps_up_to, b_equal_maps_up_to, cFn, sSeq, sSkip, sPar, setP, parU, caCons, caNil, cC, cVar, sRet, sRetN, cHand, cRt, rtU, cCall, argOk, okF, sIf, sAsg, asgU, sAsgA, cFz, fzU, sAsgG, gT, gsC, gsN, gN, setL, cTup, cLst, cDisp, allD, cIx, ixG, cGIx, sAug, slotD, _root_.M.c2, cB2, vB, addG, subG, mulG, fdivG, modG, negG, iMulG, iAddG, _root_.M.c1, cAdd, cSub, cMul, cFdiv, cMod, cNeg, bTru, truD, valU, bNot, bAnd, bOr, cNotV, cAndV, cOrV, cIf, eqB, neB, ltB, leB, gtB, geB, bEq, bNe, bLt, bLe, bGt, bGe, cEq, cNe, cLt, cLe, cGt, cGe, cCB, _root_.M.g1, _root_.M.g2, absG, intG, cAbs, cInt, cLen, lenG, cSum, sumG, intsD, sFzL, sFz, sExpr, sWhile, sFor, ciSeq, cjSeq, seqS, seqN, ciRng1, ciRng2, ciRng3, ciA, intsU, rg1, rg2, cLc, cbYes, wipeG, cMeth, isStr, isL, caD, cCellM, cellU, sStC, sSt, dU, stoF, cNew, sBreak, sCont, List.map, List.length_cons, List.length_nil, Option.bind_some, Option.map_some, List.replicate, List.cons_append, List.nil_append, List.getElem?_cons_succ, List.getElem?_cons_zero, List.set, if_true, trunc_self, List.all_cons, List.all_nil, Bool.and_true, Nat.reduceAdd, Nat.reduceSub, Nat.reduceEqDiff, Nat.reduceLeDiff, decide_eq_true_eq, reduceIte, atI_0, atI_1, atI_2, atI_3, atI_4, atI_5, atI_6, atI_7, atI_8, cQ, cGSl, coSome, coNone, cTupOf, tupG, wipeG, seqN, lpC, lpQ, ciZip, zipU, fzU, truB, List.zip, List.zipWith, asgU, dU, sOwn, appF, extF, isL, caD, zipD, enU, sumG, intsD, ciEnum, decide_true, decide_false, Bool.true_eq_false, Bool.false_eq_true, if_false, Bool.not_true, Bool.not_false, r2, r, e]
theorem up_ok (m : Mh) : f_equal_maps_up_to [.d (.int 60), comma, .d (.int 3)] m = some (.d (.list (sizes.map fun i => PyData.int (i : Nat))), m) := by
  obtain ⟨a, b, e⟩ := up_loop 60 m 60 1 [] none none (by decide) (by decide)
  rw [← rngD_eq 1 60, List.nil_append, sizes_eq] at e
  exact up_run m 60 _ _ a b (by decide) rfl e
end K57
end M

namespace M
open PySem PySem.Spec
namespace K57
theorem draw_eq : f__law_draw = fDraw := rfl
def T (r : Nat) : Int := [3, 0, 4, 1, 5, 2, 6].getD r 0
def W (r : Nat) : Int := [5, 0, 7, 2, 9, 4, 11].getD r 0
theorem seven {r : Nat} (h : r < 7) : r = 0 ∨ r = 1 ∨ r = 2 ∨ r = 3 ∨ r = 4 ∨ r = 5 ∨ r = 6 := by omega
theorem tone_ok (m : Mh) (q : Int) {r : Nat} (hr : r < 7) : f_tone_at [.d (.int (7 * q + r - 1))] m = some (.d (.tuple [.int (T r), .int q]), m) := by
  have e1 : fmodI (7 * q + (r : Int) - 1 + 1) 7 = r := by
    rw [fmodI_pos (by decide)]
    omega
  have e2 : fdivI (7 * q + (r : Int) - 1 + 1) 7 = q := by
    rw [fdivI_pos (by decide)]
    omega
  have o1 : ¬ (7 : Int) = 0 := by decide
  have o2 : fdivOk 7 = true := by decide
  have key : ∀ m' : Mh, cMeth (cC k_SCALE) isStr sindexF (caCons (cIx (cC k_LETTERS) (cVar 1)) caNil) [some (.d (.int (7 * q + (r : Int) - 1))), some (.d (.int (r : Int)))] m' = some (.d (.int (T r)), m') := fun m' => by
    rcases seven hr with h | h | h | h | h | h | h <;> subst h <;> kernel_rfl
  simp only [cIx] at key
  simp only [f_tone_at, b_tone_at, cFn, sSeq, sSkip, sPar, setP, parU, caCons, caNil, cC, cVar, sRet, sRetN, cHand, cRt, rtU, cCall, argOk, okF, sIf, sAsg, asgU, sAsgA, cFz, fzU, sAsgG, gT, gsC, gsN, gN, setL, cTup, cLst, cDisp, allD, cIx, ixG, cGIx, sAug, slotD, _root_.M.c2, cB2, vB, addG, subG, mulG, fdivG, modG, negG, iMulG, iAddG, _root_.M.c1, cAdd, cSub, cMul, cFdiv, cMod, cNeg, bTru, truD, valU, bNot, bAnd, bOr, cNotV, cAndV, cOrV, cIf, eqB, neB, ltB, leB, gtB, geB, bEq, bNe, bLt, bLe, bGt, bGe, cEq, cNe, cLt, cLe, cGt, cGe, cCB, _root_.M.g1, _root_.M.g2, absG, intG, cAbs, cInt, cLen, lenG, cSum, sumG, intsD, sFzL, sFz, sExpr, sWhile, sFor, ciSeq, cjSeq, seqS, seqN, ciRng1, ciRng2, ciRng3, ciA, intsU, rg1, rg2, cLc, cbYes, wipeG, isStr, isL, caD, cCellM, cellU, sStC, sSt, dU, stoF, cNew, sBreak, sCont, List.map, List.length_cons, List.length_nil, Option.bind_some, Option.map_some, List.replicate, List.cons_append, List.nil_append, List.getElem?_cons_succ, List.getElem?_cons_zero, List.set, if_true, trunc_self, List.all_cons, List.all_nil, Bool.and_true, Nat.reduceAdd, Nat.reduceSub, Nat.reduceEqDiff, Nat.reduceLeDiff, decide_eq_true_eq, reduceIte, atI_0, atI_1, atI_2, atI_3, atI_4, atI_5, atI_6, atI_7, atI_8, cQ, cGSl, coSome, coNone, cTupOf, tupG, wipeG, seqN, lpC, lpQ, ciZip, zipU, fzU, truB, List.zip, List.zipWith, asgU, dU, sOwn, appF, extF, isL, caD, zipD, enU, sumG, intsD, ciEnum, decide_true, decide_false, Bool.true_eq_false, Bool.false_eq_true, if_false, Bool.not_true, Bool.not_false, o1, o2, e1, e2, key]
theorem fifth_ok (m : Mh) (a o : Int) {r : Nat} (hr : r < 7) : f_fifth_of [.d (.tuple [.int (T r), .int a, .int o])] m = some (.d (.int ((r : Int) - 1 + 7 * a)), m) := by
  have n1 : mulOk 7 a = true := mulOk_l (by decide)
  have key : ∀ m' : Mh, cMeth (cC k_LETTERS) isStr sindexF (caCons (cIx (cC k_SCALE) (cIx (cVar 0) (cC (.int 0)))) caNil) [some (.d (.tuple [.int (T r), .int a, .int o]))] m' = some (.d (.int r), m') := fun m' => by
    rcases seven hr with h | h | h | h | h | h | h <;> subst h <;> kernel_rfl
  simp only [cIx] at key
  simp only [f_fifth_of, b_fifth_of, cFn, sSeq, sSkip, sPar, setP, parU, caCons, caNil, cC, cVar, sRet, sRetN, cHand, cRt, rtU, cCall, argOk, okF, sIf, sAsg, asgU, sAsgA, cFz, fzU, sAsgG, gT, gsC, gsN, gN, setL, cTup, cLst, cDisp, allD, cIx, ixG, cGIx, sAug, slotD, _root_.M.c2, cB2, vB, addG, subG, mulG, fdivG, modG, negG, iMulG, iAddG, _root_.M.c1, cAdd, cSub, cMul, cFdiv, cMod, cNeg, bTru, truD, valU, bNot, bAnd, bOr, cNotV, cAndV, cOrV, cIf, eqB, neB, ltB, leB, gtB, geB, bEq, bNe, bLt, bLe, bGt, bGe, cEq, cNe, cLt, cLe, cGt, cGe, cCB, _root_.M.g1, _root_.M.g2, absG, intG, cAbs, cInt, cLen, lenG, cSum, sumG, intsD, sFzL, sFz, sExpr, sWhile, sFor, ciSeq, cjSeq, seqS, seqN, ciRng1, ciRng2, ciRng3, ciA, intsU, rg1, rg2, cLc, cbYes, wipeG, isStr, isL, caD, cCellM, cellU, sStC, sSt, dU, stoF, cNew, sBreak, sCont, List.map, List.length_cons, List.length_nil, Option.bind_some, Option.map_some, List.replicate, List.cons_append, List.nil_append, List.getElem?_cons_succ, List.getElem?_cons_zero, List.set, if_true, trunc_self, List.all_cons, List.all_nil, Bool.and_true, Nat.reduceAdd, Nat.reduceSub, Nat.reduceEqDiff, Nat.reduceLeDiff, decide_eq_true_eq, reduceIte, atI_0, atI_1, atI_2, atI_3, atI_4, atI_5, atI_6, atI_7, atI_8, cQ, cGSl, coSome, coNone, cTupOf, tupG, wipeG, seqN, lpC, lpQ, ciZip, zipU, fzU, truB, List.zip, List.zipWith, asgU, dU, sOwn, appF, extF, isL, caD, zipD, enU, sumG, intsD, ciEnum, decide_true, decide_false, Bool.true_eq_false, Bool.false_eq_true, if_false, Bool.not_true, Bool.not_false, n1, key]
theorem height_ok (m : Mh) (a o : Int) {r : Nat} (hr : r < 7) : f_height_of [.d (.tuple [.int (T r), .int a, .int o])] m = some (.d (.int (W r + a + 12 * o)), m) := by
  have n1 : mulOk 12 o = true := mulOk_l (by decide)
  have key : ∀ m' : Mh, cGIx k_WHITE (cIx (cVar 0) (cC (.int 0))) [some (.d (.tuple [.int (T r), .int a, .int o]))] m' = some (.d (.int (W r)), m') := fun m' => by
    rcases seven hr with h | h | h | h | h | h | h <;> subst h <;> kernel_rfl
  simp only [cIx] at key
  simp only [f_height_of, b_height_of, cFn, sSeq, sSkip, sPar, setP, parU, caCons, caNil, cC, cVar, sRet, sRetN, cHand, cRt, rtU, cCall, argOk, okF, sIf, sAsg, asgU, sAsgA, cFz, fzU, sAsgG, gT, gsC, gsN, gN, setL, cTup, cLst, cDisp, allD, cIx, ixG, sAug, slotD, _root_.M.c2, cB2, vB, addG, subG, mulG, fdivG, modG, negG, iMulG, iAddG, _root_.M.c1, cAdd, cSub, cMul, cFdiv, cMod, cNeg, bTru, truD, valU, bNot, bAnd, bOr, cNotV, cAndV, cOrV, cIf, eqB, neB, ltB, leB, gtB, geB, bEq, bNe, bLt, bLe, bGt, bGe, cEq, cNe, cLt, cLe, cGt, cGe, cCB, _root_.M.g1, _root_.M.g2, absG, intG, cAbs, cInt, cLen, lenG, cSum, sumG, intsD, sFzL, sFz, sExpr, sWhile, sFor, ciSeq, cjSeq, seqS, seqN, ciRng1, ciRng2, ciRng3, ciA, intsU, rg1, rg2, cLc, cbYes, wipeG, cMeth, isStr, isL, caD, cCellM, cellU, sStC, sSt, dU, stoF, cNew, sBreak, sCont, List.map, List.length_cons, List.length_nil, Option.bind_some, Option.map_some, List.replicate, List.cons_append, List.nil_append, List.getElem?_cons_succ, List.getElem?_cons_zero, List.set, if_true, trunc_self, List.all_cons, List.all_nil, Bool.and_true, Nat.reduceAdd, Nat.reduceSub, Nat.reduceEqDiff, Nat.reduceLeDiff, decide_eq_true_eq, reduceIte, atI_0, atI_1, atI_2, atI_3, atI_4, atI_5, atI_6, atI_7, atI_8, cQ, cGSl, coSome, coNone, cTupOf, tupG, wipeG, seqN, lpC, lpQ, ciZip, zipU, fzU, truB, List.zip, List.zipWith, asgU, dU, sOwn, appF, extF, isL, caD, zipD, enU, sumG, intsD, ciEnum, decide_true, decide_false, Bool.true_eq_false, Bool.false_eq_true, if_false, Bool.not_true, Bool.not_false, n1, key]
theorem degree_ok (m : Mh) (t a o : Int) : f_degree_of [.d (.tuple [.int t, .int a, .int o])] m = some (.d (.int (t + 7 * o)), m) := by
  have n1 : mulOk 7 o = true := mulOk_l (by decide)
  simp only [f_degree_of, b_degree_of, cFn, sSeq, sSkip, sPar, setP, parU, caCons, caNil, cC, cVar, sRet, sRetN, cHand, cRt, rtU, cCall, argOk, okF, sIf, sAsg, asgU, sAsgA, cFz, fzU, sAsgG, gT, gsC, gsN, gN, setL, cTup, cLst, cDisp, allD, cIx, ixG, cGIx, sAug, slotD, _root_.M.c2, cB2, vB, addG, subG, mulG, fdivG, modG, negG, iMulG, iAddG, _root_.M.c1, cAdd, cSub, cMul, cFdiv, cMod, cNeg, bTru, truD, valU, bNot, bAnd, bOr, cNotV, cAndV, cOrV, cIf, eqB, neB, ltB, leB, gtB, geB, bEq, bNe, bLt, bLe, bGt, bGe, cEq, cNe, cLt, cLe, cGt, cGe, cCB, _root_.M.g1, _root_.M.g2, absG, intG, cAbs, cInt, cLen, lenG, cSum, sumG, intsD, sFzL, sFz, sExpr, sWhile, sFor, ciSeq, cjSeq, seqS, seqN, ciRng1, ciRng2, ciRng3, ciA, intsU, rg1, rg2, cLc, cbYes, wipeG, cMeth, isStr, isL, caD, cCellM, cellU, sStC, sSt, dU, stoF, cNew, sBreak, sCont, List.map, List.length_cons, List.length_nil, Option.bind_some, Option.map_some, List.replicate, List.cons_append, List.nil_append, List.getElem?_cons_succ, List.getElem?_cons_zero, List.set, if_true, trunc_self, List.all_cons, List.all_nil, Bool.and_true, Nat.reduceAdd, Nat.reduceSub, Nat.reduceEqDiff, Nat.reduceLeDiff, decide_eq_true_eq, reduceIte, atI_0, atI_1, atI_2, atI_3, atI_4, atI_5, atI_6, atI_7, atI_8, cQ, cGSl, coSome, coNone, cTupOf, tupG, wipeG, seqN, lpC, lpQ, ciZip, zipU, fzU, truB, List.zip, List.zipWith, asgU, dU, sOwn, appF, extF, isL, caD, zipD, enU, sumG, intsD, ciEnum, decide_true, decide_false, Bool.true_eq_false, Bool.false_eq_true, if_false, Bool.not_true, Bool.not_false, n1]
theorem interval_ok (m : Mh) (a o b u : Int) {r s : Nat} (hr : r < 7) (hs : s < 7) : f_interval [.d (.tuple [.int (T r), .int a, .int o]), .d (.tuple [.int (T s), .int b, .int u])] m =
    some (.d (.tuple [.int (T s + 7 * u - (T r + 7 * o)), .int (W s + b + 12 * u - (W r + a + 12 * o))]), m) := by
  have e1 := fun m => height_ok m a o hr
  have e2 := fun m => height_ok m b u hs
  have e3 := fun m => degree_ok m (T r) a o
  have e4 := fun m => degree_ok m (T s) b u
  simp only [f_interval, b_interval, cFn, sSeq, sSkip, sPar, setP, parU, caCons, caNil, cC, cVar, sRet, sRetN, cHand, cRt, rtU, cCall, argOk, okF, sIf, sAsg, asgU, sAsgA, cFz, fzU, sAsgG, gT, gsC, gsN, gN, setL, cTup, cLst, cDisp, allD, cIx, ixG, cGIx, sAug, slotD, _root_.M.c2, cB2, vB, addG, subG, mulG, fdivG, modG, negG, iMulG, iAddG, _root_.M.c1, cAdd, cSub, cMul, cFdiv, cMod, cNeg, bTru, truD, valU, bNot, bAnd, bOr, cNotV, cAndV, cOrV, cIf, eqB, neB, ltB, leB, gtB, geB, bEq, bNe, bLt, bLe, bGt, bGe, cEq, cNe, cLt, cLe, cGt, cGe, cCB, _root_.M.g1, _root_.M.g2, absG, intG, cAbs, cInt, cLen, lenG, cSum, sumG, intsD, sFzL, sFz, sExpr, sWhile, sFor, ciSeq, cjSeq, seqS, seqN, ciRng1, ciRng2, ciRng3, ciA, intsU, rg1, rg2, cLc, cbYes, wipeG, cMeth, isStr, isL, caD, cCellM, cellU, sStC, sSt, dU, stoF, cNew, sBreak, sCont, List.map, List.length_cons, List.length_nil, Option.bind_some, Option.map_some, List.replicate, List.cons_append, List.nil_append, List.getElem?_cons_succ, List.getElem?_cons_zero, List.set, if_true, trunc_self, List.all_cons, List.all_nil, Bool.and_true, Nat.reduceAdd, Nat.reduceSub, Nat.reduceEqDiff, Nat.reduceLeDiff, decide_eq_true_eq, reduceIte, atI_0, atI_1, atI_2, atI_3, atI_4, atI_5, atI_6, atI_7, atI_8, cQ, cGSl, coSome, coNone, cTupOf, tupG, wipeG, seqN, lpC, lpQ, ciZip, zipU, fzU, truB, List.zip, List.zipWith, asgU, dU, sOwn, appF, extF, isL, caD, zipD, enU, sumG, intsD, ciEnum, decide_true, decide_false, Bool.true_eq_false, Bool.false_eq_true, if_false, Bool.not_true, Bool.not_false, e1, e2, e3, e4]
theorem fifths_ok (m : Mh) (d h : Int) : f_fifths_of [.d (.tuple [.int d, .int h])] m = some (.d (.int (7 * h - 12 * d)), m) := by
  have n1 : mulOk 7 h = true := mulOk_l (by decide)
  have n2 : mulOk 12 d = true := mulOk_l (by decide)
  simp only [f_fifths_of, b_fifths_of, cFn, sSeq, sSkip, sPar, setP, parU, caCons, caNil, cC, cVar, sRet, sRetN, cHand, cRt, rtU, cCall, argOk, okF, sIf, sAsg, asgU, sAsgA, cFz, fzU, sAsgG, gT, gsC, gsN, gN, setL, cTup, cLst, cDisp, allD, cIx, ixG, cGIx, sAug, slotD, _root_.M.c2, cB2, vB, addG, subG, mulG, fdivG, modG, negG, iMulG, iAddG, _root_.M.c1, cAdd, cSub, cMul, cFdiv, cMod, cNeg, bTru, truD, valU, bNot, bAnd, bOr, cNotV, cAndV, cOrV, cIf, eqB, neB, ltB, leB, gtB, geB, bEq, bNe, bLt, bLe, bGt, bGe, cEq, cNe, cLt, cLe, cGt, cGe, cCB, _root_.M.g1, _root_.M.g2, absG, intG, cAbs, cInt, cLen, lenG, cSum, sumG, intsD, sFzL, sFz, sExpr, sWhile, sFor, ciSeq, cjSeq, seqS, seqN, ciRng1, ciRng2, ciRng3, ciA, intsU, rg1, rg2, cLc, cbYes, wipeG, cMeth, isStr, isL, caD, cCellM, cellU, sStC, sSt, dU, stoF, cNew, sBreak, sCont, List.map, List.length_cons, List.length_nil, Option.bind_some, Option.map_some, List.replicate, List.cons_append, List.nil_append, List.getElem?_cons_succ, List.getElem?_cons_zero, List.set, if_true, trunc_self, List.all_cons, List.all_nil, Bool.and_true, Nat.reduceAdd, Nat.reduceSub, Nat.reduceEqDiff, Nat.reduceLeDiff, decide_eq_true_eq, reduceIte, atI_0, atI_1, atI_2, atI_3, atI_4, atI_5, atI_6, atI_7, atI_8, cQ, cGSl, coSome, coNone, cTupOf, tupG, wipeG, seqN, lpC, lpQ, ciZip, zipU, fzU, truB, List.zip, List.zipWith, asgU, dU, sOwn, appF, extF, isL, caD, zipD, enU, sumG, intsD, ciEnum, decide_true, decide_false, Bool.true_eq_false, Bool.false_eq_true, if_false, Bool.not_true, Bool.not_false, n1, n2]
theorem TW {r : Nat} (hr : r < 7) : 7 * W r - 12 * T r = (r : Int) - 1 ∧ True := by
  rcases seven hr with h | h | h | h | h | h | h <;> subst h <;> decide
theorem steps_ok (m : Mh) (a b c x y z : Int) (ha : mulOk a x = true) (hb : mulOk b y = true) (hc : mulOk c z = true) : f_steps_of [.d (.tuple [.int a, .int b, .int c]), .d (.tuple [.int x, .int y, .int z])] m = some (.d (.int (a * x + b * y + c * z)), m) := by
  have e := dot_ok m a b c x y z ha hb hc
  simp only [f_steps_of, b_steps_of, cFn, sSeq, sSkip, sPar, setP, parU, caCons, caNil, cC, cVar, sRet, sRetN, cHand, cRt, rtU, cCall, argOk, okF, sIf, sAsg, asgU, sAsgA, cFz, fzU, sAsgG, gT, gsC, gsN, gN, setL, cTup, cLst, cDisp, allD, cIx, ixG, cGIx, sAug, slotD, _root_.M.c2, cB2, vB, addG, subG, mulG, fdivG, modG, negG, iMulG, iAddG, _root_.M.c1, cAdd, cSub, cMul, cFdiv, cMod, cNeg, bTru, truD, valU, bNot, bAnd, bOr, cNotV, cAndV, cOrV, cIf, eqB, neB, ltB, leB, gtB, geB, bEq, bNe, bLt, bLe, bGt, bGe, cEq, cNe, cLt, cLe, cGt, cGe, cCB, _root_.M.g1, _root_.M.g2, absG, intG, cAbs, cInt, cLen, lenG, cSum, sumG, intsD, sFzL, sFz, sExpr, sWhile, sFor, ciSeq, cjSeq, seqS, seqN, ciRng1, ciRng2, ciRng3, ciA, intsU, rg1, rg2, cLc, cbYes, wipeG, cMeth, isStr, isL, caD, cCellM, cellU, sStC, sSt, dU, stoF, cNew, sBreak, sCont, List.map, List.length_cons, List.length_nil, Option.bind_some, Option.map_some, List.replicate, List.cons_append, List.nil_append, List.getElem?_cons_succ, List.getElem?_cons_zero, List.set, if_true, trunc_self, List.all_cons, List.all_nil, Bool.and_true, Nat.reduceAdd, Nat.reduceSub, Nat.reduceEqDiff, Nat.reduceLeDiff, decide_eq_true_eq, reduceIte, atI_0, atI_1, atI_2, atI_3, atI_4, atI_5, atI_6, atI_7, atI_8, cQ, cGSl, coSome, coNone, cTupOf, tupG, wipeG, seqN, lpC, lpQ, ciZip, zipU, fzU, truB, List.zip, List.zipWith, asgU, dU, sOwn, appF, extF, isL, caD, zipD, enU, sumG, intsD, ciEnum, decide_true, decide_false, Bool.true_eq_false, Bool.false_eq_true, if_false, Bool.not_true, Bool.not_false, e]
end K57
end M

namespace M
open PySem PySem.Spec
namespace K57
def mapsD : D := .tuple [.tuple [.int 1, .int 0, .int (-4)], .tuple [.int 0, .int 1, .int 4]]
theorem maps_ok (x : MO) : f_maps_of [comma, .d (.int 3)] [x] = some (.d mapsD, [x]) := by kernel_rfl
theorem freedom_ok (x : MO) : f_freedom [comma, .d (.int 3)] [x] = some (.d (.int 2), [x]) := by kernel_rfl
theorem generator_ok (x : MO) : f_generator_of [comma, .d (.int 3)] [x] = some (.d mapsD, [x]) := by kernel_rfl
theorem commas_ok (x : MO) : f_commas_of [.d mapsD, .d (.int 3)] [x] = some (.d (.tuple [.tuple [.int 4, .int (-4), .int 1]]), [x]) := by kernel_rfl
theorem tempered_ok (x : MO) : f_is_tempered [.d mapsD, .d (.tuple [.int (-4), .int 4, .int (-1)])] [x] = some (.d (.bool true), [x]) := by kernel_rfl
structure Sz (s f g per : Int) : Prop where
  em : ∀ m, f_equal_map [.d (.int s), .d (.int 3)] m = some (.d (.tuple [.int s, .int (s + f), .int (4 * f)]), m)
  li : ∀ x, f_lies_in [.d mapsD, .d (.tuple [.int s, .int (s + f), .int (4 * f)])] [x] = some (.d (.bool true), [x])
  cd : ∀ x, f_common_divisor [.d (.int s), .d (.int f)] [x] = some (.d (.int g), [x])
  pe : ∀ x o : Int, (x * f + o * s) % s = 0 ↔ x % per = 0
  b1 : 0 < s ∧ s ≤ 100
  b2 : 0 < f ∧ f ≤ 100
  b3 : 0 < g ∧ g ≤ 100
  b4 : 0 < per
  b5 : fdivI s g = per
theorem em_of {n f : Nat} (hn : n ≤ 500) (h2 : N 2 n = n) (h3 : N 3 n = n + f) (h5 : N 5 n = 4 * f) (m : Mh) : f_equal_map [.d (.int n), .d (.int 3)] m = some (.d (.tuple [.int n, .int ((n : Int) + f), .int (4 * (f : Int))]), m) := by
  rw [equal_map_ok m hn, h2, h3, h5]
  rfl
theorem sz5 : Sz 5 3 1 5 := ⟨fun m => em_of (n := 5) (f := 3) (by decide) (by decide +kernel) (by decide +kernel) (by decide +kernel) m, fun x => by kernel_rfl, fun x => by kernel_rfl, fun x o => by omega, by decide, by decide, by decide, by decide, by decide⟩
theorem sz7 : Sz 7 4 1 7 := ⟨fun m => em_of (n := 7) (f := 4) (by decide) (by decide +kernel) (by decide +kernel) (by decide +kernel) m, fun x => by kernel_rfl, fun x => by kernel_rfl, fun x o => by omega, by decide, by decide, by decide, by decide, by decide⟩
theorem sz12 : Sz 12 7 1 12 := ⟨fun m => em_of (n := 12) (f := 7) (by decide) (by decide +kernel) (by decide +kernel) (by decide +kernel) m, fun x => by kernel_rfl, fun x => by kernel_rfl, fun x o => by omega, by decide, by decide, by decide, by decide, by decide⟩
theorem sz19 : Sz 19 11 1 19 := ⟨fun m => em_of (n := 19) (f := 11) (by decide) (by decide +kernel) (by decide +kernel) (by decide +kernel) m, fun x => by kernel_rfl, fun x => by kernel_rfl, fun x o => by omega, by decide, by decide, by decide, by decide, by decide⟩
theorem sz24 : Sz 24 14 2 12 := ⟨fun m => em_of (n := 24) (f := 14) (by decide) (by decide +kernel) (by decide +kernel) (by decide +kernel) m, fun x => by kernel_rfl, fun x => by kernel_rfl, fun x o => by omega, by decide, by decide, by decide, by decide, by decide⟩
theorem sz26 : Sz 26 15 1 26 := ⟨fun m => em_of (n := 26) (f := 15) (by decide) (by decide +kernel) (by decide +kernel) (by decide +kernel) m, fun x => by kernel_rfl, fun x => by kernel_rfl, fun x o => by omega, by decide, by decide, by decide, by decide, by decide⟩
theorem sz31 : Sz 31 18 1 31 := ⟨fun m => em_of (n := 31) (f := 18) (by decide) (by decide +kernel) (by decide +kernel) (by decide +kernel) m, fun x => by kernel_rfl, fun x => by kernel_rfl, fun x o => by omega, by decide, by decide, by decide, by decide, by decide⟩
theorem sz36 : Sz 36 21 3 12 := ⟨fun m => em_of (n := 36) (f := 21) (by decide) (by decide +kernel) (by decide +kernel) (by decide +kernel) m, fun x => by kernel_rfl, fun x => by kernel_rfl, fun x o => by omega, by decide, by decide, by decide, by decide, by decide⟩
theorem sz38 : Sz 38 22 2 19 := ⟨fun m => em_of (n := 38) (f := 22) (by decide) (by decide +kernel) (by decide +kernel) (by decide +kernel) m, fun x => by kernel_rfl, fun x => by kernel_rfl, fun x o => by omega, by decide, by decide, by decide, by decide, by decide⟩
theorem sz43 : Sz 43 25 1 43 := ⟨fun m => em_of (n := 43) (f := 25) (by decide) (by decide +kernel) (by decide +kernel) (by decide +kernel) m, fun x => by kernel_rfl, fun x => by kernel_rfl, fun x o => by omega, by decide, by decide, by decide, by decide, by decide⟩
theorem sz45 : Sz 45 26 1 45 := ⟨fun m => em_of (n := 45) (f := 26) (by decide) (by decide +kernel) (by decide +kernel) (by decide +kernel) m, fun x => by kernel_rfl, fun x => by kernel_rfl, fun x o => by omega, by decide, by decide, by decide, by decide, by decide⟩
theorem sz50 : Sz 50 29 1 50 := ⟨fun m => em_of (n := 50) (f := 29) (by decide) (by decide +kernel) (by decide +kernel) (by decide +kernel) m, fun x => by kernel_rfl, fun x => by kernel_rfl, fun x o => by omega, by decide, by decide, by decide, by decide, by decide⟩
theorem sz55 : Sz 55 32 1 55 := ⟨fun m => em_of (n := 55) (f := 32) (by decide) (by decide +kernel) (by decide +kernel) (by decide +kernel) m, fun x => by kernel_rfl, fun x => by kernel_rfl, fun x o => by omega, by decide, by decide, by decide, by decide, by decide⟩
theorem sz57 : Sz 57 33 3 19 := ⟨fun m => em_of (n := 57) (f := 33) (by decide) (by decide +kernel) (by decide +kernel) (by decide +kernel) m, fun x => by kernel_rfl, fun x => by kernel_rfl, fun x o => by omega, by decide, by decide, by decide, by decide, by decide⟩
theorem sizes_at {d : Int} (h : 0 ≤ d) (h2 : d < 14) : ∃ s f g per, Sz s f g per ∧ L2.atI (sizes.map fun i => PyData.int (i : Nat)) d = some (.int s) := by
  have : d = 0 ∨ d = 1 ∨ d = 2 ∨ d = 3 ∨ d = 4 ∨ d = 5 ∨ d = 6 ∨ d = 7 ∨ d = 8 ∨ d = 9 ∨ d = 10 ∨ d = 11 ∨ d = 12 ∨ d = 13 := by omega
  rcases this with h | h | h | h | h | h | h | h | h | h | h | h | h | h
  · exact ⟨_, _, _, _, sz5, by subst h; kernel_rfl⟩
  · exact ⟨_, _, _, _, sz7, by subst h; kernel_rfl⟩
  · exact ⟨_, _, _, _, sz12, by subst h; kernel_rfl⟩
  · exact ⟨_, _, _, _, sz19, by subst h; kernel_rfl⟩
  · exact ⟨_, _, _, _, sz24, by subst h; kernel_rfl⟩
  · exact ⟨_, _, _, _, sz26, by subst h; kernel_rfl⟩
  · exact ⟨_, _, _, _, sz31, by subst h; kernel_rfl⟩
  · exact ⟨_, _, _, _, sz36, by subst h; kernel_rfl⟩
  · exact ⟨_, _, _, _, sz38, by subst h; kernel_rfl⟩
  · exact ⟨_, _, _, _, sz43, by subst h; kernel_rfl⟩
  · exact ⟨_, _, _, _, sz45, by subst h; kernel_rfl⟩
  · exact ⟨_, _, _, _, sz50, by subst h; kernel_rfl⟩
  · exact ⟨_, _, _, _, sz55, by subst h; kernel_rfl⟩
  · exact ⟨_, _, _, _, sz57, by subst h; kernel_rfl⟩
end K57
end M

namespace M
open PySem PySem.Spec
namespace K57
def rowD (n : Nat) : D := .tuple [.int (N 2 n), .int (N 3 n), .int (N 5 n)]
def rowsD : List D := (List.range' 1 60).map rowD
theorem rows_ok (ρ : Sg) (h : 6 < ρ.length) (m : Mh) : cLc (ciRng2 (cC (.int 1)) (cC (.int 61))) (gN 6) cbYes e1_law_e [6] ρ m = some (.tmp (.list rowsD), m) := by
  have e := lpC_map (g := gN 6) (t := cbYes) (e := e1_law_e) (ρ := wipeG ρ [6]) (m := m) (fun d => match d with | .int n => rowD n.toNat | _ => .none) ((List.range' 1 60).map fun i => PyData.int (i : Nat)) ?_
  · have r : ciRng2 (cC (.int 1)) (cC (.int 61)) ρ m = some ((List.range' 1 60).map fun i => PyData.int (i : Nat), m) := by
      rw [← rngD_eq 1 60]
      rfl
    unfold cLc
    rw [r, Option.bind_some]
    simp only [e, Option.bind_some]
    rw [List.map_map]
    have q : List.map ((fun d : D => match d with | .int n => rowD n.toNat | _ => PyData.none) ∘ fun i => PyData.int (i : Nat)) (List.range' 1 60) = rowsD := List.map_congr_left fun i _ => rfl
    rw [q, if_pos (by decide)]
  · intro d hd
    obtain ⟨i, hi, rfl⟩ := List.mem_map.mp hd
    have hi2 : i < 61 := by
      have := List.mem_range'.mp hi
      omega
    refine ⟨[(6, .int i)], rfl, rfl, ?_⟩
    have g : (setL (wipeG ρ [6]) [(6, .int i)])[6]? = some (some (.d (.int i))) := by
      simp [setL, wipeG, h]
    have e := equal_map_ok m (n := i) (by omega)
    show e1_law_e (setL (wipeG ρ [6]) [(6, .int i)]) m = some (.d (rowD i), m)
    generalize setL (wipeG ρ [6]) [(6, .int i)] = ρ' at g
    simp only [e1_law_e, cFn, sSeq, sSkip, sPar, setP, parU, caCons, caNil, cC, cVar, sRet, sRetN, cHand, cRt, rtU, cCall, argOk, okF, sIf, sAsg, asgU, sAsgA, cFz, fzU, sAsgG, gT, gsC, gsN, gN, setL, cTup, cLst, cDisp, allD, cIx, ixG, cGIx, sAug, slotD, _root_.M.c2, cB2, vB, addG, subG, mulG, fdivG, modG, negG, iMulG, iAddG, _root_.M.c1, cAdd, cSub, cMul, cFdiv, cMod, cNeg, bTru, truD, valU, bNot, bAnd, bOr, cNotV, cAndV, cOrV, cIf, eqB, neB, ltB, leB, gtB, geB, bEq, bNe, bLt, bLe, bGt, bGe, cEq, cNe, cLt, cLe, cGt, cGe, cCB, _root_.M.g1, _root_.M.g2, absG, intG, cAbs, cInt, cLen, lenG, cSum, sumG, intsD, sFzL, sFz, sExpr, sWhile, sFor, ciSeq, cjSeq, seqS, seqN, ciRng1, ciRng2, ciRng3, ciA, intsU, rg1, rg2, cLc, cbYes, wipeG, cMeth, isStr, isL, caD, cCellM, cellU, sStC, sSt, dU, stoF, cNew, sBreak, sCont, List.map, List.length_cons, List.length_nil, Option.bind_some, Option.map_some, List.replicate, List.cons_append, List.nil_append, List.getElem?_cons_succ, List.getElem?_cons_zero, List.set, if_true, trunc_self, List.all_cons, List.all_nil, Bool.and_true, Nat.reduceAdd, Nat.reduceSub, Nat.reduceEqDiff, Nat.reduceLeDiff, decide_eq_true_eq, reduceIte, atI_0, atI_1, atI_2, atI_3, atI_4, atI_5, atI_6, atI_7, atI_8, cQ, cGSl, coSome, coNone, cTupOf, tupG, wipeG, seqN, lpC, lpQ, ciZip, zipU, fzU, truB, List.zip, List.zipWith, asgU, dU, sOwn, appF, extF, isL, caD, zipD, enU, sumG, intsD, ciEnum, decide_true, decide_false, Bool.true_eq_false, Bool.false_eq_true, if_false, Bool.not_true, Bool.not_false, g, e, rowD]
theorem pick_ok : (rowsD.filter fun d => match d with | .tuple [.int a, .int b, .int c] => decide (4 * b - 4 * a = c) | _ => false).map (fun d => match d with | .tuple [a, _, _] => a | _ => .none) = sizes.map fun i => PyData.int (i : Nat) := by kernel_rfl
theorem picks_ok (ρ : Sg) (h : 16 < ρ.length) (h4 : ρ[4]? = some (some (.d (.list rowsD)))) (m : Mh) : cLc (cjSeq (cVar 4)) (gN 16) e2_law_t e2_law_e [16] ρ m = some (.tmp (.list (sizes.map fun i => PyData.int (i : Nat))), m) := by
  have e := lpC_flt (g := gN 16) (t := e2_law_t) (e := e2_law_e) (ρ := wipeG ρ [16]) (m := m) (fun d => match d with | .tuple [.int a, .int b, .int c] => decide (4 * b - 4 * a = c) | _ => false) (fun d => match d with | .tuple [a, _, _] => a | _ => .none) rowsD ?_
  · rw [pick_ok] at e
    unfold cLc
    have r : cjSeq (cVar 4) ρ m = some (rowsD, m) := by
      unfold cjSeq cVar
      rw [h4]
      rfl
    rw [r, Option.bind_some]
    simp only [e, Option.bind_some]
    rw [if_pos (by decide)]
  · intro d hd
    obtain ⟨i, hi, rfl⟩ := List.mem_map.mp hd
    have g : (setL (wipeG ρ [16]) [(16, rowD i)])[16]? = some (some (.d (rowD i))) := by
      simp [setL, wipeG, h]
    generalize hg : setL (wipeG ρ [16]) [(16, rowD i)] = ρ' at g
    unfold rowD at g hg ⊢
    have n1 : ∀ x : Int, mulOk 4 x = true := fun x => mulOk_l (by decide)
    refine ⟨_, rfl, ?_, fun _ => ?_⟩
    · rw [hg]
      simp only [e2_law_t, cFn, sSeq, sSkip, sPar, setP, parU, caCons, caNil, cC, cVar, sRet, sRetN, cHand, cRt, rtU, cCall, argOk, okF, sIf, sAsg, asgU, sAsgA, cFz, fzU, sAsgG, gT, gsC, gsN, gN, setL, cTup, cLst, cDisp, allD, cIx, ixG, cGIx, sAug, slotD, _root_.M.c2, cB2, vB, addG, subG, mulG, fdivG, modG, negG, iMulG, iAddG, _root_.M.c1, cAdd, cSub, cMul, cFdiv, cMod, cNeg, bTru, truD, valU, bNot, bAnd, bOr, cNotV, cAndV, cOrV, cIf, eqB, neB, ltB, leB, gtB, geB, bEq, bNe, bLt, bLe, bGt, bGe, cEq, cNe, cLt, cLe, cGt, cGe, cCB, _root_.M.g1, _root_.M.g2, absG, intG, cAbs, cInt, cLen, lenG, cSum, sumG, intsD, sFzL, sFz, sExpr, sWhile, sFor, ciSeq, cjSeq, seqS, seqN, ciRng1, ciRng2, ciRng3, ciA, intsU, rg1, rg2, cLc, cbYes, wipeG, cMeth, isStr, isL, caD, cCellM, cellU, sStC, sSt, dU, stoF, cNew, sBreak, sCont, List.map, List.length_cons, List.length_nil, Option.bind_some, Option.map_some, List.replicate, List.cons_append, List.nil_append, List.getElem?_cons_succ, List.getElem?_cons_zero, List.set, if_true, trunc_self, List.all_cons, List.all_nil, Bool.and_true, Nat.reduceAdd, Nat.reduceSub, Nat.reduceEqDiff, Nat.reduceLeDiff, decide_eq_true_eq, reduceIte, atI_0, atI_1, atI_2, atI_3, atI_4, atI_5, atI_6, atI_7, atI_8, cQ, cGSl, coSome, coNone, cTupOf, tupG, wipeG, seqN, lpC, lpQ, ciZip, zipU, fzU, truB, List.zip, List.zipWith, asgU, dU, sOwn, appF, extF, isL, caD, zipD, enU, sumG, intsD, ciEnum, decide_true, decide_false, Bool.true_eq_false, Bool.false_eq_true, if_false, Bool.not_true, Bool.not_false, g, n1]
    · rw [hg]
      simp only [e2_law_e, cFn, sSeq, sSkip, sPar, setP, parU, caCons, caNil, cC, cVar, sRet, sRetN, cHand, cRt, rtU, cCall, argOk, okF, sIf, sAsg, asgU, sAsgA, cFz, fzU, sAsgG, gT, gsC, gsN, gN, setL, cTup, cLst, cDisp, allD, cIx, ixG, cGIx, sAug, slotD, _root_.M.c2, cB2, vB, addG, subG, mulG, fdivG, modG, negG, iMulG, iAddG, _root_.M.c1, cAdd, cSub, cMul, cFdiv, cMod, cNeg, bTru, truD, valU, bNot, bAnd, bOr, cNotV, cAndV, cOrV, cIf, eqB, neB, ltB, leB, gtB, geB, bEq, bNe, bLt, bLe, bGt, bGe, cEq, cNe, cLt, cLe, cGt, cGe, cCB, _root_.M.g1, _root_.M.g2, absG, intG, cAbs, cInt, cLen, lenG, cSum, sumG, intsD, sFzL, sFz, sExpr, sWhile, sFor, ciSeq, cjSeq, seqS, seqN, ciRng1, ciRng2, ciRng3, ciA, intsU, rg1, rg2, cLc, cbYes, wipeG, cMeth, isStr, isL, caD, cCellM, cellU, sStC, sSt, dU, stoF, cNew, sBreak, sCont, List.map, List.length_cons, List.length_nil, Option.bind_some, Option.map_some, List.replicate, List.cons_append, List.nil_append, List.getElem?_cons_succ, List.getElem?_cons_zero, List.set, if_true, trunc_self, List.all_cons, List.all_nil, Bool.and_true, Nat.reduceAdd, Nat.reduceSub, Nat.reduceEqDiff, Nat.reduceLeDiff, decide_eq_true_eq, reduceIte, atI_0, atI_1, atI_2, atI_3, atI_4, atI_5, atI_6, atI_7, atI_8, cQ, cGSl, coSome, coNone, cTupOf, tupG, wipeG, seqN, lpC, lpQ, ciZip, zipU, fzU, truB, List.zip, List.zipWith, asgU, dU, sOwn, appF, extF, isL, caD, zipD, enU, sumG, intsD, ciEnum, decide_true, decide_false, Bool.true_eq_false, Bool.false_eq_true, if_false, Bool.not_true, Bool.not_false, g]
end K57
end M

namespace M
open PySem PySem.Spec
namespace K57
theorem ins_ok (x : MO) (a b c d : Option U) : cAll (cLc (cjSeq (cLst (caCons (cC (.int 5)) (caCons (cC (.int 7)) (caCons (cC (.int 12)) (caCons (cC (.int 19)) (caCons (cC (.int 31)) caNil))))))) (gN 6) cbYes e3_law_e [6])
    [a, b, c, some (.d (.list (sizes.map fun i => PyData.int (i : Nat)))), d, none, none, none, none, none, none, none, none, none, none, none, none, none, none, none, none, none, none] [x] = some (.d (.bool true), [x]) := by kernel_rfl
theorem sizes_len : (sizes.map fun i => PyData.int (i : Nat)).length = 14 := rfl
theorem tone_at_ok (t : Int) : ∃ (q : Int) (r : Nat), r < 7 ∧ t = 7 * q + r - 1 ∧ ∀ m, f_tone_at [.d (.int t)] m = some (.d (.tuple [.int (T r), .int q]), m) := by
  refine ⟨(t + 1) / 7, ((t + 1) % 7).toNat, by omega, by omega, fun m => ?_⟩
  have e := tone_ok m ((t + 1) / 7) (r := ((t + 1) % 7).toNat) (by omega)
  rwa [show 7 * ((t + 1) / 7) + (((t + 1) % 7).toNat : Int) - 1 = t by omega] at e
theorem T4 {r : Nat} (hr : r < 7) : (T r - 4 * ((r : Int) - 1)) % 7 = 0 := by
  rcases seven hr with h | h | h | h | h | h | h <;> subst h <;> decide
theorem alg (s f x y z : Int) : s * x + (s + f) * y + 4 * f * z = (y + 4 * z) * f + (x + y) * s := by
  simp only [Int.add_mul, Int.mul_add]
  rw [Int.mul_comm s x, Int.mul_comm s y, Int.mul_comm f y, Int.mul_assoc 4 f z, Int.mul_assoc 4 z f, Int.mul_comm f z]
  omega
theorem fn_ex {k np : Nat} {b : CS} {us : List U} {m m1 : Mh} {u : U} (hl : us.length = np) (h : ∃ ρ1, b (us.map some ++ List.replicate (k - np) none) m = some (.rt u, ρ1, m1)) (ho : okF u = true) : cFn k np b us m = some (u, trunc m.length u m1) := let ⟨_, h⟩ := h; fn_rt hl h ho
theorem sRet_go {c : CE} {ρ : Sg} {m m1 : Mh} {u : U} (h : c ρ m = some (u, m1)) : sRet c ρ m = some (.rt u, ρ, m1) := by unfold sRet; rw [h]; rfl
theorem eqB_int_self (x : Int) : decide (x = x) = true := decide_eq_true rfl
theorem law_true : LawTrue f_law := fun ns _ _ => by
  have z4 : (0 : Int) - 4 = -4 := rfl
  have z1 : (0 : Int) - 1 = -1 := rfl
  have z2 : (0 : Int) - 2 = -2 := rfl
  have s0 : St [dst 0 0 1 ns] := ⟨0, 0, 1, ns, by decide, by decide, rfl⟩
  obtain ⟨d0, m1, a0, b0, s1, f0⟩ := draw_St (lim := 14) s0 (by decide) (by decide)
  obtain ⟨d1, m2, a1, b1, s2, f1⟩ := draw_St (lim := 31) s1 (by decide) (by decide)
  obtain ⟨d2, m3, a2, b2, s3, f2⟩ := draw_St (lim := 31) s2 (by decide) (by decide)
  obtain ⟨d3, m4, a3, b3, s4, f3⟩ := draw_St (lim := 9) s3 (by decide) (by decide)
  obtain ⟨s, f, g, per, S, eS⟩ := sizes_at a0 b0
  rw [← draw_eq] at f0 f1 f2 f3
  have x1 : ∃ y, m1 = [y] := by obtain ⟨_, _, _, _, _, _, rfl⟩ := s1; exact ⟨_, rfl⟩
  obtain ⟨y, rfl⟩ := x1
  obtain ⟨q1, r1, hr1, h1, t1⟩ := tone_at_ok (d1 - 15)
  obtain ⟨q2, r2, hr2, h2, t2⟩ := tone_at_ok (d2 - 15)
  refine ⟨trunc ([] : Mh).length (.d (.bool true)) m4, ?_⟩
  unfold dst at f0
  generalize hx0 : MO.v (.list [.int 0, .int 0, .list (ns.map .int), .int 1]) = x0 at f0
  have eu := up_ok [x0]
  have em := maps_ok x0
  have ef := freedom_ok x0
  have eg := generator_ok x0
  have ec := commas_ok x0
  have et := tempered_ok x0
  have ei := ins_ok x0
  unfold comma at eu em ef eg
  have ee := S.em
  have el := S.li y
  have ecd : ∀ m, St m → f_common_divisor [.d (.int s), .d (.int f)] m = some (.d (.int g), m) := fun m h => by
    obtain ⟨_, _, _, _, _, _, rfl⟩ := h
    exact S.cd _
  have ecd3 := ecd m3 s3
  have er := rows_ok [some (.scr ns), some (.ref 0), some (.d (.tuple [.int (-4), .int 4, .int (-1)])), some (.d (.list (sizes.map fun i => PyData.int (i : Nat)))), none, none, none, none, none, none, none, none, none, none, none, none, none, none, none, none, none, none, none] (by simp) [x0]
  have ep := picks_ok [some (.scr ns), some (.ref 0), some (.d (.tuple [.int (-4), .int 4, .int (-1)])), some (.d (.list (sizes.map fun i => PyData.int (i : Nat)))), some (.d (.list rowsD)), none, none, none, none, none, none, none, none, none, none, none, none, none, none, none, none, none, none] (by simp) rfl [x0]
  have ei := ins_ok x0 (some (.scr ns)) (some (.ref 0)) (some (.d (.tuple [.int (-4), .int 4, .int (-1)]))) (some (.d (.list rowsD)))
  have gi := fun m => interval_ok m q1 4 q2 4 hr1 hr2
  have w1 := (TW hr1).1
  have w2 := (TW hr2).1
  have v1 := T4 hr1
  have v2 := T4 hr2
  have fi1 := fun m => fifth_ok m q1 4 hr1
  have fi2 := fun m => fifth_ok m q2 4 hr2
  generalize T r1 = T1 at *
  generalize T r2 = T2 at *
  generalize W r1 = W1 at *
  generalize W r2 = W2 at *
  obtain ⟨G0, hG0⟩ : ∃ G, T2 + 7 * 4 - (T1 + 7 * 4) = G := ⟨_, rfl⟩
  obtain ⟨G1, hG1⟩ : ∃ G, W2 + q2 + 12 * 4 - (W1 + q1 + 12 * 4) = G := ⟨_, rfl⟩
  obtain ⟨X, hX⟩ : ∃ X, d2 - 15 - (d1 - 15) = X := ⟨_, rfl⟩
  obtain ⟨O, hO⟩ : ∃ O, fdivI (G0 - 4 * X) 7 = O := ⟨_, rfl⟩
  rw [hG0, hG1] at gi
  have hX1 : 7 * G1 - 12 * G0 = X := by omega
  have hX3 : (r2 : Int) - 1 + 7 * q2 - ((r1 : Int) - 1 + 7 * q1) = X := by omega
  have hO1 : fmodI (G0 - 4 * X) 7 = 0 := by
    rw [fmodI_pos (by decide)]
    omega
  have hO2 : G1 = 7 * X + 12 * O := by
    rw [fdivI_pos (by decide)] at hO
    rw [fmodI_pos (by decide)] at hO1
    omega
  have sb1 := S.b1
  have sb2 := S.b2
  have sb3 := S.b3
  have sb4 := S.b4
  have mf : ∀ x : Int, mulOk x f = true := fun x => mulOk_r (by omega)
  have ms : ∀ x : Int, mulOk x s = true := fun x => mulOk_r (by omega)
  have ms' : ∀ x : Int, mulOk s x = true := fun x => mulOk_l (by omega)
  have msf : ∀ x : Int, mulOk (s + f) x = true := fun x => mulOk_l (by omega)
  have m4f : ∀ x : Int, mulOk (4 * f) x = true := fun x => mulOk_l (by omega)
  have m4 : ∀ x : Int, mulOk 4 x = true := fun x => mulOk_l (by decide)
  have m2' : ∀ x : Int, mulOk 2 x = true := fun x => mulOk_l (by decide)
  have m7 : ∀ x : Int, mulOk 7 x = true := fun x => mulOk_l (by decide)
  have m12 : ∀ x : Int, mulOk 12 x = true := fun x => mulOk_l (by decide)
  have st : ∀ (m : Mh) (x y z : Int), f_steps_of [.d (.tuple [.int s, .int (s + f), .int (4 * f)]), .d (.tuple [.int x, .int y, .int z])] m = some (.d (.int ((y + 4 * z) * f + (x + y) * s)), m) := fun m x y z => by
    rw [steps_ok m _ _ _ _ _ _ (ms' x) (msf y) (m4f z), alg]
  have st1 := fun m => st m (O - X) X 0
  rw [show (X + 4 * 0 : Int) = X by omega, show O - X + X = O by omega] at st1
  obtain ⟨TL, hTL⟩ : ∃ t, X * f + O * s = t := ⟨_, rfl⟩
  rw [hTL] at st1
  obtain ⟨B, hB1⟩ : ∃ b, decide (fmodI TL s = 0) = b := ⟨_, rfl⟩
  have hB2 : decide (fmodI X per = 0) = B := by
    rw [← hB1, ← hTL, fmodI_pos sb1.1, fmodI_pos sb4]
    exact decide_eq_decide.mpr (S.pe X O).symm
  have hB3 : eqB (.int (fmodI X per)) (.int 0) = some B := by
    show some (decide _) = _
    rw [hB2]
  have hBB : eqB (.bool B) (.bool B) = some true := by cases B <;> kernel_rfl
  have so : ¬ s = 0 := by omega
  have po : ¬ per = 0 := by omega
  have gd : fdivOk g = true := fdivOk_small (by omega) (by omega)
  have st2 := fun m => st m (O - X - 4 * (d3 - 4)) (X + 4 * (d3 - 4)) (0 - (d3 - 4))
  rw [show (X + 4 * (d3 - 4) + 4 * (0 - (d3 - 4)) : Int) = X by omega, show O - X - 4 * (d3 - 4) + (X + 4 * (d3 - 4)) = O by omega, hTL] at st2
  have hTT : eqB (.int TL) (.int TL) = some true := by
    show some (decide (TL = TL)) = some true
    rw [decide_eq_true rfl]
  have st3 := fun m => st m (-2) 0 1
  have st4 := fun m => st m 1 1 (-1)
  rw [show ((0 + 4 * 1 : Int)) * f + (-2 + 0) * s = 4 * f - 2 * s by omega] at st3
  rw [show ((1 + 4 * (-1) : Int)) * f + (1 + 1) * s = f - (4 * f - 2 * s) by omega] at st4
  have hf : s + f - s = f := by omega
  unfold f_law b_law
  have sl := sizes_len
  have d7 : fdivOk 7 = true := by decide
  have o7 : ¬ (7 : Int) = 0 := by decide
  have sz3 : 3 ≤ sizeLine := by decide
  have e22 : eqB (.int 2) (.int 2) = some true := by kernel_rfl
  have emm : eqB mapsD mapsD = some true := by kernel_rfl
  have e41 : eqB (.tuple [.tuple [.int 4, .int (-4), .int 1]]) (.tuple [.tuple [.int 4, .int (-4), .int 1]]) = some true := by kernel_rfl
  have seq : eqB (.list (sizes.map fun i => PyData.int (i : Nat))) (.list (sizes.map fun i => PyData.int (i : Nat))) = some true := by kernel_rfl
  have sl' : (((sizes.map fun i => PyData.int (i : Nat)).length : Nat) : Int) = 14 := rfl
  obtain ⟨SZ, hSZ⟩ : ∃ z, sizes.map (fun i => PyData.int (i : Nat)) = z := ⟨_, rfl⟩
  simp only [hSZ] at *
  obtain ⟨CB, hCB⟩ : ∃ z, cLc (ciRng2 (cC (.int 1)) (cC (.int 61))) (gN 6) cbYes e1_law_e [6] = z := ⟨_, rfl⟩
  simp only [hCB] at *
  obtain ⟨CC, hCC⟩ : ∃ z, cLc (cjSeq (cVar 4)) (gN 16) e2_law_t e2_law_e [16] = z := ⟨_, rfl⟩
  simp only [hCC] at *
  obtain ⟨CD, hCD⟩ : ∃ z, cAll (cLc (cjSeq (cLst (caCons (cC (.int 5)) (caCons (cC (.int 7)) (caCons (cC (.int 12)) (caCons (cC (.int 19)) (caCons (cC (.int 31)) caNil))))))) (gN 6) cbYes e3_law_e [6]) = z := ⟨_, rfl⟩
  simp only [hCD] at *
  obtain ⟨RD, hRD⟩ : ∃ z, rowsD = z := ⟨_, rfl⟩
  simp only [hRD] at *
  obtain ⟨F1, hF1⟩ : ∃ z, f_equal_maps_up_to = z := ⟨_, rfl⟩
  simp only [hF1] at *
  obtain ⟨F2, hF2⟩ : ∃ z, f_maps_of = z := ⟨_, rfl⟩
  simp only [hF2] at *
  obtain ⟨F3, hF3⟩ : ∃ z, f_freedom = z := ⟨_, rfl⟩
  simp only [hF3] at *
  obtain ⟨F4, hF4⟩ : ∃ z, f_generator_of = z := ⟨_, rfl⟩
  simp only [hF4] at *
  obtain ⟨F5, hF5⟩ : ∃ z, f_commas_of = z := ⟨_, rfl⟩
  simp only [hF5] at *
  obtain ⟨F6, hF6⟩ : ∃ z, f_is_tempered = z := ⟨_, rfl⟩
  simp only [hF6] at *
  obtain ⟨F7, hF7⟩ : ∃ z, f__law_draw = z := ⟨_, rfl⟩
  simp only [hF7] at *
  obtain ⟨F8, hF8⟩ : ∃ z, f_lies_in = z := ⟨_, rfl⟩
  simp only [hF8] at *
  obtain ⟨F9, hF9⟩ : ∃ z, f_common_divisor = z := ⟨_, rfl⟩
  simp only [hF9] at *
  refine fn_ex rfl ?_ rfl
  apply Exists.intro
  · simp only [List.map, List.length_cons, List.length_nil, List.replicate, List.cons_append, List.nil_append]
    apply seq_go
    · simp only [cFn, sSeq, sSkip, sPar, setP, parU, caCons, caNil, cC, cVar, sRet, sRetN, cHand, cRt, rtU, cCall, argOk, okF, sIf, sAsg, asgU, sAsgA, cFz, fzU, sAsgG, gT, gsC, gsN, gN, setL, cTup, cLst, cDisp, allD, cIx, ixG, cGIx, sAug, slotD, _root_.M.c2, cB2, vB, addG, subG, mulG, fdivG, modG, negG, iMulG, iAddG, _root_.M.c1, cAdd, cSub, cMul, cFdiv, cMod, cNeg, bTru, truD, valU, bNot, bAnd, bOr, cNotV, cAndV, cOrV, cIf, eqB, neB, ltB, leB, gtB, geB, bEq, bNe, bLt, bLe, bGt, bGe, cEq, cNe, cLt, cLe, cGt, cGe, cCB, _root_.M.g1, _root_.M.g2, absG, intG, cAbs, cInt, cLen, lenG, cSum, sumG, intsD, sFzL, sFz, sExpr, sWhile, sFor, ciSeq, cjSeq, seqS, seqN, ciRng1, ciRng2, ciRng3, ciA, intsU, rg1, rg2, cLc, cbYes, wipeG, cMeth, isStr, isL, caD, cCellM, cellU, sStC, sSt, dU, stoF, cNew, sBreak, sCont, List.map, List.length_cons, List.length_nil, Option.bind_some, Option.map_some, List.replicate, List.cons_append, List.nil_append, List.getElem?_cons_succ, List.getElem?_cons_zero, List.set, if_true, trunc_self, List.all_cons, List.all_nil, Bool.and_true, Nat.reduceAdd, Nat.reduceSub, Nat.reduceEqDiff, Nat.reduceLeDiff, decide_eq_true_eq, reduceIte, atI_0, atI_1, atI_2, atI_3, atI_4, atI_5, atI_6, atI_7, atI_8, cQ, cGSl, coSome, coNone, cTupOf, tupG, wipeG, seqN, lpC, lpQ, ciZip, zipU, fzU, truB, List.zip, List.zipWith, asgU, dU, sOwn, appF, extF, isL, caD, zipD, enU, sumG, intsD, ciEnum, decide_true, decide_false, Bool.true_eq_false, Bool.false_eq_true, if_false, Bool.not_true, Bool.not_false, cLstOf, lstG, hx0]
      with_reducible rfl
    apply seq_go
    · simp only [cFn, sSeq, sSkip, sPar, setP, parU, caCons, caNil, cC, cVar, sRet, sRetN, cHand, cRt, rtU, cCall, argOk, okF, sIf, sAsg, asgU, sAsgA, cFz, fzU, sAsgG, gT, gsC, gsN, gN, setL, cTup, cLst, cDisp, allD, cIx, ixG, cGIx, sAug, slotD, _root_.M.c2, cB2, vB, addG, subG, mulG, fdivG, modG, negG, iMulG, iAddG, _root_.M.c1, cAdd, cSub, cMul, cFdiv, cMod, cNeg, bTru, truD, valU, bNot, bAnd, bOr, cNotV, cAndV, cOrV, cIf, eqB, neB, ltB, leB, gtB, geB, bEq, bNe, bLt, bLe, bGt, bGe, cEq, cNe, cLt, cLe, cGt, cGe, cCB, _root_.M.g1, _root_.M.g2, absG, intG, cAbs, cInt, cLen, lenG, cSum, sumG, intsD, sFzL, sFz, sExpr, sWhile, sFor, ciSeq, cjSeq, seqS, seqN, ciRng1, ciRng2, ciRng3, ciA, intsU, rg1, rg2, cLc, cbYes, wipeG, cMeth, isStr, isL, caD, cCellM, cellU, sStC, sSt, dU, stoF, cNew, sBreak, sCont, List.map, List.length_cons, List.length_nil, Option.bind_some, Option.map_some, List.replicate, List.cons_append, List.nil_append, List.getElem?_cons_succ, List.getElem?_cons_zero, List.set, if_true, trunc_self, List.all_cons, List.all_nil, Bool.and_true, Nat.reduceAdd, Nat.reduceSub, Nat.reduceEqDiff, Nat.reduceLeDiff, decide_eq_true_eq, reduceIte, atI_0, atI_1, atI_2, atI_3, atI_4, atI_5, atI_6, atI_7, atI_8, cQ, cGSl, coSome, coNone, cTupOf, tupG, wipeG, seqN, lpC, lpQ, ciZip, zipU, fzU, truB, List.zip, List.zipWith, asgU, dU, sOwn, appF, extF, isL, caD, zipD, enU, sumG, intsD, ciEnum, decide_true, decide_false, Bool.true_eq_false, Bool.false_eq_true, if_false, Bool.not_true, Bool.not_false, z4, z1]
      with_reducible rfl
    apply seq_go
    · simp only [cFn, sSeq, sSkip, sPar, setP, parU, caCons, caNil, cC, cVar, sRet, sRetN, cHand, cRt, rtU, cCall, argOk, okF, sIf, sAsg, asgU, sAsgA, cFz, fzU, sAsgG, gT, gsC, gsN, gN, setL, cTup, cLst, cDisp, allD, cIx, ixG, cGIx, sAug, slotD, _root_.M.c2, cB2, vB, addG, subG, mulG, fdivG, modG, negG, iMulG, iAddG, _root_.M.c1, cAdd, cSub, cMul, cFdiv, cMod, cNeg, bTru, truD, valU, bNot, bAnd, bOr, cNotV, cAndV, cOrV, cIf, eqB, neB, ltB, leB, gtB, geB, bEq, bNe, bLt, bLe, bGt, bGe, cEq, cNe, cLt, cLe, cGt, cGe, cCB, _root_.M.g1, _root_.M.g2, absG, intG, cAbs, cInt, cLen, lenG, cSum, sumG, intsD, sFzL, sFz, sExpr, sWhile, sFor, ciSeq, cjSeq, seqS, seqN, ciRng1, ciRng2, ciRng3, ciA, intsU, rg1, rg2, cLc, cbYes, wipeG, cMeth, isStr, isL, caD, cCellM, cellU, sStC, sSt, dU, stoF, cNew, sBreak, sCont, List.map, List.length_cons, List.length_nil, Option.bind_some, Option.map_some, List.replicate, List.cons_append, List.nil_append, List.getElem?_cons_succ, List.getElem?_cons_zero, List.set, if_true, trunc_self, List.all_cons, List.all_nil, Bool.and_true, Nat.reduceAdd, Nat.reduceSub, Nat.reduceEqDiff, Nat.reduceLeDiff, decide_eq_true_eq, reduceIte, atI_0, atI_1, atI_2, atI_3, atI_4, atI_5, atI_6, atI_7, atI_8, cQ, cGSl, coSome, coNone, cTupOf, tupG, wipeG, seqN, lpC, lpQ, ciZip, zipU, fzU, truB, List.zip, List.zipWith, asgU, dU, sOwn, appF, extF, isL, caD, zipD, enU, sumG, intsD, ciEnum, decide_true, decide_false, Bool.true_eq_false, Bool.false_eq_true, if_false, Bool.not_true, Bool.not_false, eu]
      with_reducible rfl
    apply seq_go
    · simp only [cFn, sSeq, sSkip, sPar, setP, parU, caCons, caNil, cC, cVar, sRet, sRetN, cHand, cRt, rtU, cCall, argOk, okF, sIf, sAsg, asgU, sAsgA, cFz, fzU, sAsgG, gT, gsC, gsN, gN, setL, cTup, cLst, cDisp, allD, cIx, ixG, cGIx, sAug, slotD, _root_.M.c2, cB2, vB, addG, subG, mulG, fdivG, modG, negG, iMulG, iAddG, _root_.M.c1, cAdd, cSub, cMul, cFdiv, cMod, cNeg, bTru, truD, valU, bNot, bAnd, bOr, cNotV, cAndV, cOrV, cIf, eqB, neB, ltB, leB, gtB, geB, bEq, bNe, bLt, bLe, bGt, bGe, cEq, cNe, cLt, cLe, cGt, cGe, cCB, _root_.M.g1, _root_.M.g2, absG, intG, cAbs, cInt, cLen, lenG, cSum, sumG, intsD, sFzL, sFz, sExpr, sWhile, sFor, ciSeq, cjSeq, seqS, seqN, ciRng1, ciRng2, ciRng3, ciA, intsU, rg1, rg2, cLc, cbYes, wipeG, cMeth, isStr, isL, caD, cCellM, cellU, sStC, sSt, dU, stoF, cNew, sBreak, sCont, List.map, List.length_cons, List.length_nil, Option.bind_some, Option.map_some, List.replicate, List.cons_append, List.nil_append, List.getElem?_cons_succ, List.getElem?_cons_zero, List.set, if_true, trunc_self, List.all_cons, List.all_nil, Bool.and_true, Nat.reduceAdd, Nat.reduceSub, Nat.reduceEqDiff, Nat.reduceLeDiff, decide_eq_true_eq, reduceIte, atI_0, atI_1, atI_2, atI_3, atI_4, atI_5, atI_6, atI_7, atI_8, cQ, cGSl, coSome, coNone, cTupOf, tupG, wipeG, seqN, lpC, lpQ, ciZip, zipU, fzU, truB, List.zip, List.zipWith, asgU, dU, sOwn, appF, extF, isL, caD, zipD, enU, sumG, intsD, ciEnum, decide_true, decide_false, Bool.true_eq_false, Bool.false_eq_true, if_false, Bool.not_true, Bool.not_false, er]
      with_reducible rfl
    apply seq_go
    · simp only [cFn, sSeq, sSkip, sPar, setP, parU, caCons, caNil, cC, cVar, sRet, sRetN, cHand, cRt, rtU, cCall, argOk, okF, sIf, sAsg, asgU, sAsgA, cFz, fzU, sAsgG, gT, gsC, gsN, gN, setL, cTup, cLst, cDisp, allD, cIx, ixG, cGIx, sAug, slotD, _root_.M.c2, cB2, vB, addG, subG, mulG, fdivG, modG, negG, iMulG, iAddG, _root_.M.c1, cAdd, cSub, cMul, cFdiv, cMod, cNeg, bTru, truD, valU, bNot, bAnd, bOr, cNotV, cAndV, cOrV, cIf, neB, ltB, leB, gtB, geB, bEq, bNe, bLt, bLe, bGt, bGe, cEq, cNe, cLt, cLe, cGt, cGe, cCB, _root_.M.g1, _root_.M.g2, absG, intG, cAbs, cInt, cLen, lenG, cSum, sumG, intsD, sFzL, sFz, sExpr, sWhile, sFor, ciSeq, cjSeq, seqS, seqN, ciRng1, ciRng2, ciRng3, ciA, intsU, rg1, rg2, cLc, cbYes, wipeG, cMeth, isStr, isL, caD, cCellM, cellU, sStC, sSt, dU, stoF, cNew, sBreak, sCont, List.map, List.length_cons, List.length_nil, Option.bind_some, Option.map_some, List.replicate, List.cons_append, List.nil_append, List.getElem?_cons_succ, List.getElem?_cons_zero, List.set, if_true, trunc_self, List.all_cons, List.all_nil, Bool.and_true, Nat.reduceAdd, Nat.reduceSub, Nat.reduceEqDiff, Nat.reduceLeDiff, decide_eq_true_eq, reduceIte, atI_0, atI_1, atI_2, atI_3, atI_4, atI_5, atI_6, atI_7, atI_8, cQ, cGSl, coSome, coNone, cTupOf, tupG, wipeG, seqN, lpC, lpQ, ciZip, zipU, fzU, truB, List.zip, List.zipWith, asgU, dU, sOwn, appF, extF, isL, caD, zipD, enU, sumG, intsD, ciEnum, decide_true, decide_false, Bool.true_eq_false, Bool.false_eq_true, if_false, Bool.not_true, Bool.not_false, ep, ei, seq]
      with_reducible rfl
    apply seq_go
    · simp only [cFn, sSeq, sSkip, sPar, setP, parU, caCons, caNil, cC, cVar, sRet, sRetN, cHand, cRt, rtU, cCall, argOk, okF, sIf, sAsg, asgU, sAsgA, cFz, fzU, sAsgG, gT, gsC, gsN, gN, setL, cTup, cLst, cDisp, allD, cIx, ixG, cGIx, sAug, slotD, _root_.M.c2, cB2, vB, addG, subG, mulG, fdivG, modG, negG, iMulG, iAddG, _root_.M.c1, cAdd, cSub, cMul, cFdiv, cMod, cNeg, bTru, truD, valU, bNot, bAnd, bOr, cNotV, cAndV, cOrV, cIf, eqB, neB, ltB, leB, gtB, geB, bEq, bNe, bLt, bLe, bGt, bGe, cEq, cNe, cLt, cLe, cGt, cGe, cCB, _root_.M.g1, _root_.M.g2, absG, intG, cAbs, cInt, cLen, lenG, cSum, sumG, intsD, sFzL, sFz, sExpr, sWhile, sFor, ciSeq, cjSeq, seqS, seqN, ciRng1, ciRng2, ciRng3, ciA, intsU, rg1, rg2, cLc, cbYes, wipeG, cMeth, isStr, isL, caD, cCellM, cellU, sStC, sSt, dU, stoF, cNew, sBreak, sCont, List.map, List.length_cons, List.length_nil, Option.bind_some, Option.map_some, List.replicate, List.cons_append, List.nil_append, List.getElem?_cons_succ, List.getElem?_cons_zero, List.set, if_true, trunc_self, List.all_cons, List.all_nil, Bool.and_true, Nat.reduceAdd, Nat.reduceSub, Nat.reduceEqDiff, Nat.reduceLeDiff, decide_eq_true_eq, reduceIte, atI_0, atI_1, atI_2, atI_3, atI_4, atI_5, atI_6, atI_7, atI_8, cQ, cGSl, coSome, coNone, cTupOf, tupG, wipeG, seqN, lpC, lpQ, ciZip, zipU, fzU, truB, List.zip, List.zipWith, asgU, dU, sOwn, appF, extF, isL, caD, zipD, enU, sumG, intsD, ciEnum, decide_true, decide_false, Bool.true_eq_false, Bool.false_eq_true, if_false, Bool.not_true, Bool.not_false, em]
      with_reducible rfl
    apply seq_go
    · simp only [cFn, sSeq, sSkip, sPar, setP, parU, caCons, caNil, cC, cVar, sRet, sRetN, cHand, cRt, rtU, cCall, argOk, okF, sIf, sAsg, asgU, sAsgA, cFz, fzU, sAsgG, gT, gsC, gsN, gN, setL, cTup, cLst, cDisp, allD, cIx, ixG, cGIx, sAug, slotD, _root_.M.c2, cB2, vB, addG, subG, mulG, fdivG, modG, negG, iMulG, iAddG, _root_.M.c1, cAdd, cSub, cMul, cFdiv, cMod, cNeg, bTru, truD, valU, bNot, bAnd, bOr, cNotV, cAndV, cOrV, cIf, neB, ltB, leB, gtB, geB, bEq, bNe, bLt, bLe, bGt, bGe, cEq, cNe, cLt, cLe, cGt, cGe, cCB, _root_.M.g1, _root_.M.g2, absG, intG, cAbs, cInt, cLen, lenG, cSum, sumG, intsD, sFzL, sFz, sExpr, sWhile, sFor, ciSeq, cjSeq, seqS, seqN, ciRng1, ciRng2, ciRng3, ciA, intsU, rg1, rg2, cLc, cbYes, wipeG, cMeth, isStr, isL, caD, cCellM, cellU, sStC, sSt, dU, stoF, cNew, sBreak, sCont, List.map, List.length_cons, List.length_nil, Option.bind_some, Option.map_some, List.replicate, List.cons_append, List.nil_append, List.getElem?_cons_succ, List.getElem?_cons_zero, List.set, if_true, trunc_self, List.all_cons, List.all_nil, Bool.and_true, Nat.reduceAdd, Nat.reduceSub, Nat.reduceEqDiff, Nat.reduceLeDiff, decide_eq_true_eq, reduceIte, atI_0, atI_1, atI_2, atI_3, atI_4, atI_5, atI_6, atI_7, atI_8, cQ, cGSl, coSome, coNone, cTupOf, tupG, wipeG, seqN, lpC, lpQ, ciZip, zipU, fzU, truB, List.zip, List.zipWith, asgU, dU, sOwn, appF, extF, isL, caD, zipD, enU, sumG, intsD, ciEnum, decide_true, decide_false, Bool.true_eq_false, Bool.false_eq_true, if_false, Bool.not_true, Bool.not_false, ef, eg, ec, et, e22, emm, e41, z4, z1]
      with_reducible rfl
    apply seq_go
    · simp only [cFn, sSeq, sSkip, sPar, setP, parU, caCons, caNil, cC, cVar, sRet, sRetN, cHand, cRt, rtU, cCall, argOk, okF, sIf, sAsg, asgU, sAsgA, cFz, fzU, sAsgG, gT, gsC, gsN, gN, setL, cTup, cLst, cDisp, allD, cIx, ixG, cGIx, sAug, slotD, _root_.M.c2, cB2, vB, addG, subG, mulG, fdivG, modG, negG, iMulG, iAddG, _root_.M.c1, cAdd, cSub, cMul, cFdiv, cMod, cNeg, bTru, truD, valU, bNot, bAnd, bOr, cNotV, cAndV, cOrV, cIf, eqB, neB, ltB, leB, gtB, geB, bEq, bNe, bLt, bLe, bGt, bGe, cEq, cNe, cLt, cLe, cGt, cGe, cCB, _root_.M.g1, _root_.M.g2, absG, intG, cAbs, cInt, cLen, lenG, cSum, sumG, intsD, sFzL, sFz, sExpr, sWhile, sFor, ciSeq, cjSeq, seqS, seqN, ciRng1, ciRng2, ciRng3, ciA, intsU, rg1, rg2, cLc, cbYes, wipeG, cMeth, isStr, isL, caD, cCellM, cellU, sStC, sSt, dU, stoF, cNew, sBreak, sCont, List.map, List.length_cons, List.length_nil, Option.bind_some, Option.map_some, List.replicate, List.cons_append, List.nil_append, List.getElem?_cons_succ, List.getElem?_cons_zero, List.set, if_true, trunc_self, List.all_cons, List.all_nil, Bool.and_true, Nat.reduceAdd, Nat.reduceSub, Nat.reduceEqDiff, Nat.reduceLeDiff, decide_eq_true_eq, reduceIte, atI_0, atI_1, atI_2, atI_3, atI_4, atI_5, atI_6, atI_7, atI_8, cQ, cGSl, coSome, coNone, cTupOf, tupG, wipeG, seqN, lpC, lpQ, ciZip, zipU, fzU, truB, List.zip, List.zipWith, asgU, dU, sOwn, appF, extF, isL, caD, zipD, enU, sumG, intsD, ciEnum, decide_true, decide_false, Bool.true_eq_false, Bool.false_eq_true, if_false, Bool.not_true, Bool.not_false, sl', f0, eS]
      with_reducible rfl
    apply seq_go
    · simp only [cFn, sSeq, sSkip, sPar, setP, parU, caCons, caNil, cC, cVar, sRet, sRetN, cHand, cRt, rtU, cCall, argOk, okF, sIf, sAsg, asgU, sAsgA, cFz, fzU, sAsgG, gT, gsC, gsN, gN, setL, cTup, cLst, cDisp, allD, cIx, ixG, cGIx, sAug, slotD, _root_.M.c2, cB2, vB, addG, subG, mulG, fdivG, modG, negG, iMulG, iAddG, _root_.M.c1, cAdd, cSub, cMul, cFdiv, cMod, cNeg, bTru, truD, valU, bNot, bAnd, bOr, cNotV, cAndV, cOrV, cIf, eqB, neB, ltB, leB, gtB, geB, bEq, bNe, bLt, bLe, bGt, bGe, cEq, cNe, cLt, cLe, cGt, cGe, cCB, _root_.M.g1, _root_.M.g2, absG, intG, cAbs, cInt, cLen, lenG, cSum, sumG, intsD, sFzL, sFz, sExpr, sWhile, sFor, ciSeq, cjSeq, seqS, seqN, ciRng1, ciRng2, ciRng3, ciA, intsU, rg1, rg2, cLc, cbYes, wipeG, cMeth, isStr, isL, caD, cCellM, cellU, sStC, sSt, dU, stoF, cNew, sBreak, sCont, List.map, List.length_cons, List.length_nil, Option.bind_some, Option.map_some, List.replicate, List.cons_append, List.nil_append, List.getElem?_cons_succ, List.getElem?_cons_zero, List.set, if_true, trunc_self, List.all_cons, List.all_nil, Bool.and_true, Nat.reduceAdd, Nat.reduceSub, Nat.reduceEqDiff, Nat.reduceLeDiff, decide_eq_true_eq, reduceIte, atI_0, atI_1, atI_2, atI_3, atI_4, atI_5, atI_6, atI_7, atI_8, cQ, cGSl, coSome, coNone, cTupOf, tupG, wipeG, seqN, lpC, lpQ, ciZip, zipU, fzU, truB, List.zip, List.zipWith, asgU, dU, sOwn, appF, extF, isL, caD, zipD, enU, sumG, intsD, ciEnum, decide_true, decide_false, Bool.true_eq_false, Bool.false_eq_true, if_false, Bool.not_true, Bool.not_false, ee]
      with_reducible rfl
    apply seq_go
    · simp only [cFn, sSeq, sSkip, sPar, setP, parU, caCons, caNil, cC, cVar, sRet, sRetN, cHand, cRt, rtU, cCall, argOk, okF, sIf, sAsg, asgU, sAsgA, cFz, fzU, sAsgG, gT, gsC, gsN, gN, setL, cTup, cLst, cDisp, allD, cIx, ixG, cGIx, sAug, slotD, _root_.M.c2, cB2, vB, addG, subG, mulG, fdivG, modG, negG, iMulG, iAddG, _root_.M.c1, cAdd, cSub, cMul, cFdiv, cMod, cNeg, bTru, truD, valU, bNot, bAnd, bOr, cNotV, cAndV, cOrV, cIf, eqB, neB, ltB, leB, gtB, geB, bEq, bNe, bLt, bLe, bGt, bGe, cEq, cNe, cLt, cLe, cGt, cGe, cCB, _root_.M.g1, _root_.M.g2, absG, intG, cAbs, cInt, cLen, lenG, cSum, sumG, intsD, sFzL, sFz, sExpr, sWhile, sFor, ciSeq, cjSeq, seqS, seqN, ciRng1, ciRng2, ciRng3, ciA, intsU, rg1, rg2, cLc, cbYes, wipeG, cMeth, isStr, isL, caD, cCellM, cellU, sStC, sSt, dU, stoF, cNew, sBreak, sCont, List.map, List.length_cons, List.length_nil, Option.bind_some, Option.map_some, List.replicate, List.cons_append, List.nil_append, List.getElem?_cons_succ, List.getElem?_cons_zero, List.set, if_true, trunc_self, List.all_cons, List.all_nil, Bool.and_true, Nat.reduceAdd, Nat.reduceSub, Nat.reduceEqDiff, Nat.reduceLeDiff, decide_eq_true_eq, reduceIte, atI_0, atI_1, atI_2, atI_3, atI_4, atI_5, atI_6, atI_7, atI_8, cQ, cGSl, coSome, coNone, cTupOf, tupG, wipeG, seqN, lpC, lpQ, ciZip, zipU, fzU, truB, List.zip, List.zipWith, asgU, dU, sOwn, appF, extF, isL, caD, zipD, enU, sumG, intsD, ciEnum, decide_true, decide_false, Bool.true_eq_false, Bool.false_eq_true, if_false, Bool.not_true, Bool.not_false, el]
      with_reducible rfl
    apply seq_go
    · simp only [cFn, sSeq, sSkip, sPar, setP, parU, caCons, caNil, cC, cVar, sRet, sRetN, cHand, cRt, rtU, cCall, argOk, okF, sIf, sAsg, asgU, sAsgA, cFz, fzU, sAsgG, gT, gsC, gsN, gN, setL, cTup, cLst, cDisp, allD, cIx, ixG, cGIx, sAug, slotD, _root_.M.c2, cB2, vB, addG, subG, mulG, fdivG, modG, negG, iMulG, iAddG, _root_.M.c1, cAdd, cSub, cMul, cFdiv, cMod, cNeg, bTru, truD, valU, bNot, bAnd, bOr, cNotV, cAndV, cOrV, cIf, eqB, neB, ltB, leB, gtB, geB, bEq, bNe, bLt, bLe, bGt, bGe, cEq, cNe, cLt, cLe, cGt, cGe, cCB, _root_.M.g1, _root_.M.g2, absG, intG, cAbs, cInt, cLen, lenG, cSum, sumG, intsD, sFzL, sFz, sExpr, sWhile, sFor, ciSeq, cjSeq, seqS, seqN, ciRng1, ciRng2, ciRng3, ciA, intsU, rg1, rg2, cLc, cbYes, wipeG, cMeth, isStr, isL, caD, cCellM, cellU, sStC, sSt, dU, stoF, cNew, sBreak, sCont, List.map, List.length_cons, List.length_nil, Option.bind_some, Option.map_some, List.replicate, List.cons_append, List.nil_append, List.getElem?_cons_succ, List.getElem?_cons_zero, List.set, if_true, trunc_self, List.all_cons, List.all_nil, Bool.and_true, Nat.reduceAdd, Nat.reduceSub, Nat.reduceEqDiff, Nat.reduceLeDiff, decide_eq_true_eq, reduceIte, atI_0, atI_1, atI_2, atI_3, atI_4, atI_5, atI_6, atI_7, atI_8, cQ, cGSl, coSome, coNone, cTupOf, tupG, wipeG, seqN, lpC, lpQ, ciZip, zipU, fzU, truB, List.zip, List.zipWith, asgU, dU, sOwn, appF, extF, isL, caD, zipD, enU, sumG, intsD, ciEnum, decide_true, decide_false, Bool.true_eq_false, Bool.false_eq_true, if_false, Bool.not_true, Bool.not_false, hf]
      with_reducible rfl
    apply seq_go
    · simp only [cFn, sSeq, sSkip, sPar, setP, parU, caCons, caNil, cC, cVar, sRet, sRetN, cHand, cRt, rtU, cCall, argOk, okF, sIf, sAsg, asgU, sAsgA, cFz, fzU, sAsgG, gT, gsC, gsN, gN, setL, cTup, cLst, cDisp, allD, cIx, ixG, cGIx, sAug, slotD, _root_.M.c2, cB2, vB, addG, subG, mulG, fdivG, modG, negG, iMulG, iAddG, _root_.M.c1, cAdd, cSub, cMul, cFdiv, cMod, cNeg, bTru, truD, valU, bNot, bAnd, bOr, cNotV, cAndV, cOrV, cIf, eqB, neB, ltB, leB, gtB, geB, bEq, bNe, bLt, bLe, bGt, bGe, cEq, cNe, cLt, cLe, cGt, cGe, cCB, _root_.M.g1, _root_.M.g2, absG, intG, cAbs, cInt, cLen, lenG, cSum, sumG, intsD, sFzL, sFz, sExpr, sWhile, sFor, ciSeq, cjSeq, seqS, seqN, ciRng1, ciRng2, ciRng3, ciA, intsU, rg1, rg2, cLc, cbYes, wipeG, cMeth, isStr, isL, caD, cCellM, cellU, sStC, sSt, dU, stoF, cNew, sBreak, sCont, List.map, List.length_cons, List.length_nil, Option.bind_some, Option.map_some, List.replicate, List.cons_append, List.nil_append, List.getElem?_cons_succ, List.getElem?_cons_zero, List.set, if_true, trunc_self, List.all_cons, List.all_nil, Bool.and_true, Nat.reduceAdd, Nat.reduceSub, Nat.reduceEqDiff, Nat.reduceLeDiff, decide_eq_true_eq, reduceIte, atI_0, atI_1, atI_2, atI_3, atI_4, atI_5, atI_6, atI_7, atI_8, cQ, cGSl, coSome, coNone, cTupOf, tupG, wipeG, seqN, lpC, lpQ, ciZip, zipU, fzU, truB, List.zip, List.zipWith, asgU, dU, sOwn, appF, extF, isL, caD, zipD, enU, sumG, intsD, ciEnum, decide_true, decide_false, Bool.true_eq_false, Bool.false_eq_true, if_false, Bool.not_true, Bool.not_false, f1]
      with_reducible rfl
    apply seq_go
    · simp only [cFn, sSeq, sSkip, sPar, setP, parU, caCons, caNil, cC, cVar, sRet, sRetN, cHand, cRt, rtU, cCall, argOk, okF, sIf, sAsg, asgU, sAsgA, cFz, fzU, sAsgG, gT, gsC, gsN, gN, setL, cTup, cLst, cDisp, allD, cIx, ixG, cGIx, sAug, slotD, _root_.M.c2, cB2, vB, addG, subG, mulG, fdivG, modG, negG, iMulG, iAddG, _root_.M.c1, cAdd, cSub, cMul, cFdiv, cMod, cNeg, bTru, truD, valU, bNot, bAnd, bOr, cNotV, cAndV, cOrV, cIf, eqB, neB, ltB, leB, gtB, geB, bEq, bNe, bLt, bLe, bGt, bGe, cEq, cNe, cLt, cLe, cGt, cGe, cCB, _root_.M.g1, _root_.M.g2, absG, intG, cAbs, cInt, cLen, lenG, cSum, sumG, intsD, sFzL, sFz, sExpr, sWhile, sFor, ciSeq, cjSeq, seqS, seqN, ciRng1, ciRng2, ciRng3, ciA, intsU, rg1, rg2, cLc, cbYes, wipeG, cMeth, isStr, isL, caD, cCellM, cellU, sStC, sSt, dU, stoF, cNew, sBreak, sCont, List.map, List.length_cons, List.length_nil, Option.bind_some, Option.map_some, List.replicate, List.cons_append, List.nil_append, List.getElem?_cons_succ, List.getElem?_cons_zero, List.set, if_true, trunc_self, List.all_cons, List.all_nil, Bool.and_true, Nat.reduceAdd, Nat.reduceSub, Nat.reduceEqDiff, Nat.reduceLeDiff, decide_eq_true_eq, reduceIte, atI_0, atI_1, atI_2, atI_3, atI_4, atI_5, atI_6, atI_7, atI_8, cQ, cGSl, coSome, coNone, cTupOf, tupG, wipeG, seqN, lpC, lpQ, ciZip, zipU, fzU, truB, List.zip, List.zipWith, asgU, dU, sOwn, appF, extF, isL, caD, zipD, enU, sumG, intsD, ciEnum, decide_true, decide_false, Bool.true_eq_false, Bool.false_eq_true, if_false, Bool.not_true, Bool.not_false, f2]
      with_reducible rfl
    apply seq_go
    · simp only [cFn, sSeq, sSkip, sPar, setP, parU, caCons, caNil, cC, cVar, sRet, sRetN, cHand, cRt, rtU, cCall, argOk, okF, sIf, sAsg, asgU, sAsgA, cFz, fzU, sAsgG, gT, gsC, gsN, gN, setL, cTup, cLst, cDisp, allD, cIx, ixG, cGIx, sAug, slotD, _root_.M.c2, cB2, vB, addG, subG, mulG, fdivG, modG, negG, iMulG, iAddG, _root_.M.c1, cAdd, cSub, cMul, cFdiv, cMod, cNeg, bTru, truD, valU, bNot, bAnd, bOr, cNotV, cAndV, cOrV, cIf, eqB, neB, ltB, leB, gtB, geB, bEq, bNe, bLt, bLe, bGt, bGe, cEq, cNe, cLt, cLe, cGt, cGe, cCB, _root_.M.g1, _root_.M.g2, absG, intG, cAbs, cInt, cLen, lenG, cSum, sumG, intsD, sFzL, sFz, sExpr, sWhile, sFor, ciSeq, cjSeq, seqS, seqN, ciRng1, ciRng2, ciRng3, ciA, intsU, rg1, rg2, cLc, cbYes, wipeG, cMeth, isStr, isL, caD, cCellM, cellU, sStC, sSt, dU, stoF, cNew, sBreak, sCont, List.map, List.length_cons, List.length_nil, Option.bind_some, Option.map_some, List.replicate, List.cons_append, List.nil_append, List.getElem?_cons_succ, List.getElem?_cons_zero, List.set, if_true, trunc_self, List.all_cons, List.all_nil, Bool.and_true, Nat.reduceAdd, Nat.reduceSub, Nat.reduceEqDiff, Nat.reduceLeDiff, decide_eq_true_eq, reduceIte, atI_0, atI_1, atI_2, atI_3, atI_4, atI_5, atI_6, atI_7, atI_8, cQ, cGSl, coSome, coNone, cTupOf, tupG, wipeG, seqN, lpC, lpQ, ciZip, zipU, fzU, truB, List.zip, List.zipWith, asgU, dU, sOwn, appF, extF, isL, caD, zipD, enU, sumG, intsD, ciEnum, decide_true, decide_false, Bool.true_eq_false, Bool.false_eq_true, if_false, Bool.not_true, Bool.not_false, t1, sz3]
      with_reducible rfl
    apply seq_go
    · simp only [cFn, sSeq, sSkip, sPar, setP, parU, caCons, caNil, cC, cVar, sRet, sRetN, cHand, cRt, rtU, cCall, argOk, okF, sIf, sAsg, asgU, sAsgA, cFz, fzU, sAsgG, gT, gsC, gsN, gN, setL, cTup, cLst, cDisp, allD, cIx, ixG, cGIx, sAug, slotD, _root_.M.c2, cB2, vB, addG, subG, mulG, fdivG, modG, negG, iMulG, iAddG, _root_.M.c1, cAdd, cSub, cMul, cFdiv, cMod, cNeg, bTru, truD, valU, bNot, bAnd, bOr, cNotV, cAndV, cOrV, cIf, eqB, neB, ltB, leB, gtB, geB, bEq, bNe, bLt, bLe, bGt, bGe, cEq, cNe, cLt, cLe, cGt, cGe, cCB, _root_.M.g1, _root_.M.g2, absG, intG, cAbs, cInt, cLen, lenG, cSum, sumG, intsD, sFzL, sFz, sExpr, sWhile, sFor, ciSeq, cjSeq, seqS, seqN, ciRng1, ciRng2, ciRng3, ciA, intsU, rg1, rg2, cLc, cbYes, wipeG, cMeth, isStr, isL, caD, cCellM, cellU, sStC, sSt, dU, stoF, cNew, sBreak, sCont, List.map, List.length_cons, List.length_nil, Option.bind_some, Option.map_some, List.replicate, List.cons_append, List.nil_append, List.getElem?_cons_succ, List.getElem?_cons_zero, List.set, if_true, trunc_self, List.all_cons, List.all_nil, Bool.and_true, Nat.reduceAdd, Nat.reduceSub, Nat.reduceEqDiff, Nat.reduceLeDiff, decide_eq_true_eq, reduceIte, atI_0, atI_1, atI_2, atI_3, atI_4, atI_5, atI_6, atI_7, atI_8, cQ, cGSl, coSome, coNone, cTupOf, tupG, wipeG, seqN, lpC, lpQ, ciZip, zipU, fzU, truB, List.zip, List.zipWith, asgU, dU, sOwn, appF, extF, isL, caD, zipD, enU, sumG, intsD, ciEnum, decide_true, decide_false, Bool.true_eq_false, Bool.false_eq_true, if_false, Bool.not_true, Bool.not_false, t2, sz3]
      with_reducible rfl
    apply seq_go
    · simp only [cFn, sSeq, sSkip, sPar, setP, parU, caCons, caNil, cC, cVar, sRet, sRetN, cHand, cRt, rtU, cCall, argOk, okF, sIf, sAsg, asgU, sAsgA, cFz, fzU, sAsgG, gT, gsC, gsN, gN, setL, cTup, cLst, cDisp, allD, cIx, ixG, cGIx, sAug, slotD, _root_.M.c2, cB2, vB, addG, subG, mulG, fdivG, modG, negG, iMulG, iAddG, _root_.M.c1, cAdd, cSub, cMul, cFdiv, cMod, cNeg, bTru, truD, valU, bNot, bAnd, bOr, cNotV, cAndV, cOrV, cIf, eqB, neB, ltB, leB, gtB, geB, bEq, bNe, bLt, bLe, bGt, bGe, cEq, cNe, cLt, cLe, cGt, cGe, cCB, _root_.M.g1, _root_.M.g2, absG, intG, cAbs, cInt, cLen, lenG, cSum, sumG, intsD, sFzL, sFz, sExpr, sWhile, sFor, ciSeq, cjSeq, seqS, seqN, ciRng1, ciRng2, ciRng3, ciA, intsU, rg1, rg2, cLc, cbYes, wipeG, cMeth, isStr, isL, caD, cCellM, cellU, sStC, sSt, dU, stoF, cNew, sBreak, sCont, List.map, List.length_cons, List.length_nil, Option.bind_some, Option.map_some, List.replicate, List.cons_append, List.nil_append, List.getElem?_cons_succ, List.getElem?_cons_zero, List.set, if_true, trunc_self, List.all_cons, List.all_nil, Bool.and_true, Nat.reduceAdd, Nat.reduceSub, Nat.reduceEqDiff, Nat.reduceLeDiff, decide_eq_true_eq, reduceIte, atI_0, atI_1, atI_2, atI_3, atI_4, atI_5, atI_6, atI_7, atI_8, cQ, cGSl, coSome, coNone, cTupOf, tupG, wipeG, seqN, lpC, lpQ, ciZip, zipU, fzU, truB, List.zip, List.zipWith, asgU, dU, sOwn, appF, extF, isL, caD, zipD, enU, sumG, intsD, ciEnum, decide_true, decide_false, Bool.true_eq_false, Bool.false_eq_true, if_false, Bool.not_true, Bool.not_false, gi]
      with_reducible rfl
    apply seq_go
    · simp only [cFn, sSeq, sSkip, sPar, setP, parU, caCons, caNil, cC, cVar, sRet, sRetN, cHand, cRt, rtU, cCall, argOk, okF, sIf, sAsg, asgU, sAsgA, cFz, fzU, sAsgG, gT, gsC, gsN, gN, setL, cTup, cLst, cDisp, allD, cIx, ixG, cGIx, sAug, slotD, _root_.M.c2, cB2, vB, addG, subG, mulG, fdivG, modG, negG, iMulG, iAddG, _root_.M.c1, cAdd, cSub, cMul, cFdiv, cMod, cNeg, bTru, truD, valU, bNot, bAnd, bOr, cNotV, cAndV, cOrV, cIf, eqB, neB, ltB, leB, gtB, geB, bEq, bNe, bLt, bLe, bGt, bGe, cEq, cNe, cLt, cLe, cGt, cGe, cCB, _root_.M.g1, _root_.M.g2, absG, intG, cAbs, cInt, cLen, lenG, cSum, sumG, intsD, sFzL, sFz, sExpr, sWhile, sFor, ciSeq, cjSeq, seqS, seqN, ciRng1, ciRng2, ciRng3, ciA, intsU, rg1, rg2, cLc, cbYes, wipeG, cMeth, isStr, isL, caD, cCellM, cellU, sStC, sSt, dU, stoF, cNew, sBreak, sCont, List.map, List.length_cons, List.length_nil, Option.bind_some, Option.map_some, List.replicate, List.cons_append, List.nil_append, List.getElem?_cons_succ, List.getElem?_cons_zero, List.set, if_true, trunc_self, List.all_cons, List.all_nil, Bool.and_true, Nat.reduceAdd, Nat.reduceSub, Nat.reduceEqDiff, Nat.reduceLeDiff, decide_eq_true_eq, reduceIte, atI_0, atI_1, atI_2, atI_3, atI_4, atI_5, atI_6, atI_7, atI_8, cQ, cGSl, coSome, coNone, cTupOf, tupG, wipeG, seqN, lpC, lpQ, ciZip, zipU, fzU, truB, List.zip, List.zipWith, asgU, dU, sOwn, appF, extF, isL, caD, zipD, enU, sumG, intsD, ciEnum, decide_true, decide_false, Bool.true_eq_false, Bool.false_eq_true, if_false, Bool.not_true, Bool.not_false, fifths_ok, hX1]
      with_reducible rfl
    apply seq_go
    · simp only [cFn, sSeq, sSkip, sPar, setP, parU, caCons, caNil, cC, cVar, sRet, sRetN, cHand, cRt, rtU, cCall, argOk, okF, sIf, sAsg, asgU, sAsgA, cFz, fzU, sAsgG, gT, gsC, gsN, gN, setL, cTup, cLst, cDisp, allD, cIx, ixG, cGIx, sAug, slotD, _root_.M.c2, cB2, vB, addG, subG, mulG, fdivG, modG, negG, iMulG, iAddG, _root_.M.c1, cAdd, cSub, cMul, cFdiv, cMod, cNeg, bTru, truD, valU, bNot, bAnd, bOr, cNotV, cAndV, cOrV, cIf, eqB, neB, ltB, leB, gtB, geB, bEq, bNe, bLt, bLe, bGt, bGe, cEq, cNe, cLt, cLe, cGt, cGe, cCB, _root_.M.g1, _root_.M.g2, absG, intG, cAbs, cInt, cLen, lenG, cSum, sumG, intsD, sFzL, sFz, sExpr, sWhile, sFor, ciSeq, cjSeq, seqS, seqN, ciRng1, ciRng2, ciRng3, ciA, intsU, rg1, rg2, cLc, cbYes, wipeG, cMeth, isStr, isL, caD, cCellM, cellU, sStC, sSt, dU, stoF, cNew, sBreak, sCont, List.map, List.length_cons, List.length_nil, Option.bind_some, Option.map_some, List.replicate, List.cons_append, List.nil_append, List.getElem?_cons_succ, List.getElem?_cons_zero, List.set, if_true, trunc_self, List.all_cons, List.all_nil, Bool.and_true, Nat.reduceAdd, Nat.reduceSub, Nat.reduceEqDiff, Nat.reduceLeDiff, decide_eq_true_eq, reduceIte, atI_0, atI_1, atI_2, atI_3, atI_4, atI_5, atI_6, atI_7, atI_8, cQ, cGSl, coSome, coNone, cTupOf, tupG, wipeG, seqN, lpC, lpQ, ciZip, zipU, fzU, truB, List.zip, List.zipWith, asgU, dU, sOwn, appF, extF, isL, caD, zipD, enU, sumG, intsD, ciEnum, decide_true, decide_false, Bool.true_eq_false, Bool.false_eq_true, if_false, Bool.not_true, Bool.not_false, hX, fi1, fi2, hX3]
      with_reducible rfl
    apply seq_go
    · simp only [cFn, sSeq, sSkip, sPar, setP, parU, caCons, caNil, cC, cVar, sRet, sRetN, cHand, cRt, rtU, cCall, argOk, okF, sIf, sAsg, asgU, sAsgA, cFz, fzU, sAsgG, gT, gsC, gsN, gN, setL, cTup, cLst, cDisp, allD, cIx, ixG, cGIx, sAug, slotD, _root_.M.c2, cB2, vB, addG, subG, mulG, fdivG, modG, negG, iMulG, iAddG, _root_.M.c1, cAdd, cSub, cMul, cFdiv, cMod, cNeg, bTru, truD, valU, bNot, bAnd, bOr, cNotV, cAndV, cOrV, cIf, eqB, neB, ltB, leB, gtB, geB, bEq, bNe, bLt, bLe, bGt, bGe, cEq, cNe, cLt, cLe, cGt, cGe, cCB, _root_.M.g1, _root_.M.g2, absG, intG, cAbs, cInt, cLen, lenG, cSum, sumG, intsD, sFzL, sFz, sExpr, sWhile, sFor, ciSeq, cjSeq, seqS, seqN, ciRng1, ciRng2, ciRng3, ciA, intsU, rg1, rg2, cLc, cbYes, wipeG, cMeth, isStr, isL, caD, cCellM, cellU, sStC, sSt, dU, stoF, cNew, sBreak, sCont, List.map, List.length_cons, List.length_nil, Option.bind_some, Option.map_some, List.replicate, List.cons_append, List.nil_append, List.getElem?_cons_succ, List.getElem?_cons_zero, List.set, if_true, trunc_self, List.all_cons, List.all_nil, Bool.and_true, Nat.reduceAdd, Nat.reduceSub, Nat.reduceEqDiff, Nat.reduceLeDiff, decide_eq_true_eq, reduceIte, atI_0, atI_1, atI_2, atI_3, atI_4, atI_5, atI_6, atI_7, atI_8, cQ, cGSl, coSome, coNone, cTupOf, tupG, wipeG, seqN, lpC, lpQ, ciZip, zipU, fzU, truB, List.zip, List.zipWith, asgU, dU, sOwn, appF, extF, isL, caD, zipD, enU, sumG, intsD, ciEnum, decide_true, decide_false, Bool.true_eq_false, Bool.false_eq_true, if_false, Bool.not_true, Bool.not_false, hO, m4, d7]
      with_reducible rfl
    apply seq_go
    · simp only [cFn, sSeq, sSkip, sPar, setP, parU, caCons, caNil, cC, cVar, sRet, sRetN, cHand, cRt, rtU, cCall, argOk, okF, sIf, sAsg, asgU, sAsgA, cFz, fzU, sAsgG, gT, gsC, gsN, gN, setL, cTup, cLst, cDisp, allD, cIx, ixG, cGIx, sAug, slotD, _root_.M.c2, cB2, vB, addG, subG, mulG, fdivG, modG, negG, iMulG, iAddG, _root_.M.c1, cAdd, cSub, cMul, cFdiv, cMod, cNeg, bTru, truD, valU, bNot, bAnd, bOr, cNotV, cAndV, cOrV, cIf, eqB, neB, ltB, leB, gtB, geB, bEq, bNe, bLt, bLe, bGt, bGe, cEq, cNe, cLt, cLe, cGt, cGe, cCB, _root_.M.g1, _root_.M.g2, absG, intG, cAbs, cInt, cLen, lenG, cSum, sumG, intsD, sFzL, sFz, sExpr, sWhile, sFor, ciSeq, cjSeq, seqS, seqN, ciRng1, ciRng2, ciRng3, ciA, intsU, rg1, rg2, cLc, cbYes, wipeG, cMeth, isStr, isL, caD, cCellM, cellU, sStC, sSt, dU, stoF, cNew, sBreak, sCont, List.map, List.length_cons, List.length_nil, Option.bind_some, Option.map_some, List.replicate, List.cons_append, List.nil_append, List.getElem?_cons_succ, List.getElem?_cons_zero, List.set, if_true, trunc_self, List.all_cons, List.all_nil, Bool.and_true, Nat.reduceAdd, Nat.reduceSub, Nat.reduceEqDiff, Nat.reduceLeDiff, decide_eq_true_eq, reduceIte, atI_0, atI_1, atI_2, atI_3, atI_4, atI_5, atI_6, atI_7, atI_8, cQ, cGSl, coSome, coNone, cTupOf, tupG, wipeG, seqN, lpC, lpQ, ciZip, zipU, fzU, truB, List.zip, List.zipWith, asgU, dU, sOwn, appF, extF, isL, caD, zipD, enU, sumG, intsD, ciEnum, decide_true, decide_false, Bool.true_eq_false, Bool.false_eq_true, if_false, Bool.not_true, Bool.not_false, hO1, hO2, m4, m7, m12, d7, o7]
      with_reducible rfl
    apply seq_go
    · simp only [cFn, sSeq, sSkip, sPar, setP, parU, caCons, caNil, cC, cVar, sRet, sRetN, cHand, cRt, rtU, cCall, argOk, okF, sIf, sAsg, asgU, sAsgA, cFz, fzU, sAsgG, gT, gsC, gsN, gN, setL, cTup, cLst, cDisp, allD, cIx, ixG, cGIx, sAug, slotD, _root_.M.c2, cB2, vB, addG, subG, mulG, fdivG, modG, negG, iMulG, iAddG, _root_.M.c1, cAdd, cSub, cMul, cFdiv, cMod, cNeg, bTru, truD, valU, bNot, bAnd, bOr, cNotV, cAndV, cOrV, cIf, eqB, neB, ltB, leB, gtB, geB, bEq, bNe, bLt, bLe, bGt, bGe, cEq, cNe, cLt, cLe, cGt, cGe, cCB, _root_.M.g1, _root_.M.g2, absG, intG, cAbs, cInt, cLen, lenG, cSum, sumG, intsD, sFzL, sFz, sExpr, sWhile, sFor, ciSeq, cjSeq, seqS, seqN, ciRng1, ciRng2, ciRng3, ciA, intsU, rg1, rg2, cLc, cbYes, wipeG, cMeth, isStr, isL, caD, cCellM, cellU, sStC, sSt, dU, stoF, cNew, sBreak, sCont, List.map, List.length_cons, List.length_nil, Option.bind_some, Option.map_some, List.replicate, List.cons_append, List.nil_append, List.getElem?_cons_succ, List.getElem?_cons_zero, List.set, if_true, trunc_self, List.all_cons, List.all_nil, Bool.and_true, Nat.reduceAdd, Nat.reduceSub, Nat.reduceEqDiff, Nat.reduceLeDiff, decide_eq_true_eq, reduceIte, atI_0, atI_1, atI_2, atI_3, atI_4, atI_5, atI_6, atI_7, atI_8, cQ, cGSl, coSome, coNone, cTupOf, tupG, wipeG, seqN, lpC, lpQ, ciZip, zipU, fzU, truB, List.zip, List.zipWith, asgU, dU, sOwn, appF, extF, isL, caD, zipD, enU, sumG, intsD, ciEnum, decide_true, decide_false, Bool.true_eq_false, Bool.false_eq_true, if_false, Bool.not_true, Bool.not_false, sz3]
      with_reducible rfl
    apply seq_go
    · simp only [cFn, sSeq, sSkip, sPar, setP, parU, caCons, caNil, cC, cVar, sRet, sRetN, cHand, cRt, rtU, cCall, argOk, okF, sIf, sAsg, asgU, sAsgA, cFz, fzU, sAsgG, gT, gsC, gsN, gN, setL, cTup, cLst, cDisp, allD, cIx, ixG, cGIx, sAug, slotD, _root_.M.c2, cB2, vB, addG, subG, mulG, fdivG, modG, negG, iMulG, iAddG, _root_.M.c1, cAdd, cSub, cMul, cFdiv, cMod, cNeg, bTru, truD, valU, bNot, bAnd, bOr, cNotV, cAndV, cOrV, cIf, eqB, neB, ltB, leB, gtB, geB, bEq, bNe, bLt, bLe, bGt, bGe, cEq, cNe, cLt, cLe, cGt, cGe, cCB, _root_.M.g1, _root_.M.g2, absG, intG, cAbs, cInt, cLen, lenG, cSum, sumG, intsD, sFzL, sFz, sExpr, sWhile, sFor, ciSeq, cjSeq, seqS, seqN, ciRng1, ciRng2, ciRng3, ciA, intsU, rg1, rg2, cLc, cbYes, wipeG, cMeth, isStr, isL, caD, cCellM, cellU, sStC, sSt, dU, stoF, cNew, sBreak, sCont, List.map, List.length_cons, List.length_nil, Option.bind_some, Option.map_some, List.replicate, List.cons_append, List.nil_append, List.getElem?_cons_succ, List.getElem?_cons_zero, List.set, if_true, trunc_self, List.all_cons, List.all_nil, Bool.and_true, Nat.reduceAdd, Nat.reduceSub, Nat.reduceEqDiff, Nat.reduceLeDiff, decide_eq_true_eq, reduceIte, atI_0, atI_1, atI_2, atI_3, atI_4, atI_5, atI_6, atI_7, atI_8, cQ, cGSl, coSome, coNone, cTupOf, tupG, wipeG, seqN, lpC, lpQ, ciZip, zipU, fzU, truB, List.zip, List.zipWith, asgU, dU, sOwn, appF, extF, isL, caD, zipD, enU, sumG, intsD, ciEnum, decide_true, decide_false, Bool.true_eq_false, Bool.false_eq_true, if_false, Bool.not_true, Bool.not_false, st1]
      with_reducible rfl
    apply seq_go
    · simp only [cFn, sSeq, sSkip, sPar, setP, parU, caCons, caNil, cC, cVar, sRet, sRetN, cHand, cRt, rtU, cCall, argOk, okF, sIf, sAsg, asgU, sAsgA, cFz, fzU, sAsgG, gT, gsC, gsN, gN, setL, cTup, cLst, cDisp, allD, cIx, ixG, cGIx, sAug, slotD, _root_.M.c2, cB2, vB, addG, subG, mulG, fdivG, modG, negG, iMulG, iAddG, _root_.M.c1, cAdd, cSub, cMul, cFdiv, cMod, cNeg, bTru, truD, valU, bNot, bAnd, bOr, cNotV, cAndV, cOrV, cIf, eqB, neB, ltB, leB, gtB, geB, bEq, bNe, bLt, bLe, bGt, bGe, cEq, cNe, cLt, cLe, cGt, cGe, cCB, _root_.M.g1, _root_.M.g2, absG, intG, cAbs, cInt, cLen, lenG, cSum, sumG, intsD, sFzL, sFz, sExpr, sWhile, sFor, ciSeq, cjSeq, seqS, seqN, ciRng1, ciRng2, ciRng3, ciA, intsU, rg1, rg2, cLc, cbYes, wipeG, cMeth, isStr, isL, caD, cCellM, cellU, sStC, sSt, dU, stoF, cNew, sBreak, sCont, List.map, List.length_cons, List.length_nil, Option.bind_some, Option.map_some, List.replicate, List.cons_append, List.nil_append, List.getElem?_cons_succ, List.getElem?_cons_zero, List.set, if_true, trunc_self, List.all_cons, List.all_nil, Bool.and_true, Nat.reduceAdd, Nat.reduceSub, Nat.reduceEqDiff, Nat.reduceLeDiff, decide_eq_true_eq, reduceIte, atI_0, atI_1, atI_2, atI_3, atI_4, atI_5, atI_6, atI_7, atI_8, cQ, cGSl, coSome, coNone, cTupOf, tupG, wipeG, seqN, lpC, lpQ, ciZip, zipU, fzU, truB, List.zip, List.zipWith, asgU, dU, sOwn, appF, extF, isL, caD, zipD, enU, sumG, intsD, ciEnum, decide_true, decide_false, Bool.true_eq_false, Bool.false_eq_true, if_false, Bool.not_true, Bool.not_false, mf, ms, hTL]
      with_reducible rfl
    apply seq_go
    · simp only [cFn, sSeq, sSkip, sPar, setP, parU, caCons, caNil, cC, cVar, sRet, sRetN, cHand, cRt, rtU, cCall, argOk, okF, sIf, sAsg, asgU, sAsgA, cFz, fzU, sAsgG, gT, gsC, gsN, gN, setL, cTup, cLst, cDisp, allD, cIx, ixG, cGIx, sAug, slotD, _root_.M.c2, cB2, vB, addG, subG, mulG, fdivG, modG, negG, iMulG, iAddG, _root_.M.c1, cAdd, cSub, cMul, cFdiv, cMod, cNeg, bTru, truD, valU, bNot, bAnd, bOr, cNotV, cAndV, cOrV, cIf, eqB, neB, ltB, leB, gtB, geB, bEq, bNe, bLt, bLe, bGt, bGe, cEq, cNe, cLt, cLe, cGt, cGe, cCB, _root_.M.g1, _root_.M.g2, absG, intG, cAbs, cInt, cLen, lenG, cSum, sumG, intsD, sFzL, sFz, sExpr, sWhile, sFor, ciSeq, cjSeq, seqS, seqN, ciRng1, ciRng2, ciRng3, ciA, intsU, rg1, rg2, cLc, cbYes, wipeG, cMeth, isStr, isL, caD, cCellM, cellU, sStC, sSt, dU, stoF, cNew, sBreak, sCont, List.map, List.length_cons, List.length_nil, Option.bind_some, Option.map_some, List.replicate, List.cons_append, List.nil_append, List.getElem?_cons_succ, List.getElem?_cons_zero, List.set, if_true, trunc_self, List.all_cons, List.all_nil, Bool.and_true, Nat.reduceAdd, Nat.reduceSub, Nat.reduceEqDiff, Nat.reduceLeDiff, decide_eq_true_eq, reduceIte, atI_0, atI_1, atI_2, atI_3, atI_4, atI_5, atI_6, atI_7, atI_8, cQ, cGSl, coSome, coNone, cTupOf, tupG, wipeG, seqN, lpC, lpQ, ciZip, zipU, fzU, truB, List.zip, List.zipWith, asgU, dU, sOwn, appF, extF, isL, caD, zipD, enU, sumG, intsD, ciEnum, decide_true, decide_false, Bool.true_eq_false, Bool.false_eq_true, if_false, Bool.not_true, Bool.not_false, hB1, so]
      with_reducible rfl
    apply seq_go
    · simp only [cFn, sSeq, sSkip, sPar, setP, parU, caCons, caNil, cC, cVar, sRet, sRetN, cHand, cRt, rtU, cCall, argOk, okF, sIf, sAsg, asgU, sAsgA, cFz, fzU, sAsgG, gT, gsC, gsN, gN, setL, cTup, cLst, cDisp, allD, cIx, ixG, cGIx, sAug, slotD, _root_.M.c2, cB2, vB, addG, subG, mulG, fdivG, modG, negG, iMulG, iAddG, _root_.M.c1, cAdd, cSub, cMul, cFdiv, cMod, cNeg, bTru, truD, valU, bNot, bAnd, bOr, cNotV, cAndV, cOrV, cIf, eqB, neB, ltB, leB, gtB, geB, bEq, bNe, bLt, bLe, bGt, bGe, cEq, cNe, cLt, cLe, cGt, cGe, cCB, _root_.M.g1, _root_.M.g2, absG, intG, cAbs, cInt, cLen, lenG, cSum, sumG, intsD, sFzL, sFz, sExpr, sWhile, sFor, ciSeq, cjSeq, seqS, seqN, ciRng1, ciRng2, ciRng3, ciA, intsU, rg1, rg2, cLc, cbYes, wipeG, cMeth, isStr, isL, caD, cCellM, cellU, sStC, sSt, dU, stoF, cNew, sBreak, sCont, List.map, List.length_cons, List.length_nil, Option.bind_some, Option.map_some, List.replicate, List.cons_append, List.nil_append, List.getElem?_cons_succ, List.getElem?_cons_zero, List.set, if_true, trunc_self, List.all_cons, List.all_nil, Bool.and_true, Nat.reduceAdd, Nat.reduceSub, Nat.reduceEqDiff, Nat.reduceLeDiff, decide_eq_true_eq, reduceIte, atI_0, atI_1, atI_2, atI_3, atI_4, atI_5, atI_6, atI_7, atI_8, cQ, cGSl, coSome, coNone, cTupOf, tupG, wipeG, seqN, lpC, lpQ, ciZip, zipU, fzU, truB, List.zip, List.zipWith, asgU, dU, sOwn, appF, extF, isL, caD, zipD, enU, sumG, intsD, ciEnum, decide_true, decide_false, Bool.true_eq_false, Bool.false_eq_true, if_false, Bool.not_true, Bool.not_false, ecd3, S.b5, gd]
      with_reducible rfl
    apply seq_go
    · simp only [cFn, sSeq, sSkip, sPar, setP, parU, caCons, caNil, cC, cVar, sRet, sRetN, cHand, cRt, rtU, cCall, argOk, okF, sIf, sAsg, asgU, sAsgA, cFz, fzU, sAsgG, gT, gsC, gsN, gN, setL, cTup, cLst, cDisp, allD, cIx, ixG, cGIx, sAug, slotD, _root_.M.c2, cB2, vB, addG, subG, mulG, fdivG, modG, negG, iMulG, iAddG, _root_.M.c1, cAdd, cSub, cMul, cFdiv, cMod, cNeg, bTru, truD, valU, bNot, bAnd, bOr, cNotV, cAndV, cOrV, cIf, neB, ltB, leB, gtB, geB, bEq, bNe, bLt, bLe, bGt, bGe, cEq, cNe, cLt, cLe, cGt, cGe, cCB, _root_.M.g1, _root_.M.g2, absG, intG, cAbs, cInt, cLen, lenG, cSum, sumG, intsD, sFzL, sFz, sExpr, sWhile, sFor, ciSeq, cjSeq, seqS, seqN, ciRng1, ciRng2, ciRng3, ciA, intsU, rg1, rg2, cLc, cbYes, wipeG, cMeth, isStr, isL, caD, cCellM, cellU, sStC, sSt, dU, stoF, cNew, sBreak, sCont, List.map, List.length_cons, List.length_nil, Option.bind_some, Option.map_some, List.replicate, List.cons_append, List.nil_append, List.getElem?_cons_succ, List.getElem?_cons_zero, List.set, if_true, trunc_self, List.all_cons, List.all_nil, Bool.and_true, Nat.reduceAdd, Nat.reduceSub, Nat.reduceEqDiff, Nat.reduceLeDiff, decide_eq_true_eq, reduceIte, atI_0, atI_1, atI_2, atI_3, atI_4, atI_5, atI_6, atI_7, atI_8, cQ, cGSl, coSome, coNone, cTupOf, tupG, wipeG, seqN, lpC, lpQ, ciZip, zipU, fzU, truB, List.zip, List.zipWith, asgU, dU, sOwn, appF, extF, isL, caD, zipD, enU, sumG, intsD, ciEnum, decide_true, decide_false, Bool.true_eq_false, Bool.false_eq_true, if_false, Bool.not_true, Bool.not_false, hB3, po, hBB]
      with_reducible rfl
    apply seq_go
    · simp only [cFn, sSeq, sSkip, sPar, setP, parU, caCons, caNil, cC, cVar, sRet, sRetN, cHand, cRt, rtU, cCall, argOk, okF, sIf, sAsg, asgU, sAsgA, cFz, fzU, sAsgG, gT, gsC, gsN, gN, setL, cTup, cLst, cDisp, allD, cIx, ixG, cGIx, sAug, slotD, _root_.M.c2, cB2, vB, addG, subG, mulG, fdivG, modG, negG, iMulG, iAddG, _root_.M.c1, cAdd, cSub, cMul, cFdiv, cMod, cNeg, bTru, truD, valU, bNot, bAnd, bOr, cNotV, cAndV, cOrV, cIf, eqB, neB, ltB, leB, gtB, geB, bEq, bNe, bLt, bLe, bGt, bGe, cEq, cNe, cLt, cLe, cGt, cGe, cCB, _root_.M.g1, _root_.M.g2, absG, intG, cAbs, cInt, cLen, lenG, cSum, sumG, intsD, sFzL, sFz, sExpr, sWhile, sFor, ciSeq, cjSeq, seqS, seqN, ciRng1, ciRng2, ciRng3, ciA, intsU, rg1, rg2, cLc, cbYes, wipeG, cMeth, isStr, isL, caD, cCellM, cellU, sStC, sSt, dU, stoF, cNew, sBreak, sCont, List.map, List.length_cons, List.length_nil, Option.bind_some, Option.map_some, List.replicate, List.cons_append, List.nil_append, List.getElem?_cons_succ, List.getElem?_cons_zero, List.set, if_true, trunc_self, List.all_cons, List.all_nil, Bool.and_true, Nat.reduceAdd, Nat.reduceSub, Nat.reduceEqDiff, Nat.reduceLeDiff, decide_eq_true_eq, reduceIte, atI_0, atI_1, atI_2, atI_3, atI_4, atI_5, atI_6, atI_7, atI_8, cQ, cGSl, coSome, coNone, cTupOf, tupG, wipeG, seqN, lpC, lpQ, ciZip, zipU, fzU, truB, List.zip, List.zipWith, asgU, dU, sOwn, appF, extF, isL, caD, zipD, enU, sumG, intsD, ciEnum, decide_true, decide_false, Bool.true_eq_false, Bool.false_eq_true, if_false, Bool.not_true, Bool.not_false, f3]
      with_reducible rfl
    apply seq_go
    · simp only [cFn, sSeq, sSkip, sPar, setP, parU, caCons, caNil, cC, cVar, sRet, sRetN, cHand, cRt, rtU, cCall, argOk, okF, sIf, sAsg, asgU, sAsgA, cFz, fzU, sAsgG, gT, gsC, gsN, gN, setL, cTup, cLst, cDisp, allD, cIx, ixG, cGIx, sAug, slotD, _root_.M.c2, cB2, vB, addG, subG, mulG, fdivG, modG, negG, iMulG, iAddG, _root_.M.c1, cAdd, cSub, cMul, cFdiv, cMod, cNeg, bTru, truD, valU, bNot, bAnd, bOr, cNotV, cAndV, cOrV, cIf, eqB, neB, ltB, leB, gtB, geB, bEq, bNe, bLt, bLe, bGt, bGe, cEq, cNe, cLt, cLe, cGt, cGe, cCB, _root_.M.g1, _root_.M.g2, absG, intG, cAbs, cInt, cLen, lenG, cSum, sumG, intsD, sFzL, sFz, sExpr, sWhile, sFor, ciSeq, cjSeq, seqS, seqN, ciRng1, ciRng2, ciRng3, ciA, intsU, rg1, rg2, cLc, cbYes, wipeG, cMeth, isStr, isL, caD, cCellM, cellU, sStC, sSt, dU, stoF, cNew, sBreak, sCont, List.map, List.length_cons, List.length_nil, Option.bind_some, Option.map_some, List.replicate, List.cons_append, List.nil_append, List.getElem?_cons_succ, List.getElem?_cons_zero, List.set, if_true, trunc_self, List.all_cons, List.all_nil, Bool.and_true, Nat.reduceAdd, Nat.reduceSub, Nat.reduceEqDiff, Nat.reduceLeDiff, decide_eq_true_eq, reduceIte, atI_0, atI_1, atI_2, atI_3, atI_4, atI_5, atI_6, atI_7, atI_8, cQ, cGSl, coSome, coNone, cTupOf, tupG, wipeG, seqN, lpC, lpQ, ciZip, zipU, fzU, truB, List.zip, List.zipWith, asgU, dU, sOwn, appF, extF, isL, caD, zipD, enU, sumG, intsD, ciEnum, decide_true, decide_false, Bool.true_eq_false, Bool.false_eq_true, if_false, Bool.not_true, Bool.not_false, m4]
      with_reducible rfl
    apply seq_go
    · simp only [cFn, sSeq, sSkip, sPar, setP, parU, caCons, caNil, cC, cVar, sRet, sRetN, cHand, cRt, rtU, cCall, argOk, okF, sIf, sAsg, asgU, sAsgA, cFz, fzU, sAsgG, gT, gsC, gsN, gN, setL, cTup, cLst, cDisp, allD, cIx, ixG, cGIx, sAug, slotD, _root_.M.c2, cB2, vB, addG, subG, mulG, fdivG, modG, negG, iMulG, iAddG, _root_.M.c1, cAdd, cSub, cMul, cFdiv, cMod, cNeg, bTru, truD, valU, bNot, bAnd, bOr, cNotV, cAndV, cOrV, cIf, neB, ltB, leB, gtB, geB, bEq, bNe, bLt, bLe, bGt, bGe, cEq, cNe, cLt, cLe, cGt, cGe, cCB, _root_.M.g1, _root_.M.g2, absG, intG, cAbs, cInt, cLen, lenG, cSum, sumG, intsD, sFzL, sFz, sExpr, sWhile, sFor, ciSeq, cjSeq, seqS, seqN, ciRng1, ciRng2, ciRng3, ciA, intsU, rg1, rg2, cLc, cbYes, wipeG, cMeth, isStr, isL, caD, cCellM, cellU, sStC, sSt, dU, stoF, cNew, sBreak, sCont, List.map, List.length_cons, List.length_nil, Option.bind_some, Option.map_some, List.replicate, List.cons_append, List.nil_append, List.getElem?_cons_succ, List.getElem?_cons_zero, List.set, if_true, trunc_self, List.all_cons, List.all_nil, Bool.and_true, Nat.reduceAdd, Nat.reduceSub, Nat.reduceEqDiff, Nat.reduceLeDiff, decide_eq_true_eq, reduceIte, atI_0, atI_1, atI_2, atI_3, atI_4, atI_5, atI_6, atI_7, atI_8, cQ, cGSl, coSome, coNone, cTupOf, tupG, wipeG, seqN, lpC, lpQ, ciZip, zipU, fzU, truB, List.zip, List.zipWith, asgU, dU, sOwn, appF, extF, isL, caD, zipD, enU, sumG, intsD, ciEnum, decide_true, decide_false, Bool.true_eq_false, Bool.false_eq_true, if_false, Bool.not_true, Bool.not_false, st2, hTT]
      with_reducible rfl
    apply seq_go
    · simp only [cFn, sSeq, sSkip, sPar, setP, parU, caCons, caNil, cC, cVar, sRet, sRetN, cHand, cRt, rtU, cCall, argOk, okF, sIf, sAsg, asgU, sAsgA, cFz, fzU, sAsgG, gT, gsC, gsN, gN, setL, cTup, cLst, cDisp, allD, cIx, ixG, cGIx, sAug, slotD, _root_.M.c2, cB2, vB, addG, subG, mulG, fdivG, modG, negG, iMulG, iAddG, _root_.M.c1, cAdd, cSub, cMul, cFdiv, cMod, cNeg, bTru, truD, valU, bNot, bAnd, bOr, cNotV, cAndV, cOrV, cIf, eqB, neB, ltB, leB, gtB, geB, bEq, bNe, bLt, bLe, bGt, bGe, cEq, cNe, cLt, cLe, cGt, cGe, cCB, _root_.M.g1, _root_.M.g2, absG, intG, cAbs, cInt, cLen, lenG, cSum, sumG, intsD, sFzL, sFz, sExpr, sWhile, sFor, ciSeq, cjSeq, seqS, seqN, ciRng1, ciRng2, ciRng3, ciA, intsU, rg1, rg2, cLc, cbYes, wipeG, cMeth, isStr, isL, caD, cCellM, cellU, sStC, sSt, dU, stoF, cNew, sBreak, sCont, List.map, List.length_cons, List.length_nil, Option.bind_some, Option.map_some, List.replicate, List.cons_append, List.nil_append, List.getElem?_cons_succ, List.getElem?_cons_zero, List.set, if_true, trunc_self, List.all_cons, List.all_nil, Bool.and_true, Nat.reduceAdd, Nat.reduceSub, Nat.reduceEqDiff, Nat.reduceLeDiff, decide_eq_true_eq, reduceIte, atI_0, atI_1, atI_2, atI_3, atI_4, atI_5, atI_6, atI_7, atI_8, cQ, cGSl, coSome, coNone, cTupOf, tupG, wipeG, seqN, lpC, lpQ, ciZip, zipU, fzU, truB, List.zip, List.zipWith, asgU, dU, sOwn, appF, extF, isL, caD, zipD, enU, sumG, intsD, ciEnum, decide_true, decide_false, Bool.true_eq_false, Bool.false_eq_true, if_false, Bool.not_true, Bool.not_false, z2, st3]
      with_reducible rfl
    exact seq_rt (sRet_go (by simp only [cFn, sSeq, sSkip, sPar, setP, parU, caCons, caNil, cC, cVar, sRet, sRetN, cHand, cRt, rtU, cCall, argOk, okF, sIf, sAsg, asgU, sAsgA, cFz, fzU, sAsgG, gT, gsC, gsN, gN, setL, cTup, cLst, cDisp, allD, cIx, ixG, cGIx, sAug, slotD, _root_.M.c2, cB2, vB, addG, subG, mulG, fdivG, modG, negG, iMulG, iAddG, _root_.M.c1, cAdd, cSub, cMul, cFdiv, cMod, cNeg, bTru, truD, valU, bNot, bAnd, bOr, cNotV, cAndV, cOrV, cIf, eqB, neB, ltB, leB, gtB, geB, bEq, bNe, bLt, bLe, bGt, bGe, cEq, cNe, cLt, cLe, cGt, cGe, cCB, _root_.M.g1, _root_.M.g2, absG, intG, cAbs, cInt, cLen, lenG, cSum, sumG, intsD, sFzL, sFz, sExpr, sWhile, sFor, ciSeq, cjSeq, seqS, seqN, ciRng1, ciRng2, ciRng3, ciA, intsU, rg1, rg2, cLc, cbYes, wipeG, cMeth, isStr, isL, caD, cCellM, cellU, sStC, sSt, dU, stoF, cNew, sBreak, sCont, List.map, List.length_cons, List.length_nil, Option.bind_some, Option.map_some, List.replicate, List.cons_append, List.nil_append, List.getElem?_cons_succ, List.getElem?_cons_zero, List.set, if_true, trunc_self, List.all_cons, List.all_nil, Bool.and_true, Nat.reduceAdd, Nat.reduceSub, Nat.reduceEqDiff, Nat.reduceLeDiff, decide_eq_true_eq, reduceIte, atI_0, atI_1, atI_2, atI_3, atI_4, atI_5, atI_6, atI_7, atI_8, cQ, cGSl, coSome, coNone, cTupOf, tupG, wipeG, seqN, lpC, lpQ, ciZip, zipU, fzU, truB, List.zip, List.zipWith, asgU, dU, sOwn, appF, extF, isL, caD, zipD, enU, sumG, intsD, ciEnum, decide_true, decide_false, Bool.true_eq_false, Bool.false_eq_true, if_false, Bool.not_true, Bool.not_false, z1, st4, m4, m2', eqB_int_self]))
end K57
end M

namespace M
open PySem PySem.Spec PyProof.Rows L2
namespace K57
theorem all_mk {w : World} {K : PySem.W.Frag} {h : Heap} {mg : Str → Option Value} {fa : Addr} {q : Program} (X : K.In h) (G : h.Ns mainGlobals mg) (hfa : mg "law" = some (.ref fa))
    (TT : ∀ (y : Str) (c P : Addr), ((recsOf q).find? fun e => e.name == y).isSome = true → PySem.W.tabIn K y = some (c, P) → PySem.W.CodeHd h c P ∧ h.get? P = some { cls := .none, data := .fields #[] })
    {fn_common_divisor fn_power fn_octaves_of fn_steps_floor fn_is_half fn_nearest_steps fn_dot fn_less_times fn_first_place fn_cleared fn_least_row fn_with_sign fn_in_steps fn_hidden_from fn_maps_of fn_commas_of fn_is_tempered fn_freedom fn_equal_map fn_equal_maps_up_to fn_steps_of fn_lies_in fn_generator_of fn_fifth_of fn_tone_at fn_height_of fn_degree_of fn_interval fn_fifths_of fn__law_draw fn_law : Addr}
    {od_common_divisor an_common_divisor od_power an_power od_octaves_of an_octaves_of od_steps_floor an_steps_floor od_is_half an_is_half od_nearest_steps an_nearest_steps od_dot an_dot od_less_times an_less_times od_first_place an_first_place od_cleared an_cleared od_least_row an_least_row od_with_sign an_with_sign od_in_steps an_in_steps od_hidden_from an_hidden_from od_maps_of an_maps_of od_commas_of an_commas_of od_is_tempered an_is_tempered od_freedom an_freedom od_equal_map an_equal_map od_equal_maps_up_to an_equal_maps_up_to od_steps_of an_steps_of od_lies_in an_lies_in od_generator_of an_generator_of od_fifth_of an_fifth_of od_tone_at an_tone_at od_height_of an_height_of od_degree_of an_degree_of od_interval an_interval od_fifths_of an_fifths_of od__law_draw an__law_draw od_law an_law : Option Addr}
    {sl_common_divisor sl_power sl_octaves_of sl_steps_floor sl_is_half sl_nearest_steps sl_dot sl_less_times sl_first_place sl_cleared sl_least_row sl_with_sign sl_in_steps sl_hidden_from sl_maps_of sl_commas_of sl_is_tempered sl_freedom sl_equal_map sl_equal_maps_up_to sl_steps_of sl_lies_in sl_generator_of sl_fifth_of sl_tone_at sl_height_of sl_degree_of sl_interval sl_fifths_of sl__law_draw sl_law : Array (Option Value)}
    {oc_common_divisor kV_common_divisor dc_common_divisor pm_common_divisor ct_common_divisor cd_common_divisor oc_power kV_power dc_power pm_power ct_power cd_power oc_octaves_of kV_octaves_of dc_octaves_of pm_octaves_of ct_octaves_of cd_octaves_of oc_steps_floor kV_steps_floor dc_steps_floor pm_steps_floor ct_steps_floor cd_steps_floor oc_is_half kV_is_half dc_is_half pm_is_half ct_is_half cd_is_half oc_nearest_steps kV_nearest_steps dc_nearest_steps pm_nearest_steps ct_nearest_steps cd_nearest_steps oc_dot kV_dot dc_dot pm_dot ct_dot cd_dot oc_less_times kV_less_times dc_less_times pm_less_times ct_less_times cd_less_times oc_first_place kV_first_place dc_first_place pm_first_place ct_first_place cd_first_place oc_cleared kV_cleared dc_cleared pm_cleared ct_cleared cd_cleared oc_least_row kV_least_row dc_least_row pm_least_row ct_least_row cd_least_row oc_with_sign kV_with_sign dc_with_sign pm_with_sign ct_with_sign cd_with_sign oc_in_steps kV_in_steps dc_in_steps pm_in_steps ct_in_steps cd_in_steps oc_hidden_from kV_hidden_from dc_hidden_from pm_hidden_from ct_hidden_from cd_hidden_from oc_maps_of kV_maps_of dc_maps_of pm_maps_of ct_maps_of cd_maps_of oc_commas_of kV_commas_of dc_commas_of pm_commas_of ct_commas_of cd_commas_of oc_is_tempered kV_is_tempered dc_is_tempered pm_is_tempered ct_is_tempered oc_freedom kV_freedom dc_freedom pm_freedom ct_freedom cd_freedom oc_equal_map kV_equal_map dc_equal_map pm_equal_map ct_equal_map cd_equal_map oc_equal_maps_up_to kV_equal_maps_up_to dc_equal_maps_up_to pm_equal_maps_up_to ct_equal_maps_up_to oc_steps_of kV_steps_of dc_steps_of pm_steps_of ct_steps_of cd_steps_of oc_lies_in kV_lies_in dc_lies_in pm_lies_in ct_lies_in cd_lies_in oc_generator_of kV_generator_of dc_generator_of pm_generator_of ct_generator_of cd_generator_of oc_fifth_of kV_fifth_of dc_fifth_of pm_fifth_of ct_fifth_of cd_fifth_of oc_tone_at kV_tone_at dc_tone_at pm_tone_at ct_tone_at cd_tone_at oc_height_of kV_height_of dc_height_of pm_height_of ct_height_of cd_height_of oc_degree_of kV_degree_of dc_degree_of pm_degree_of ct_degree_of cd_degree_of oc_interval kV_interval dc_interval pm_interval ct_interval cd_interval oc_fifths_of kV_fifths_of dc_fifths_of pm_fifths_of ct_fifths_of cd_fifths_of oc__law_draw kV__law_draw dc__law_draw pm__law_draw ct__law_draw cd__law_draw oc_law kV_law dc_law pm_law ct_law cd_law : Value}
    {cc_is_tempered cc_equal_maps_up_to : Addr}
    (a_common_divisor : PySem.W.nsIn K mainGlobals "common_divisor" = some (some (.ref fn_common_divisor)))
    (l_common_divisor : K.lookup fn_common_divisor = some ⟨oc_common_divisor, od_common_divisor, .func (PySem.W.fnOf "common_divisor" "common_divisor" (defArgs s_common_divisor) (defBody s_common_divisor) (defScope s_common_divisor) .none kV_common_divisor dc_common_divisor pm_common_divisor an_common_divisor cd_common_divisor ct_common_divisor), sl_common_divisor⟩)
    (co_common_divisor : PySem.W.codeIn K cd_common_divisor "common_divisor" = true)
    (k_common_divisor : PySem.W.keepIn K (.ref fn_common_divisor) = true)
    (a_power : PySem.W.nsIn K mainGlobals "power" = some (some (.ref fn_power)))
    (l_power : K.lookup fn_power = some ⟨oc_power, od_power, .func (PySem.W.fnOf "power" "power" (defArgs s_power) (defBody s_power) (defScope s_power) .none kV_power dc_power pm_power an_power cd_power ct_power), sl_power⟩)
    (co_power : PySem.W.codeIn K cd_power "power" = true)
    (k_power : PySem.W.keepIn K (.ref fn_power) = true)
    (a_octaves_of : PySem.W.nsIn K mainGlobals "octaves_of" = some (some (.ref fn_octaves_of)))
    (l_octaves_of : K.lookup fn_octaves_of = some ⟨oc_octaves_of, od_octaves_of, .func (PySem.W.fnOf "octaves_of" "octaves_of" (defArgs s_octaves_of) (defBody s_octaves_of) (defScope s_octaves_of) .none kV_octaves_of dc_octaves_of pm_octaves_of an_octaves_of cd_octaves_of ct_octaves_of), sl_octaves_of⟩)
    (co_octaves_of : PySem.W.codeIn K cd_octaves_of "octaves_of" = true)
    (k_octaves_of : PySem.W.keepIn K (.ref fn_octaves_of) = true)
    (a_steps_floor : PySem.W.nsIn K mainGlobals "steps_floor" = some (some (.ref fn_steps_floor)))
    (l_steps_floor : K.lookup fn_steps_floor = some ⟨oc_steps_floor, od_steps_floor, .func (PySem.W.fnOf "steps_floor" "steps_floor" (defArgs s_steps_floor) (defBody s_steps_floor) (defScope s_steps_floor) .none kV_steps_floor dc_steps_floor pm_steps_floor an_steps_floor cd_steps_floor ct_steps_floor), sl_steps_floor⟩)
    (co_steps_floor : PySem.W.codeIn K cd_steps_floor "steps_floor" = true)
    (k_steps_floor : PySem.W.keepIn K (.ref fn_steps_floor) = true)
    (a_is_half : PySem.W.nsIn K mainGlobals "is_half" = some (some (.ref fn_is_half)))
    (l_is_half : K.lookup fn_is_half = some ⟨oc_is_half, od_is_half, .func (PySem.W.fnOf "is_half" "is_half" (defArgs s_is_half) (defBody s_is_half) (defScope s_is_half) .none kV_is_half dc_is_half pm_is_half an_is_half cd_is_half ct_is_half), sl_is_half⟩)
    (co_is_half : PySem.W.codeIn K cd_is_half "is_half" = true)
    (k_is_half : PySem.W.keepIn K (.ref fn_is_half) = true)
    (a_nearest_steps : PySem.W.nsIn K mainGlobals "nearest_steps" = some (some (.ref fn_nearest_steps)))
    (l_nearest_steps : K.lookup fn_nearest_steps = some ⟨oc_nearest_steps, od_nearest_steps, .func (PySem.W.fnOf "nearest_steps" "nearest_steps" (defArgs s_nearest_steps) (defBody s_nearest_steps) (defScope s_nearest_steps) .none kV_nearest_steps dc_nearest_steps pm_nearest_steps an_nearest_steps cd_nearest_steps ct_nearest_steps), sl_nearest_steps⟩)
    (co_nearest_steps : PySem.W.codeIn K cd_nearest_steps "nearest_steps" = true)
    (k_nearest_steps : PySem.W.keepIn K (.ref fn_nearest_steps) = true)
    (a_dot : PySem.W.nsIn K mainGlobals "dot" = some (some (.ref fn_dot)))
    (l_dot : K.lookup fn_dot = some ⟨oc_dot, od_dot, .func (PySem.W.fnOf "dot" "dot" (defArgs s_dot) (defBody s_dot) (defScope s_dot) .none kV_dot dc_dot pm_dot an_dot cd_dot ct_dot), sl_dot⟩)
    (co_dot : PySem.W.codeIn K cd_dot "dot" = true)
    (k_dot : PySem.W.keepIn K (.ref fn_dot) = true)
    (a_less_times : PySem.W.nsIn K mainGlobals "less_times" = some (some (.ref fn_less_times)))
    (l_less_times : K.lookup fn_less_times = some ⟨oc_less_times, od_less_times, .func (PySem.W.fnOf "less_times" "less_times" (defArgs s_less_times) (defBody s_less_times) (defScope s_less_times) .none kV_less_times dc_less_times pm_less_times an_less_times cd_less_times ct_less_times), sl_less_times⟩)
    (co_less_times : PySem.W.codeIn K cd_less_times "less_times" = true)
    (k_less_times : PySem.W.keepIn K (.ref fn_less_times) = true)
    (a_first_place : PySem.W.nsIn K mainGlobals "first_place" = some (some (.ref fn_first_place)))
    (l_first_place : K.lookup fn_first_place = some ⟨oc_first_place, od_first_place, .func (PySem.W.fnOf "first_place" "first_place" (defArgs s_first_place) (defBody s_first_place) (defScope s_first_place) .none kV_first_place dc_first_place pm_first_place an_first_place cd_first_place ct_first_place), sl_first_place⟩)
    (co_first_place : PySem.W.codeIn K cd_first_place "first_place" = true)
    (k_first_place : PySem.W.keepIn K (.ref fn_first_place) = true)
    (a_cleared : PySem.W.nsIn K mainGlobals "cleared" = some (some (.ref fn_cleared)))
    (l_cleared : K.lookup fn_cleared = some ⟨oc_cleared, od_cleared, .func (PySem.W.fnOf "cleared" "cleared" (defArgs s_cleared) (defBody s_cleared) (defScope s_cleared) .none kV_cleared dc_cleared pm_cleared an_cleared cd_cleared ct_cleared), sl_cleared⟩)
    (co_cleared : PySem.W.codeIn K cd_cleared "cleared" = true)
    (k_cleared : PySem.W.keepIn K (.ref fn_cleared) = true)
    (a_least_row : PySem.W.nsIn K mainGlobals "least_row" = some (some (.ref fn_least_row)))
    (l_least_row : K.lookup fn_least_row = some ⟨oc_least_row, od_least_row, .func (PySem.W.fnOf "least_row" "least_row" (defArgs s_least_row) (defBody s_least_row) (defScope s_least_row) .none kV_least_row dc_least_row pm_least_row an_least_row cd_least_row ct_least_row), sl_least_row⟩)
    (co_least_row : PySem.W.codeIn K cd_least_row "least_row" = true)
    (k_least_row : PySem.W.keepIn K (.ref fn_least_row) = true)
    (a_with_sign : PySem.W.nsIn K mainGlobals "with_sign" = some (some (.ref fn_with_sign)))
    (l_with_sign : K.lookup fn_with_sign = some ⟨oc_with_sign, od_with_sign, .func (PySem.W.fnOf "with_sign" "with_sign" (defArgs s_with_sign) (defBody s_with_sign) (defScope s_with_sign) .none kV_with_sign dc_with_sign pm_with_sign an_with_sign cd_with_sign ct_with_sign), sl_with_sign⟩)
    (co_with_sign : PySem.W.codeIn K cd_with_sign "with_sign" = true)
    (k_with_sign : PySem.W.keepIn K (.ref fn_with_sign) = true)
    (a_in_steps : PySem.W.nsIn K mainGlobals "in_steps" = some (some (.ref fn_in_steps)))
    (l_in_steps : K.lookup fn_in_steps = some ⟨oc_in_steps, od_in_steps, .func (PySem.W.fnOf "in_steps" "in_steps" (defArgs s_in_steps) (defBody s_in_steps) (defScope s_in_steps) .none kV_in_steps dc_in_steps pm_in_steps an_in_steps cd_in_steps ct_in_steps), sl_in_steps⟩)
    (co_in_steps : PySem.W.codeIn K cd_in_steps "in_steps" = true)
    (k_in_steps : PySem.W.keepIn K (.ref fn_in_steps) = true)
    (a_hidden_from : PySem.W.nsIn K mainGlobals "hidden_from" = some (some (.ref fn_hidden_from)))
    (l_hidden_from : K.lookup fn_hidden_from = some ⟨oc_hidden_from, od_hidden_from, .func (PySem.W.fnOf "hidden_from" "hidden_from" (defArgs s_hidden_from) (defBody s_hidden_from) (defScope s_hidden_from) .none kV_hidden_from dc_hidden_from pm_hidden_from an_hidden_from cd_hidden_from ct_hidden_from), sl_hidden_from⟩)
    (co_hidden_from : PySem.W.codeIn K cd_hidden_from "hidden_from" = true)
    (k_hidden_from : PySem.W.keepIn K (.ref fn_hidden_from) = true)
    (a_maps_of : PySem.W.nsIn K mainGlobals "maps_of" = some (some (.ref fn_maps_of)))
    (l_maps_of : K.lookup fn_maps_of = some ⟨oc_maps_of, od_maps_of, .func (PySem.W.fnOf "maps_of" "maps_of" (defArgs s_maps_of) (defBody s_maps_of) (defScope s_maps_of) .none kV_maps_of dc_maps_of pm_maps_of an_maps_of cd_maps_of ct_maps_of), sl_maps_of⟩)
    (co_maps_of : PySem.W.codeIn K cd_maps_of "maps_of" = true)
    (k_maps_of : PySem.W.keepIn K (.ref fn_maps_of) = true)
    (a_commas_of : PySem.W.nsIn K mainGlobals "commas_of" = some (some (.ref fn_commas_of)))
    (l_commas_of : K.lookup fn_commas_of = some ⟨oc_commas_of, od_commas_of, .func (PySem.W.fnOf "commas_of" "commas_of" (defArgs s_commas_of) (defBody s_commas_of) (defScope s_commas_of) .none kV_commas_of dc_commas_of pm_commas_of an_commas_of cd_commas_of ct_commas_of), sl_commas_of⟩)
    (co_commas_of : PySem.W.codeIn K cd_commas_of "commas_of" = true)
    (k_commas_of : PySem.W.keepIn K (.ref fn_commas_of) = true)
    (a_is_tempered : PySem.W.nsIn K mainGlobals "is_tempered" = some (some (.ref fn_is_tempered)))
    (l_is_tempered : K.lookup fn_is_tempered = some ⟨oc_is_tempered, od_is_tempered, .func (PySem.W.fnOf "is_tempered" "is_tempered" (defArgs s_is_tempered) (defBody s_is_tempered) (defScope s_is_tempered) .none kV_is_tempered dc_is_tempered pm_is_tempered an_is_tempered (.ref cc_is_tempered) ct_is_tempered), sl_is_tempered⟩)
    (co_is_tempered : PySem.W.codeIn K (.ref cc_is_tempered) "is_tempered" = true)
    (k_is_tempered : PySem.W.keepIn K (.ref fn_is_tempered) = true)
    (t_is_tempered : PySem.W.tabIn K "is_tempered" = some (cc_is_tempered, tabAt K cc_is_tempered))
    (n_is_tempered : K.lookup (tabAt K cc_is_tempered) = none)
    (a_freedom : PySem.W.nsIn K mainGlobals "freedom" = some (some (.ref fn_freedom)))
    (l_freedom : K.lookup fn_freedom = some ⟨oc_freedom, od_freedom, .func (PySem.W.fnOf "freedom" "freedom" (defArgs s_freedom) (defBody s_freedom) (defScope s_freedom) .none kV_freedom dc_freedom pm_freedom an_freedom cd_freedom ct_freedom), sl_freedom⟩)
    (co_freedom : PySem.W.codeIn K cd_freedom "freedom" = true)
    (k_freedom : PySem.W.keepIn K (.ref fn_freedom) = true)
    (a_equal_map : PySem.W.nsIn K mainGlobals "equal_map" = some (some (.ref fn_equal_map)))
    (l_equal_map : K.lookup fn_equal_map = some ⟨oc_equal_map, od_equal_map, .func (PySem.W.fnOf "equal_map" "equal_map" (defArgs s_equal_map) (defBody s_equal_map) (defScope s_equal_map) .none kV_equal_map dc_equal_map pm_equal_map an_equal_map cd_equal_map ct_equal_map), sl_equal_map⟩)
    (co_equal_map : PySem.W.codeIn K cd_equal_map "equal_map" = true)
    (k_equal_map : PySem.W.keepIn K (.ref fn_equal_map) = true)
    (a_equal_maps_up_to : PySem.W.nsIn K mainGlobals "equal_maps_up_to" = some (some (.ref fn_equal_maps_up_to)))
    (l_equal_maps_up_to : K.lookup fn_equal_maps_up_to = some ⟨oc_equal_maps_up_to, od_equal_maps_up_to, .func (PySem.W.fnOf "equal_maps_up_to" "equal_maps_up_to" (defArgs s_equal_maps_up_to) (defBody s_equal_maps_up_to) (defScope s_equal_maps_up_to) .none kV_equal_maps_up_to dc_equal_maps_up_to pm_equal_maps_up_to an_equal_maps_up_to (.ref cc_equal_maps_up_to) ct_equal_maps_up_to), sl_equal_maps_up_to⟩)
    (co_equal_maps_up_to : PySem.W.codeIn K (.ref cc_equal_maps_up_to) "equal_maps_up_to" = true)
    (k_equal_maps_up_to : PySem.W.keepIn K (.ref fn_equal_maps_up_to) = true)
    (t_equal_maps_up_to : PySem.W.tabIn K "equal_maps_up_to" = some (cc_equal_maps_up_to, tabAt K cc_equal_maps_up_to))
    (n_equal_maps_up_to : K.lookup (tabAt K cc_equal_maps_up_to) = none)
    (a_steps_of : PySem.W.nsIn K mainGlobals "steps_of" = some (some (.ref fn_steps_of)))
    (l_steps_of : K.lookup fn_steps_of = some ⟨oc_steps_of, od_steps_of, .func (PySem.W.fnOf "steps_of" "steps_of" (defArgs s_steps_of) (defBody s_steps_of) (defScope s_steps_of) .none kV_steps_of dc_steps_of pm_steps_of an_steps_of cd_steps_of ct_steps_of), sl_steps_of⟩)
    (co_steps_of : PySem.W.codeIn K cd_steps_of "steps_of" = true)
    (k_steps_of : PySem.W.keepIn K (.ref fn_steps_of) = true)
    (a_lies_in : PySem.W.nsIn K mainGlobals "lies_in" = some (some (.ref fn_lies_in)))
    (l_lies_in : K.lookup fn_lies_in = some ⟨oc_lies_in, od_lies_in, .func (PySem.W.fnOf "lies_in" "lies_in" (defArgs s_lies_in) (defBody s_lies_in) (defScope s_lies_in) .none kV_lies_in dc_lies_in pm_lies_in an_lies_in cd_lies_in ct_lies_in), sl_lies_in⟩)
    (co_lies_in : PySem.W.codeIn K cd_lies_in "lies_in" = true)
    (k_lies_in : PySem.W.keepIn K (.ref fn_lies_in) = true)
    (a_generator_of : PySem.W.nsIn K mainGlobals "generator_of" = some (some (.ref fn_generator_of)))
    (l_generator_of : K.lookup fn_generator_of = some ⟨oc_generator_of, od_generator_of, .func (PySem.W.fnOf "generator_of" "generator_of" (defArgs s_generator_of) (defBody s_generator_of) (defScope s_generator_of) .none kV_generator_of dc_generator_of pm_generator_of an_generator_of cd_generator_of ct_generator_of), sl_generator_of⟩)
    (co_generator_of : PySem.W.codeIn K cd_generator_of "generator_of" = true)
    (k_generator_of : PySem.W.keepIn K (.ref fn_generator_of) = true)
    (a_fifth_of : PySem.W.nsIn K mainGlobals "fifth_of" = some (some (.ref fn_fifth_of)))
    (l_fifth_of : K.lookup fn_fifth_of = some ⟨oc_fifth_of, od_fifth_of, .func (PySem.W.fnOf "fifth_of" "fifth_of" (defArgs s_fifth_of) (defBody s_fifth_of) (defScope s_fifth_of) .none kV_fifth_of dc_fifth_of pm_fifth_of an_fifth_of cd_fifth_of ct_fifth_of), sl_fifth_of⟩)
    (co_fifth_of : PySem.W.codeIn K cd_fifth_of "fifth_of" = true)
    (k_fifth_of : PySem.W.keepIn K (.ref fn_fifth_of) = true)
    (a_tone_at : PySem.W.nsIn K mainGlobals "tone_at" = some (some (.ref fn_tone_at)))
    (l_tone_at : K.lookup fn_tone_at = some ⟨oc_tone_at, od_tone_at, .func (PySem.W.fnOf "tone_at" "tone_at" (defArgs s_tone_at) (defBody s_tone_at) (defScope s_tone_at) .none kV_tone_at dc_tone_at pm_tone_at an_tone_at cd_tone_at ct_tone_at), sl_tone_at⟩)
    (co_tone_at : PySem.W.codeIn K cd_tone_at "tone_at" = true)
    (k_tone_at : PySem.W.keepIn K (.ref fn_tone_at) = true)
    (a_height_of : PySem.W.nsIn K mainGlobals "height_of" = some (some (.ref fn_height_of)))
    (l_height_of : K.lookup fn_height_of = some ⟨oc_height_of, od_height_of, .func (PySem.W.fnOf "height_of" "height_of" (defArgs s_height_of) (defBody s_height_of) (defScope s_height_of) .none kV_height_of dc_height_of pm_height_of an_height_of cd_height_of ct_height_of), sl_height_of⟩)
    (co_height_of : PySem.W.codeIn K cd_height_of "height_of" = true)
    (k_height_of : PySem.W.keepIn K (.ref fn_height_of) = true)
    (a_degree_of : PySem.W.nsIn K mainGlobals "degree_of" = some (some (.ref fn_degree_of)))
    (l_degree_of : K.lookup fn_degree_of = some ⟨oc_degree_of, od_degree_of, .func (PySem.W.fnOf "degree_of" "degree_of" (defArgs s_degree_of) (defBody s_degree_of) (defScope s_degree_of) .none kV_degree_of dc_degree_of pm_degree_of an_degree_of cd_degree_of ct_degree_of), sl_degree_of⟩)
    (co_degree_of : PySem.W.codeIn K cd_degree_of "degree_of" = true)
    (k_degree_of : PySem.W.keepIn K (.ref fn_degree_of) = true)
    (a_interval : PySem.W.nsIn K mainGlobals "interval" = some (some (.ref fn_interval)))
    (l_interval : K.lookup fn_interval = some ⟨oc_interval, od_interval, .func (PySem.W.fnOf "interval" "interval" (defArgs s_interval) (defBody s_interval) (defScope s_interval) .none kV_interval dc_interval pm_interval an_interval cd_interval ct_interval), sl_interval⟩)
    (co_interval : PySem.W.codeIn K cd_interval "interval" = true)
    (k_interval : PySem.W.keepIn K (.ref fn_interval) = true)
    (a_fifths_of : PySem.W.nsIn K mainGlobals "fifths_of" = some (some (.ref fn_fifths_of)))
    (l_fifths_of : K.lookup fn_fifths_of = some ⟨oc_fifths_of, od_fifths_of, .func (PySem.W.fnOf "fifths_of" "fifths_of" (defArgs s_fifths_of) (defBody s_fifths_of) (defScope s_fifths_of) .none kV_fifths_of dc_fifths_of pm_fifths_of an_fifths_of cd_fifths_of ct_fifths_of), sl_fifths_of⟩)
    (co_fifths_of : PySem.W.codeIn K cd_fifths_of "fifths_of" = true)
    (k_fifths_of : PySem.W.keepIn K (.ref fn_fifths_of) = true)
    (a__law_draw : PySem.W.nsIn K mainGlobals "_law_draw" = some (some (.ref fn__law_draw)))
    (l__law_draw : K.lookup fn__law_draw = some ⟨oc__law_draw, od__law_draw, .func (PySem.W.fnOf "_law_draw" "_law_draw" (defArgs s__law_draw) (defBody s__law_draw) (defScope s__law_draw) .none kV__law_draw dc__law_draw pm__law_draw an__law_draw cd__law_draw ct__law_draw), sl__law_draw⟩)
    (co__law_draw : PySem.W.codeIn K cd__law_draw "_law_draw" = true)
    (k__law_draw : PySem.W.keepIn K (.ref fn__law_draw) = true)
    (a_law : PySem.W.nsIn K mainGlobals "law" = some (some (.ref fn_law)))
    (l_law : K.lookup fn_law = some ⟨oc_law, od_law, .func (PySem.W.fnOf "law" "law" (defArgs s_law) (defBody s_law) (defScope s_law) .none kV_law dc_law pm_law an_law cd_law ct_law), sl_law⟩)
    (co_law : PySem.W.codeIn K cd_law "law" = true)
    (k_law : PySem.W.keepIn K (.ref fn_law) = true)
    (z_abs : PySem.W.nsIn K mainGlobals "abs" = some none)
    (z_all : PySem.W.nsIn K mainGlobals "all" = some none)
    (z_any : PySem.W.nsIn K mainGlobals "any" = some none)
    (z_enumerate : PySem.W.nsIn K mainGlobals "enumerate" = some none)
    (z_int : PySem.W.nsIn K mainGlobals "int" = some none)
    (z_len : PySem.W.nsIn K mainGlobals "len" = some none)
    (z_list : PySem.W.nsIn K mainGlobals "list" = some none)
    (z_range : PySem.W.nsIn K mainGlobals "range" = some none)
    (z_sum : PySem.W.nsIn K mainGlobals "sum" = some none)
    (z_tuple : PySem.W.nsIn K mainGlobals "tuple" = some none)
    (z_zip : PySem.W.nsIn K mainGlobals "zip" = some none)
    {tk_LETTERS : Tok} (ag_LETTERS : PySem.W.nsIn K mainGlobals "LETTERS" = some (some (.str "FCGDAEB" tk_LETTERS)))
    {ga_PRIMES : Addr} {gd_PRIMES : Option Addr} {gn_PRIMES : Nat} {gl_PRIMES : Array (Option Value)} {tk_PRIMES_0 tk_PRIMES_1 tk_PRIMES_2 tk_PRIMES_3 tk_PRIMES_4 tk_PRIMES_5 tk_PRIMES_6 tk_PRIMES_7 : Tok}
    (ag_PRIMES : PySem.W.nsIn K mainGlobals "PRIMES" = some (some (.ref ga_PRIMES)))
    (lg_PRIMES : K.lookup ga_PRIMES = some ⟨.type "tuple", gd_PRIMES, .seq #[.int 2 tk_PRIMES_0, .int 3 tk_PRIMES_1, .int 5 tk_PRIMES_2, .int 7 tk_PRIMES_3, .int 11 tk_PRIMES_4, .int 13 tk_PRIMES_5, .int 17 tk_PRIMES_6, .int 19 tk_PRIMES_7] gn_PRIMES, gl_PRIMES⟩)
    {tk_SCALE : Tok} (ag_SCALE : PySem.W.nsIn K mainGlobals "SCALE" = some (some (.str "CDEFGAB" tk_SCALE)))
    {ga_WHITE : Addr} {gd_WHITE : Option Addr} {gn_WHITE : Nat} {gl_WHITE : Array (Option Value)} {tk_WHITE_0 tk_WHITE_1 tk_WHITE_2 tk_WHITE_3 tk_WHITE_4 tk_WHITE_5 tk_WHITE_6 : Tok}
    (ag_WHITE : PySem.W.nsIn K mainGlobals "WHITE" = some (some (.ref ga_WHITE)))
    (lg_WHITE : K.lookup ga_WHITE = some ⟨.type "tuple", gd_WHITE, .seq #[.int 0 tk_WHITE_0, .int 2 tk_WHITE_1, .int 4 tk_WHITE_2, .int 5 tk_WHITE_3, .int 7 tk_WHITE_4, .int 9 tk_WHITE_5, .int 11 tk_WHITE_6] gn_WHITE, gl_WHITE⟩)
    (rr_is_tempered : ((recsOf q).find? fun e => e.name == ("is_tempered" : Str)).isSome = true)
    (rr_equal_maps_up_to : ((recsOf q).find? fun e => e.name == ("equal_maps_up_to" : Str)).isSome = true)
    (LT : LawTrue f_law) : LamX.LawAtS PySem.Challenge.rw_allsounded_k57_commas_and_spelled_names w K CX0 7 63 "script" mg fa h := by
  have e := hfa.symm.trans (PySem.W.mg_of X G a_law)
  cases e
  letI : Tb := tbOf [(cc_is_tempered, tabAt K cc_is_tempered), (cc_equal_maps_up_to, tabAt K cc_equal_maps_up_to)]
  have F_common_divisor := fun_mk (st := s_common_divisor) l_common_divisor co_common_divisor k_common_divisor
  have F_power := fun_mk (st := s_power) l_power co_power k_power
  have F_octaves_of := fun_mk (st := s_octaves_of) l_octaves_of co_octaves_of k_octaves_of
  have F_steps_floor := fun_mk (st := s_steps_floor) l_steps_floor co_steps_floor k_steps_floor
  have F_is_half := fun_mk (st := s_is_half) l_is_half co_is_half k_is_half
  have F_nearest_steps := fun_mk (st := s_nearest_steps) l_nearest_steps co_nearest_steps k_nearest_steps
  have F_dot := fun_mk (st := s_dot) l_dot co_dot k_dot
  have F_less_times := fun_mk (st := s_less_times) l_less_times co_less_times k_less_times
  have F_first_place := fun_mk (st := s_first_place) l_first_place co_first_place k_first_place
  have F_cleared := fun_mk (st := s_cleared) l_cleared co_cleared k_cleared
  have F_least_row := fun_mk (st := s_least_row) l_least_row co_least_row k_least_row
  have F_with_sign := fun_mk (st := s_with_sign) l_with_sign co_with_sign k_with_sign
  have F_in_steps := fun_mk (st := s_in_steps) l_in_steps co_in_steps k_in_steps
  have F_hidden_from := fun_mk (st := s_hidden_from) l_hidden_from co_hidden_from k_hidden_from
  have F_maps_of := fun_mk (st := s_maps_of) l_maps_of co_maps_of k_maps_of
  have F_commas_of := fun_mk (st := s_commas_of) l_commas_of co_commas_of k_commas_of
  have F_is_tempered := funC_mk (st := s_is_tempered) l_is_tempered co_is_tempered k_is_tempered
  have T_is_tempered := TT _ _ _ rr_is_tempered t_is_tempered
  have F_freedom := fun_mk (st := s_freedom) l_freedom co_freedom k_freedom
  have F_equal_map := fun_mk (st := s_equal_map) l_equal_map co_equal_map k_equal_map
  have F_equal_maps_up_to := funC_mk (st := s_equal_maps_up_to) l_equal_maps_up_to co_equal_maps_up_to k_equal_maps_up_to
  have T_equal_maps_up_to := TT _ _ _ rr_equal_maps_up_to t_equal_maps_up_to
  have F_steps_of := fun_mk (st := s_steps_of) l_steps_of co_steps_of k_steps_of
  have F_lies_in := fun_mk (st := s_lies_in) l_lies_in co_lies_in k_lies_in
  have F_generator_of := fun_mk (st := s_generator_of) l_generator_of co_generator_of k_generator_of
  have F_fifth_of := fun_mk (st := s_fifth_of) l_fifth_of co_fifth_of k_fifth_of
  have F_tone_at := fun_mk (st := s_tone_at) l_tone_at co_tone_at k_tone_at
  have F_height_of := fun_mk (st := s_height_of) l_height_of co_height_of k_height_of
  have F_degree_of := fun_mk (st := s_degree_of) l_degree_of co_degree_of k_degree_of
  have F_interval := fun_mk (st := s_interval) l_interval co_interval k_interval
  have F_fifths_of := fun_mk (st := s_fifths_of) l_fifths_of co_fifths_of k_fifths_of
  have F__law_draw := fun_mk (st := s__law_draw) l__law_draw co__law_draw k__law_draw
  have F_law := fun_mk (st := s_law) l_law co_law k_law
  refine ⟨PySem.W.fnOf "law" "law" (defArgs s_law) (defBody s_law) (defScope s_law) .none kV_law dc_law pm_law an_law cd_law ct_law, [(cc_is_tempered, tabAt K cc_is_tempered), (cc_equal_maps_up_to, tabAt K cc_equal_maps_up_to)], spF ⟨K, mg, (tbOf [(cc_is_tempered, tabAt K cc_is_tempered), (cc_equal_maps_up_to, tabAt K cc_equal_maps_up_to)]).T⟩ 1 f_law, List.forall_mem_cons.mpr ⟨T_is_tempered.2, List.forall_mem_cons.mpr ⟨T_equal_maps_up_to.2, fun _ hp => nomatch hp⟩⟩, List.forall_mem_cons.mpr ⟨n_is_tempered, List.forall_mem_cons.mpr ⟨n_equal_maps_up_to, fun _ hp => nomatch hp⟩⟩, List.forall_mem_cons.mpr ⟨T_is_tempered.1, List.forall_mem_cons.mpr ⟨T_equal_maps_up_to.1, fun _ hp => nomatch hp⟩⟩, fun s v => .of_eq rfl, fun H a ns hl hb hc hS => sp_of LT hl hb hc hS _, fun base KB GB TBs => ?_⟩
  have B_is_tempered : GxR.TabB base mg cc_is_tempered (tabAt K cc_is_tempered) := ⟨(TBs (cc_is_tempered, tabAt K cc_is_tempered) (List.mem_cons_self ..)).code, (TBs (cc_is_tempered, tabAt K cc_is_tempered) (List.mem_cons_self ..)).bm, (TBs (cc_is_tempered, tabAt K cc_is_tempered) (List.mem_cons_self ..)).gP⟩
  have Tb_is_tempered : Tb.T (tabAt K cc_is_tempered) := ⟨(cc_is_tempered, tabAt K cc_is_tempered), List.mem_cons_self .., rfl⟩
  have B_equal_maps_up_to : GxR.TabB base mg cc_equal_maps_up_to (tabAt K cc_equal_maps_up_to) := ⟨(TBs (cc_equal_maps_up_to, tabAt K cc_equal_maps_up_to) (List.mem_cons_of_mem _ (List.mem_cons_self ..))).code, (TBs (cc_equal_maps_up_to, tabAt K cc_equal_maps_up_to) (List.mem_cons_of_mem _ (List.mem_cons_self ..))).bm, (TBs (cc_equal_maps_up_to, tabAt K cc_equal_maps_up_to) (List.mem_cons_of_mem _ (List.mem_cons_self ..))).gP⟩
  have Tb_equal_maps_up_to : Tb.T (tabAt K cc_equal_maps_up_to) := ⟨(cc_equal_maps_up_to, tabAt K cc_equal_maps_up_to), List.mem_cons_of_mem _ (List.mem_cons_self ..), rfl⟩
  have Z_abs : mg "abs" = none := PySem.W.mg_none_of X G z_abs
  have Z_all : mg "all" = none := PySem.W.mg_none_of X G z_all
  have Z_any : mg "any" = none := PySem.W.mg_none_of X G z_any
  have Z_enumerate : mg "enumerate" = none := PySem.W.mg_none_of X G z_enumerate
  have Z_int : mg "int" = none := PySem.W.mg_none_of X G z_int
  have Z_len : mg "len" = none := PySem.W.mg_none_of X G z_len
  have Z_list : mg "list" = none := PySem.W.mg_none_of X G z_list
  have Z_range : mg "range" = none := PySem.W.mg_none_of X G z_range
  have Z_sum : mg "sum" = none := PySem.W.mg_none_of X G z_sum
  have Z_tuple : mg "tuple" = none := PySem.W.mg_none_of X G z_tuple
  have Z_zip : mg "zip" = none := PySem.W.mg_none_of X G z_zip
  have G_LETTERS := PySem.W.mg_of X G ag_LETTERS
  have G_PRIMES := PySem.W.mg_of X G ag_PRIMES
  have S_PRIMES : ∀ H, SqT K H ga_PRIMES vs_PRIMES := fun H => .inr ⟨_, _, _, lg_PRIMES, rfl, rfl, (by show 8 ≤ sizeLine; decide), .cons ⟨_, rfl⟩ (.cons ⟨_, rfl⟩ (.cons ⟨_, rfl⟩ (.cons ⟨_, rfl⟩ (.cons ⟨_, rfl⟩ (.cons ⟨_, rfl⟩ (.cons ⟨_, rfl⟩ (.cons ⟨_, rfl⟩ (.nil))))))))⟩
  have G_SCALE := PySem.W.mg_of X G ag_SCALE
  have G_WHITE := PySem.W.mg_of X G ag_WHITE
  have S_WHITE : ∀ H, SqT K H ga_WHITE vs_WHITE := fun H => .inr ⟨_, _, _, lg_WHITE, rfl, rfl, (by show 7 ≤ sizeLine; decide), .cons ⟨_, rfl⟩ (.cons ⟨_, rfl⟩ (.cons ⟨_, rfl⟩ (.cons ⟨_, rfl⟩ (.cons ⟨_, rfl⟩ (.cons ⟨_, rfl⟩ (.cons ⟨_, rfl⟩ (.nil)))))))⟩
  have C_common_divisor := c_common_divisor (P := PySem.Challenge.rw_allsounded_k57_commas_and_spelled_names.prog) (w := w) (base := base) F_common_divisor (PySem.W.mg_of X G a_common_divisor) Z_abs
  have C_power := c_power (P := PySem.Challenge.rw_allsounded_k57_commas_and_spelled_names.prog) (w := w) (base := base) F_power (PySem.W.mg_of X G a_power)
  have C_octaves_of := c_octaves_of (P := PySem.Challenge.rw_allsounded_k57_commas_and_spelled_names.prog) (w := w) (base := base) F_octaves_of (PySem.W.mg_of X G a_octaves_of)
  have C_steps_floor := c_steps_floor (P := PySem.Challenge.rw_allsounded_k57_commas_and_spelled_names.prog) (w := w) (base := base) F_steps_floor (PySem.W.mg_of X G a_steps_floor) C_octaves_of C_power
  have C_is_half := c_is_half (P := PySem.Challenge.rw_allsounded_k57_commas_and_spelled_names.prog) (w := w) (base := base) F_is_half (PySem.W.mg_of X G a_is_half) C_power
  have C_nearest_steps := c_nearest_steps (P := PySem.Challenge.rw_allsounded_k57_commas_and_spelled_names.prog) (w := w) (base := base) F_nearest_steps (PySem.W.mg_of X G a_nearest_steps) C_is_half C_steps_floor
  have C_dot := c_dot (P := PySem.Challenge.rw_allsounded_k57_commas_and_spelled_names.prog) (w := w) (base := base) F_dot (PySem.W.mg_of X G a_dot) Z_sum Z_zip
  have C_less_times := c_less_times (P := PySem.Challenge.rw_allsounded_k57_commas_and_spelled_names.prog) (w := w) (base := base) F_less_times (PySem.W.mg_of X G a_less_times) Z_tuple Z_zip
  have C_first_place := c_first_place (P := PySem.Challenge.rw_allsounded_k57_commas_and_spelled_names.prog) (w := w) (base := base) F_first_place (PySem.W.mg_of X G a_first_place) Z_enumerate
  have C_cleared := c_cleared (P := PySem.Challenge.rw_allsounded_k57_commas_and_spelled_names.prog) (w := w) (base := base) F_cleared (PySem.W.mg_of X G a_cleared) C_first_place C_less_times Z_len Z_list Z_range Z_tuple
  have C_least_row := c_least_row (P := PySem.Challenge.rw_allsounded_k57_commas_and_spelled_names.prog) (w := w) (base := base) F_least_row (PySem.W.mg_of X G a_least_row) Z_abs
  have C_with_sign := c_with_sign (P := PySem.Challenge.rw_allsounded_k57_commas_and_spelled_names.prog) (w := w) (base := base) F_with_sign (PySem.W.mg_of X G a_with_sign) Z_tuple
  have C_in_steps := c_in_steps (P := PySem.Challenge.rw_allsounded_k57_commas_and_spelled_names.prog) (w := w) (base := base) F_in_steps (PySem.W.mg_of X G a_in_steps) C_cleared C_least_row C_less_times C_with_sign Z_any Z_len Z_list Z_tuple
  have C_hidden_from := c_hidden_from (P := PySem.Challenge.rw_allsounded_k57_commas_and_spelled_names.prog) (w := w) (base := base) F_hidden_from (PySem.W.mg_of X G a_hidden_from) C_in_steps Z_any Z_int Z_len Z_range Z_tuple
  have C_maps_of := c_maps_of (P := PySem.Challenge.rw_allsounded_k57_commas_and_spelled_names.prog) (w := w) (base := base) F_maps_of (PySem.W.mg_of X G a_maps_of) C_hidden_from
  have C_commas_of := c_commas_of (P := PySem.Challenge.rw_allsounded_k57_commas_and_spelled_names.prog) (w := w) (base := base) F_commas_of (PySem.W.mg_of X G a_commas_of) C_hidden_from
  have C_is_tempered := c_is_tempered (P := PySem.Challenge.rw_allsounded_k57_commas_and_spelled_names.prog) (w := w) (base := base) F_is_tempered B_is_tempered Tb_is_tempered (PySem.W.mg_of X G a_is_tempered) C_dot Z_any
  have C_freedom := c_freedom (P := PySem.Challenge.rw_allsounded_k57_commas_and_spelled_names.prog) (w := w) (base := base) F_freedom (PySem.W.mg_of X G a_freedom) C_maps_of Z_len
  have C_equal_map := c_equal_map (P := PySem.Challenge.rw_allsounded_k57_commas_and_spelled_names.prog) (w := w) (base := base) F_equal_map (PySem.W.mg_of X G a_equal_map) C_nearest_steps Z_tuple G_PRIMES S_PRIMES
  have C_equal_maps_up_to := c_equal_maps_up_to (P := PySem.Challenge.rw_allsounded_k57_commas_and_spelled_names.prog) (w := w) (base := base) F_equal_maps_up_to B_equal_maps_up_to Tb_equal_maps_up_to (PySem.W.mg_of X G a_equal_maps_up_to) C_dot C_equal_map Z_all Z_range
  have C_steps_of := c_steps_of (P := PySem.Challenge.rw_allsounded_k57_commas_and_spelled_names.prog) (w := w) (base := base) F_steps_of (PySem.W.mg_of X G a_steps_of) C_dot
  have C_lies_in := c_lies_in (P := PySem.Challenge.rw_allsounded_k57_commas_and_spelled_names.prog) (w := w) (base := base) F_lies_in (PySem.W.mg_of X G a_lies_in) C_first_place C_less_times Z_any Z_tuple
  have C_generator_of := c_generator_of (P := PySem.Challenge.rw_allsounded_k57_commas_and_spelled_names.prog) (w := w) (base := base) F_generator_of (PySem.W.mg_of X G a_generator_of) C_maps_of Z_len
  have C_fifth_of := c_fifth_of (P := PySem.Challenge.rw_allsounded_k57_commas_and_spelled_names.prog) (w := w) (base := base) F_fifth_of (PySem.W.mg_of X G a_fifth_of) G_LETTERS ⟨_, rfl⟩ G_SCALE ⟨_, rfl⟩
  have C_tone_at := c_tone_at (P := PySem.Challenge.rw_allsounded_k57_commas_and_spelled_names.prog) (w := w) (base := base) F_tone_at (PySem.W.mg_of X G a_tone_at) G_LETTERS ⟨_, rfl⟩ G_SCALE ⟨_, rfl⟩
  have C_height_of := c_height_of (P := PySem.Challenge.rw_allsounded_k57_commas_and_spelled_names.prog) (w := w) (base := base) F_height_of (PySem.W.mg_of X G a_height_of) G_WHITE S_WHITE
  have C_degree_of := c_degree_of (P := PySem.Challenge.rw_allsounded_k57_commas_and_spelled_names.prog) (w := w) (base := base) F_degree_of (PySem.W.mg_of X G a_degree_of)
  have C_interval := c_interval (P := PySem.Challenge.rw_allsounded_k57_commas_and_spelled_names.prog) (w := w) (base := base) F_interval (PySem.W.mg_of X G a_interval) C_degree_of C_height_of
  have C_fifths_of := c_fifths_of (P := PySem.Challenge.rw_allsounded_k57_commas_and_spelled_names.prog) (w := w) (base := base) F_fifths_of (PySem.W.mg_of X G a_fifths_of)
  have C__law_draw := c__law_draw (P := PySem.Challenge.rw_allsounded_k57_commas_and_spelled_names.prog) (w := w) (base := base) F__law_draw (PySem.W.mg_of X G a__law_draw) Z_int Z_len
  exact o_law (P := _) (w := w) (base := base) F_law C__law_draw C_commas_of C_common_divisor C_equal_map C_equal_maps_up_to C_fifth_of C_fifths_of C_freedom C_generator_of C_interval C_is_tempered C_lies_in C_maps_of C_steps_of C_tone_at Z_all Z_int Z_len Z_list Z_range

end K57
end M
open PySem PySem.W PyProof.Rows
set_option maxHeartbeats 0 in
theorem PySem.Challenge.cw_allsounded_k57_commas_and_spelled_names_holds : PySem.Challenge.rw_allsounded_k57_commas_and_spelled_names.Holds := by
  w_on; o_law; k_head; (case hw => w_witness2)
  k_fill
  refine M.walk_tabs (l := PySem.Challenge.rw_allsounded_k57_commas_and_spelled_names) (n := 63) (k := 7) (x := "script") (CX := fun _ => L2.CX0) rfl (by decide) rfl ⟨rfl, by decide, by decide⟩ (fun w h Y => PySem.W.kIn_of Y) ?F (fun _ _ _ _ _ h => h)
  case F =>
    intro w mg fa h Y KX G hmg TT
    refine' M.K57.all_mk KX G hmg TT ?a_common_divisor ?l_common_divisor ?co_common_divisor ?k_common_divisor ?a_power ?l_power ?co_power ?k_power ?a_octaves_of ?l_octaves_of ?co_octaves_of ?k_octaves_of ?a_steps_floor ?l_steps_floor ?co_steps_floor ?k_steps_floor ?a_is_half ?l_is_half ?co_is_half ?k_is_half ?a_nearest_steps ?l_nearest_steps ?co_nearest_steps ?k_nearest_steps ?a_dot ?l_dot ?co_dot ?k_dot ?a_less_times ?l_less_times ?co_less_times ?k_less_times ?a_first_place ?l_first_place ?co_first_place ?k_first_place ?a_cleared ?l_cleared ?co_cleared ?k_cleared ?a_least_row ?l_least_row ?co_least_row ?k_least_row ?a_with_sign ?l_with_sign ?co_with_sign ?k_with_sign ?a_in_steps ?l_in_steps ?co_in_steps ?k_in_steps ?a_hidden_from ?l_hidden_from ?co_hidden_from ?k_hidden_from ?a_maps_of ?l_maps_of ?co_maps_of ?k_maps_of ?a_commas_of ?l_commas_of ?co_commas_of ?k_commas_of ?a_is_tempered ?l_is_tempered ?co_is_tempered ?k_is_tempered ?t_is_tempered ?n_is_tempered ?a_freedom ?l_freedom ?co_freedom ?k_freedom ?a_equal_map ?l_equal_map ?co_equal_map ?k_equal_map ?a_equal_maps_up_to ?l_equal_maps_up_to ?co_equal_maps_up_to ?k_equal_maps_up_to ?t_equal_maps_up_to ?n_equal_maps_up_to ?a_steps_of ?l_steps_of ?co_steps_of ?k_steps_of ?a_lies_in ?l_lies_in ?co_lies_in ?k_lies_in ?a_generator_of ?l_generator_of ?co_generator_of ?k_generator_of ?a_fifth_of ?l_fifth_of ?co_fifth_of ?k_fifth_of ?a_tone_at ?l_tone_at ?co_tone_at ?k_tone_at ?a_height_of ?l_height_of ?co_height_of ?k_height_of ?a_degree_of ?l_degree_of ?co_degree_of ?k_degree_of ?a_interval ?l_interval ?co_interval ?k_interval ?a_fifths_of ?l_fifths_of ?co_fifths_of ?k_fifths_of ?a__law_draw ?l__law_draw ?co__law_draw ?k__law_draw ?a_law ?l_law ?co_law ?k_law ?z_abs ?z_all ?z_any ?z_enumerate ?z_int ?z_len ?z_list ?z_range ?z_sum ?z_tuple ?z_zip ?ag_LETTERS ?ag_PRIMES ?lg_PRIMES ?ag_SCALE ?ag_WHITE ?lg_WHITE ?rr_is_tempered ?rr_equal_maps_up_to M.K57.law_true
    (case a_common_divisor => k_is)
    (case l_common_divisor => k_is)
    (case co_common_divisor => k_is)
    (case k_common_divisor => k_is)
    (case a_power => k_is)
    (case l_power => k_is)
    (case co_power => k_is)
    (case k_power => k_is)
    (case a_octaves_of => k_is)
    (case l_octaves_of => k_is)
    (case co_octaves_of => k_is)
    (case k_octaves_of => k_is)
    (case a_steps_floor => k_is)
    (case l_steps_floor => k_is)
    (case co_steps_floor => k_is)
    (case k_steps_floor => k_is)
    (case a_is_half => k_is)
    (case l_is_half => k_is)
    (case co_is_half => k_is)
    (case k_is_half => k_is)
    (case a_nearest_steps => k_is)
    (case l_nearest_steps => k_is)
    (case co_nearest_steps => k_is)
    (case k_nearest_steps => k_is)
    (case a_dot => k_is)
    (case l_dot => k_is)
    (case co_dot => k_is)
    (case k_dot => k_is)
    (case a_less_times => k_is)
    (case l_less_times => k_is)
    (case co_less_times => k_is)
    (case k_less_times => k_is)
    (case a_first_place => k_is)
    (case l_first_place => k_is)
    (case co_first_place => k_is)
    (case k_first_place => k_is)
    (case a_cleared => k_is)
    (case l_cleared => k_is)
    (case co_cleared => k_is)
    (case k_cleared => k_is)
    (case a_least_row => k_is)
    (case l_least_row => k_is)
    (case co_least_row => k_is)
    (case k_least_row => k_is)
    (case a_with_sign => k_is)
    (case l_with_sign => k_is)
    (case co_with_sign => k_is)
    (case k_with_sign => k_is)
    (case a_in_steps => k_is)
    (case l_in_steps => k_is)
    (case co_in_steps => k_is)
    (case k_in_steps => k_is)
    (case a_hidden_from => k_is)
    (case l_hidden_from => k_is)
    (case co_hidden_from => k_is)
    (case k_hidden_from => k_is)
    (case a_maps_of => k_is)
    (case l_maps_of => k_is)
    (case co_maps_of => k_is)
    (case k_maps_of => k_is)
    (case a_commas_of => k_is)
    (case l_commas_of => k_is)
    (case co_commas_of => k_is)
    (case k_commas_of => k_is)
    (case a_is_tempered => k_is)
    (case l_is_tempered => k_is)
    (case co_is_tempered => k_is)
    (case k_is_tempered => k_is)
    (case t_is_tempered => kernel_rfl)
    (case n_is_tempered => kernel_rfl)
    (case a_freedom => k_is)
    (case l_freedom => k_is)
    (case co_freedom => k_is)
    (case k_freedom => k_is)
    (case a_equal_map => k_is)
    (case l_equal_map => k_is)
    (case co_equal_map => k_is)
    (case k_equal_map => k_is)
    (case a_equal_maps_up_to => k_is)
    (case l_equal_maps_up_to => k_is)
    (case co_equal_maps_up_to => k_is)
    (case k_equal_maps_up_to => k_is)
    (case t_equal_maps_up_to => kernel_rfl)
    (case n_equal_maps_up_to => kernel_rfl)
    (case a_steps_of => k_is)
    (case l_steps_of => k_is)
    (case co_steps_of => k_is)
    (case k_steps_of => k_is)
    (case a_lies_in => k_is)
    (case l_lies_in => k_is)
    (case co_lies_in => k_is)
    (case k_lies_in => k_is)
    (case a_generator_of => k_is)
    (case l_generator_of => k_is)
    (case co_generator_of => k_is)
    (case k_generator_of => k_is)
    (case a_fifth_of => k_is)
    (case l_fifth_of => k_is)
    (case co_fifth_of => k_is)
    (case k_fifth_of => k_is)
    (case a_tone_at => k_is)
    (case l_tone_at => k_is)
    (case co_tone_at => k_is)
    (case k_tone_at => k_is)
    (case a_height_of => k_is)
    (case l_height_of => k_is)
    (case co_height_of => k_is)
    (case k_height_of => k_is)
    (case a_degree_of => k_is)
    (case l_degree_of => k_is)
    (case co_degree_of => k_is)
    (case k_degree_of => k_is)
    (case a_interval => k_is)
    (case l_interval => k_is)
    (case co_interval => k_is)
    (case k_interval => k_is)
    (case a_fifths_of => k_is)
    (case l_fifths_of => k_is)
    (case co_fifths_of => k_is)
    (case k_fifths_of => k_is)
    (case a__law_draw => k_is)
    (case l__law_draw => k_is)
    (case co__law_draw => k_is)
    (case k__law_draw => k_is)
    (case a_law => k_is)
    (case l_law => k_is)
    (case co_law => k_is)
    (case k_law => k_is)
    (case z_abs => k_is)
    (case z_all => k_is)
    (case z_any => k_is)
    (case z_enumerate => k_is)
    (case z_int => k_is)
    (case z_len => k_is)
    (case z_list => k_is)
    (case z_range => k_is)
    (case z_sum => k_is)
    (case z_tuple => k_is)
    (case z_zip => k_is)
    (case ag_LETTERS => k_is)
    (case ag_PRIMES => k_is)
    (case lg_PRIMES => k_is)
    (case ag_SCALE => k_is)
    (case ag_WHITE => k_is)
    (case lg_WHITE => k_is)
    (case rr_is_tempered => kernel_rfl)
    (case rr_equal_maps_up_to => kernel_rfl)

