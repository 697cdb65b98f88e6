import PyProof.Rows.All
import Wide.All
import OpenK.AllK
import Wide.FinOn
import HandS.ForMost
import HandS.Walk
import HandS.Zip
import HandS.Star
import HandS.TupAny
import HandS.TupMul
import HandS.IsInst
import HandS.Evl
import HandS.Lambda
import HandS.Style
import HandS.SortInts
import HandS.Deep
import KE.DataMinMax
import HandS.SetFor
import KE.SortData
import HandS.Conv
import KE.KDictWalk
import HandS.GenList
import KE.KTupSum
import HandS.ExcCtx
import HandS.Property
import OpenK.KOps
import HandS.Defaults
import HandS.MakeKwOnly
import HandS.HotCalls
import HandS.ExcIs
import HandS.EndTab
import HandS.ClsMeth
import PySem.Challenge.RW_rollplans_k19_accounts_step_by_step
set_option Elab.async false
set_option linter.all false
set_option maxRecDepth 100000
set_option maxHeartbeats 4000000
/-! Layer R, part 1: pure data over the abstract heap, the state relation, its steps. -/
namespace R
open PySem L2 Evl
inductive D where
  | non | bl (b : Bool) | int (i : Int) | str (x : Str) | tup (ds : List D) | lst (ds : List D)
mutual
def Rep (G : Hp) : D → V → Prop
  | .non, v => v = .non
  | .bl b, v => v = .bl b
  | .int i, v => v = .int i
  | .str x, v => v = .str x
  | .tup ds, v => ∃ a xs, v = .ref a ∧ G a = some (.tup xs) ∧ Reps G ds xs
  | .lst ds, v => ∃ a xs, v = .ref a ∧ G a = some (.lst xs) ∧ Reps G ds xs
def Reps (G : Hp) : List D → List V → Prop
  | [], xs => xs = []
  | d :: ds, xs => ∃ x r, xs = x :: r ∧ Rep G d x ∧ Reps G ds r
end
mutual
theorem Rep.mono {G G' : Hp} (e : Ex G G') : ∀ {d : D} {v : V}, Rep G d v → Rep G' d v
  | .non, v, h => by simpa [Rep] using h
  | .bl b, v, h => by simpa [Rep] using h
  | .int i, v, h => by simpa [Rep] using h
  | .str x, v, h => by simpa [Rep] using h
  | .tup ds, v, h => by
    unfold Rep at h ⊢
    obtain ⟨a, xs, rfl, h1, h2⟩ := h
    exact ⟨a, xs, rfl, e _ _ h1, Reps.mono e h2⟩
  | .lst ds, v, h => by
    unfold Rep at h ⊢
    obtain ⟨a, xs, rfl, h1, h2⟩ := h
    exact ⟨a, xs, rfl, e _ _ h1, Reps.mono e h2⟩
theorem Reps.mono {G G' : Hp} (e : Ex G G') : ∀ {ds : List D} {xs : List V}, Reps G ds xs → Reps G' ds xs
  | [], xs, h => by simpa [Reps] using h
  | d :: ds, xs, h => by
    unfold Reps at h ⊢
    obtain ⟨x, r, rfl, h1, h2⟩ := h
    exact ⟨x, r, rfl, Rep.mono e h1, Reps.mono e h2⟩
end
theorem rep_int {G : Hp} {i : Int} {v : V} : Rep G (.int i) v ↔ v = .int i := by simp [Rep]
theorem rep_bl {G : Hp} {i : Bool} {v : V} : Rep G (.bl i) v ↔ v = .bl i := by simp [Rep]
theorem rep_non {G : Hp} {v : V} : Rep G .non v ↔ v = .non := by simp [Rep]
theorem rep_str {G : Hp} {i : Str} {v : V} : Rep G (.str i) v ↔ v = .str i := by simp [Rep]
theorem rep_tup {G : Hp} {ds : List D} {v : V} : Rep G (.tup ds) v ↔ ∃ a xs, v = .ref a ∧ G a = some (.tup xs) ∧ Reps G ds xs := by
  constructor <;> intro h
  · unfold Rep at h; exact h
  · unfold Rep; exact h
theorem rep_lst {G : Hp} {ds : List D} {v : V} : Rep G (.lst ds) v ↔ ∃ a xs, v = .ref a ∧ G a = some (.lst xs) ∧ Reps G ds xs := by
  constructor <;> intro h
  · unfold Rep at h; exact h
  · unfold Rep; exact h
theorem reps_nil {G : Hp} {xs : List V} : Reps G [] xs ↔ xs = [] := by simp [Reps]
theorem reps_cons {G : Hp} {d : D} {ds : List D} {xs : List V} : Reps G (d :: ds) xs ↔ ∃ x r, xs = x :: r ∧ Rep G d x ∧ Reps G ds r := by
  constructor <;> intro h
  · unfold Reps at h; exact h
  · unfold Reps; exact h
theorem Reps.len {G : Hp} : ∀ {ds : List D} {xs : List V}, Reps G ds xs → xs.length = ds.length
  | [], xs, h => by rw [reps_nil.mp h]; rfl
  | d :: ds, xs, h => by
    obtain ⟨x, r, rfl, _, h2⟩ := reps_cons.mp h
    simp [Reps.len h2]
theorem Reps.get {G : Hp} : ∀ {ds : List D} {xs : List V} {i : Nat} {d : D}, Reps G ds xs → ds[i]? = some d → ∃ x, xs[i]? = some x ∧ Rep G d x
  | [], xs, i, d, h, e => by simp at e
  | d0 :: ds, xs, i, d, h, e => by
    obtain ⟨x, r, rfl, h1, h2⟩ := reps_cons.mp h
    cases i with
    | zero => simp at e; subst e; exact ⟨x, by simp, h1⟩
    | succ n =>
      obtain ⟨y, e1, h3⟩ := Reps.get (i := n) h2 (by simpa using e)
      exact ⟨y, by simpa using e1, h3⟩
theorem Reps.get' {G : Hp} {ds : List D} {xs : List V} {i : Nat} {x : V} (h : Reps G ds xs) (e : xs[i]? = some x) : ∃ d, ds[i]? = some d ∧ Rep G d x := by
  have hl : i < ds.length := by rw [← h.len]; exact (List.getElem?_eq_some_iff.mp e).1
  obtain ⟨y, e1, h2⟩ := h.get (List.getElem?_eq_getElem hl)
  rw [e] at e1
  cases e1
  exact ⟨_, List.getElem?_eq_getElem hl, h2⟩
theorem Reps.append {G : Hp} : ∀ {ds es : List D} {xs ys : List V}, Reps G ds xs → Reps G es ys → Reps G (ds ++ es) (xs ++ ys)
  | [], es, xs, ys, h, h' => by rw [reps_nil.mp h]; exact h'
  | d :: ds, es, xs, ys, h, h' => by
    obtain ⟨x, r, rfl, h1, h2⟩ := reps_cons.mp h
    exact reps_cons.mpr ⟨x, r ++ ys, rfl, h1, Reps.append h2 h'⟩
theorem Reps.take {G : Hp} : ∀ {ds : List D} {xs : List V} (n : Nat), Reps G ds xs → Reps G (ds.take n) (xs.take n)
  | ds, xs, 0, h => by simp [Reps]
  | [], xs, n + 1, h => by rw [reps_nil.mp h]; simp [Reps]
  | d :: ds, xs, n + 1, h => by
    obtain ⟨x, r, rfl, h1, h2⟩ := reps_cons.mp h
    exact reps_cons.mpr ⟨x, r.take n, rfl, h1, Reps.take n h2⟩
theorem Reps.drop {G : Hp} : ∀ {ds : List D} {xs : List V} (n : Nat), Reps G ds xs → Reps G (ds.drop n) (xs.drop n)
  | ds, xs, 0, h => by simpa using h
  | [], xs, n + 1, h => by rw [reps_nil.mp h]; simp [Reps]
  | d :: ds, xs, n + 1, h => by
    obtain ⟨x, r, rfl, h1, h2⟩ := reps_cons.mp h
    simpa using Reps.drop n h2
theorem Reps.set {G : Hp} : ∀ {ds : List D} {xs : List V} (n : Nat) {d : D} {x : V}, Reps G ds xs → Rep G d x → Reps G (ds.set n d) (xs.set n x)
  | [], xs, n, d, x, h, h' => by rw [reps_nil.mp h]; simp [Reps]
  | e :: ds, xs, 0, d, x, h, h' => by
    obtain ⟨y, r, rfl, h1, h2⟩ := reps_cons.mp h
    exact reps_cons.mpr ⟨x, r, rfl, h', h2⟩
  | e :: ds, xs, n + 1, d, x, h, h' => by
    obtain ⟨y, r, rfl, h1, h2⟩ := reps_cons.mp h
    exact reps_cons.mpr ⟨y, r.set n x, rfl, h1, Reps.set n h2 h'⟩
theorem reps_one {G : Hp} {d : D} {x : V} (h : Rep G d x) : Reps G [d] [x] := reps_cons.mpr ⟨x, [], rfl, h, reps_nil.mpr rfl⟩
theorem reps_ints {G : Hp} : ∀ {ns : List Int} {xs : List V}, Reps G (ns.map D.int) xs ↔ xs = ns.map V.int
  | [], xs => by simp [Reps]
  | n :: ns, xs => by
    constructor
    · intro h
      obtain ⟨x, r, rfl, h1, h2⟩ := reps_cons.mp h
      rw [rep_int.mp h1, reps_ints.mp h2]; rfl
    · rintro rfl
      exact reps_cons.mpr ⟨_, _, rfl, rep_int.mpr rfl, reps_ints.mpr rfl⟩
theorem reps_bls {G : Hp} : ∀ {ns : List Bool} {xs : List V}, Reps G (ns.map D.bl) xs ↔ xs = ns.map V.bl
  | [], xs => by simp [Reps]
  | n :: ns, xs => by
    constructor
    · intro h
      obtain ⟨x, r, rfl, h1, h2⟩ := reps_cons.mp h
      rw [rep_bl.mp h1, reps_bls.mp h2]; rfl
    · rintro rfl
      exact reps_cons.mpr ⟨_, _, rfl, rep_bl.mpr rfl, reps_bls.mpr rfl⟩
theorem Reps.reverse {G : Hp} : ∀ {ds : List D} {xs : List V}, Reps G ds xs → Reps G ds.reverse xs.reverse
  | [], xs, h => by rw [reps_nil.mp h]; simp [Reps]
  | d :: ds, xs, h => by
    obtain ⟨x, r, rfl, h1, h2⟩ := reps_cons.mp h
    rw [List.reverse_cons, List.reverse_cons]
    exact Reps.append (Reps.reverse h2) (reps_one h1)
/-! ### mutable objects, slots -/
/-- what is known of a value by the frozen part alone -/
structure Tkn where
  P : Hp → V → Prop
  mono : ∀ {G G' : Hp} {v : V}, Ex G G' → P G v → P G' v
def Tkns (G : Hp) : List Tkn → List V → Prop
  | [], xs => xs = []
  | t :: ts, xs => ∃ x r, xs = x :: r ∧ t.P G x ∧ Tkns G ts r
theorem Tkns.mono {G G' : Hp} (e : Ex G G') : ∀ {ts : List Tkn} {xs : List V}, Tkns G ts xs → Tkns G' ts xs
  | [], _, h => h
  | t :: ts, xs, h => by
    obtain ⟨x, r, e1, h1, h2⟩ := h
    exact ⟨x, r, e1, t.mono e h1, Tkns.mono e h2⟩
theorem Tkns.app {G : Hp} : ∀ {ts us : List Tkn} {xs ys : List V}, Tkns G ts xs → Tkns G us ys → Tkns G (ts ++ us) (xs ++ ys)
  | [], _, xs, _, h, h' => by
    have e : xs = [] := h
    rw [e]
    exact h'
  | t :: ts, us, xs, ys, h, h' => by
    obtain ⟨x, r, rfl, h1, h2⟩ := h
    exact ⟨x, r ++ ys, rfl, h1, Tkns.app h2 h'⟩
theorem Tkns.len {G : Hp} : ∀ {ts : List Tkn} {xs : List V}, Tkns G ts xs → xs.length = ts.length
  | [], xs, h => by
    have e : xs = [] := h
    rw [e]
    rfl
  | t :: ts, xs, h => by
    obtain ⟨x, r, rfl, h1, h2⟩ := h
    simp [Tkns.len h2]
/-- a mutable object: a list of this def's own making; a list handed in; a source of draws (three ints, the third at most n); nothing -/
inductive MO where
  | lst (ds : List D) | ext (ds : List D) | bag (n : Nat) | dead | raw (o : HO) | toks (ts : List Tkn)
/-- a slot's value: data; the i-th mutable object; a list of mutable objects; the script -/
inductive S where
  | d (d : D) | m (i : Nat) | ml (is : List Nat) | scr (ns : List Int) | dic (kvs : List (List L2.Key × V)) | v (x : V) | acc (j : Nat)
abbrev Env := List (Option S)
abbrev Mem := List MO
/-- what stays through a def's run: the heap at its entry, what it may write there, the frozen part at its entry -/
structure Wr where
  B : Hp
  W : Addr → Prop
  G0 : Hp
  as0 : List Addr
  E : XK
  XQ : Str → Mem → Prop
  hid : Hp
  T : List (Addr × Str)
def MR (u : Wr) (G H : Hp) : MO → Addr → Prop
  | .lst ds, a => G a = none ∧ u.B a = none ∧ ∃ xs, H a = some (.lst xs) ∧ Reps G ds xs
  | .ext ds, a => G a = none ∧ ∃ xs, H a = some (.lst xs) ∧ Reps G ds xs
  | .bag n, a => G a = none ∧ ∃ x y z : Int, H a = some (.lst [.int x, .int y, .int z]) ∧ 0 ≤ x ∧ 0 ≤ y ∧ y < 2305843009213693951 ∧ 0 ≤ z ∧ z ≤ n
  | .dead, _ => True
  | .raw o, a => G a = none ∧ u.B a = none ∧ H a = some o
  | .toks ts, a => G a = none ∧ u.B a = none ∧ ∃ xs, H a = some (.lst xs) ∧ Tkns G ts xs
def Refs (as : List Addr) : List Nat → List V → Prop
  | [], xs => xs = []
  | i :: is, xs => ∃ a r, xs = .ref a :: r ∧ as[i]? = some a ∧ Refs as is r
def SRp (K : PySem.W.Frag) (as : List Addr) (G : Hp) : S → V → Prop
  | .d d, v => Rep G d v
  | .m i, v => ∃ a, as[i]? = some a ∧ v = .ref a
  | .ml is, v => ∃ p xs, v = .ref p ∧ G p = some (.lst xs) ∧ Refs as is xs
  | .scr ns, v => ∃ p, v = .ref p ∧ SqL K G p (ns.map V.int)
  | .dic kvs, v => ∃ p od, v = .ref p ∧ G p = some (.frz od (.dT kvs))
  | .v x, v => v = x
  | .acc j, v => ∃ C a dx l, PySem.W.nsIn K mainGlobals "Account" = some (some (.ref C)) ∧ v = .ref a ∧ G a = some (.ins C dx [("states", .ref l)]) ∧ as[j]? = some l
structure Le (G : Hp) (as : List Addr) (G' : Hp) (as' : List Addr) : Prop where
  ex : Ex G G'
  pre : ∃ t, as' = as ++ t
theorem Le.refl (G : Hp) (as : List Addr) : Le G as G as := ⟨Ex.refl G, [], by simp⟩
theorem Le.trans {G G1 G2 : Hp} {as as1 as2 : List Addr} (a : Le G as G1 as1) (b : Le G1 as1 G2 as2) : Le G as G2 as2 := by
  obtain ⟨t, rfl⟩ := a.pre
  obtain ⟨t', rfl⟩ := b.pre
  exact ⟨a.ex.trans b.ex, t ++ t', by simp⟩
theorem Le.get {G G' : Hp} {as as' : List Addr} (l : Le G as G' as') {i : Nat} {a : Addr} (h : as[i]? = some a) : as'[i]? = some a := by
  obtain ⟨t, rfl⟩ := l.pre
  rw [List.getElem?_append_left (List.getElem?_eq_some_iff.mp h).1]
  exact h
theorem Refs.mono {as as' : List Addr} (k : ∀ (i : Nat) (a : Addr), as[i]? = some a → as'[i]? = some a) : ∀ {is : List Nat} {xs : List V}, Refs as is xs → Refs as' is xs
  | [], _, h => h
  | i :: is, xs, h => by
    obtain ⟨a, r, e, h1, h2⟩ := h
    exact ⟨a, r, e, k _ _ h1, Refs.mono k h2⟩
theorem SRp.mono {K : PySem.W.Frag} {G G' : Hp} {as as' : List Addr} (l : Le G as G' as') : ∀ {s : S} {v : V}, SRp K as G s v → SRp K as' G' s v
  | .d d, v, h => Rep.mono l.ex (show Rep G d v from h)
  | .m i, v, h => by
    obtain ⟨a, e, q⟩ := h
    exact ⟨a, l.get e, q⟩
  | .ml is, v, h => by
    obtain ⟨p, xs, e, h1, h2⟩ := h
    exact ⟨p, xs, e, l.ex _ _ h1, Refs.mono (fun _ _ => l.get) h2⟩
  | .scr ns, v, h => by
    obtain ⟨p, e, h1⟩ := h
    exact ⟨p, e, ex_l l.ex h1⟩
  | .dic kvs, v, h => by
    obtain ⟨p, od, e, h1⟩ := h
    exact ⟨p, od, e, l.ex _ _ h1⟩
  | .v x, v, h => h
  | .acc j, v, h => by
    obtain ⟨C, a, dx, l1, hC, e, h1, h2⟩ := h
    exact ⟨C, a, dx, l1, hC, e, l.ex _ _ h1, l.get h2⟩
/-- a table of code objects, known to bear one name -/
def TabG (G H : Hp) (p : Addr × Str) : Prop := G p.1 = none ∧ ∃ ps : Array Value, H p.1 = some (.tbl ps) ∧ TriplesOk ps.toList ∧ ∀ (pos : Pos) (cv : Value), codeAmong pos ps.toList = some cv → ∃ c, cv = .ref c ∧ G c = some (LamX.CodeO c p.2)
theorem TabG.stay {G G' H H' : Hp} {p : Addr × Str} (h : TabG G H p) (e : Ex G G') (hg : G p.1 = none → G' p.1 = none) (ha : ∀ w, H p.1 = some w → H' p.1 = some w) : TabG G' H' p := by
  obtain ⟨h1, ps, h2, h3, h4⟩ := h
  exact ⟨hg h1, ps, ha _ h2, h3, fun pos cv hc => let ⟨c, e1, e2⟩ := h4 pos cv hc; ⟨c, e1, e _ _ e2⟩⟩
theorem TabG.some {G H : Hp} {p : Addr × Str} (h : TabG G H p) : H p.1 ≠ none := by
  obtain ⟨_, ps, h2, _⟩ := h
  rw [h2]; simp
/-- the state: G the frozen part of the heap H, as the addresses of the mutable objects M -/
structure SR (u : Wr) (G H : Hp) (as : List Addr) (M : Mem) : Prop where
  gh : Ex G H
  g0 : Ex u.G0 G
  nd : as.Nodup
  len : as.length = M.length
  ms : ∀ (i : Nat) (a : Addr) (o : MO), as[i]? = some a → M[i]? = some o → MR u G H o a
  there : ∀ a ∈ as, H a ≠ none
  fr : ∀ a o, u.B a = some o → ¬ u.W a → H a = some o
  th : ∀ a, u.B a ≠ none → H a ≠ none
  nf : ∀ a, u.B a ≠ none → u.G0 a = none → G a = none
  wr : ∀ a ∈ as, u.B a = none ∨ u.W a
  pre : ∃ t, as = u.as0 ++ t
  hd : ∀ (a : Addr) (o : HO), u.hid a = some o → H a = some o ∧ G a = none ∧ a ∉ as
  tb : ∀ p ∈ u.T, TabG G H p ∧ p.1 ∉ as ∧ (u.B p.1 = none ∨ u.W p.1) ∧ u.hid p.1 = none
structure ER (K : PySem.W.Frag) (as : List Addr) (G : Hp) (env : Env) (σ : L2.St) : Prop where
  len : env.length = σ.length
  get : ∀ (i : Nat) (s : S), env[i]? = some (some s) → ∃ v, σ[i]? = some (some v) ∧ SRp K as G s v
theorem ER.mono {K : PySem.W.Frag} {G G' : Hp} {as as' : List Addr} {env : Env} {σ : L2.St} (l : Le G as G' as') (h : ER K as G env σ) : ER K as' G' env σ :=
  ⟨h.len, fun i s e => let ⟨v, e1, h1⟩ := h.get i s e; ⟨v, e1, h1.mono l⟩⟩
theorem ER.set {K : PySem.W.Frag} {G : Hp} {as : List Addr} {env : Env} {σ : L2.St} {s : S} {v : V} (h : ER K as G env σ) (i : Nat) (r : SRp K as G s v) : ER K as G (env.set i (some s)) (σ.set i (some v)) := by
  refine ⟨by simpa using h.len, fun j t e => ?_⟩
  by_cases hj : j = i
  · subst hj
    have hl : j < env.length := by
      have := (List.getElem?_eq_some_iff.mp e).1
      simpa using this
    rw [List.getElem?_set_self hl] at e
    cases e
    exact ⟨v, List.getElem?_set_self (by rw [← h.len]; exact hl), r⟩
  · rw [List.getElem?_set_ne (Ne.symm hj)] at e ⊢
    exact h.get j t e
theorem none_of_ne {H : Hp} {a : Addr} (h : ¬ H a ≠ none) : H a = none := by
  cases q : H a with
  | none => rfl
  | some o => exact absurd (by rw [q]; simp) h
theorem ne_addr {H : Hp} {a p : Addr} (h : H a ≠ none) (hp : H p = none) : a ≠ p := by
  rintro rfl
  exact h hp
section
variable {u : Wr} {G G' H H' : Hp} {as as' : List Addr} {M M' : Mem} {K : PySem.W.Frag}
theorem SR.gnone (sr : SR u G H as M) {p : Addr} (hp : H p = none) : G p = none := fresh_back sr.gh hp
theorem SR.bnone (sr : SR u G H as M) {p : Addr} (hp : H p = none) : u.B p = none := none_of_ne fun z => sr.th p z hp
theorem SR.mem (sr : SR u G H as M) {i : Nat} {a : Addr} (h : as[i]? = some a) : a ∈ as := List.mem_of_getElem? h
theorem SR.inj (sr : SR u G H as M) {i j : Nat} {a : Addr} (h : as[i]? = some a) (h' : as[j]? = some a) : i = j := nd_ix sr.nd h h'
theorem SR.at_ (sr : SR u G H as M) {i : Nat} {o : MO} (h : M[i]? = some o) : ∃ a, as[i]? = some a ∧ MR u G H o a := by
  have hl : i < as.length := by rw [sr.len]; exact (List.getElem?_eq_some_iff.mp h).1
  exact ⟨as[i], List.getElem?_eq_getElem hl, sr.ms i _ o (List.getElem?_eq_getElem hl) h⟩
/-- MR looks at its own address alone (and at the frozen part) -/
theorem MR.stay {o : MO} {a : Addr} (h : MR u G H o a) (e : Ex G G') (hg : G a = none → G' a = none) (ha : ∀ w, H a = some w → H' a = some w) : MR u G' H' o a := by
  cases o with
  | lst ds => obtain ⟨h1, h0, xs, h2, h3⟩ := h; exact ⟨hg h1, h0, xs, ha _ h2, h3.mono e⟩
  | ext ds => obtain ⟨h1, xs, h2, h3⟩ := h; exact ⟨hg h1, xs, ha _ h2, h3.mono e⟩
  | bag n => obtain ⟨h1, x, y, z, h2, h3⟩ := h; exact ⟨hg h1, x, y, z, ha _ h2, h3⟩
  | dead => trivial
  | raw o => obtain ⟨h1, h0, h2⟩ := h; exact ⟨hg h1, h0, ha _ h2⟩
  | toks ts => obtain ⟨h1, h0, xs, h2, h3⟩ := h; exact ⟨hg h1, h0, xs, ha _ h2, h3.mono e⟩
/-- a new frozen object -/
theorem SR.laid (sr : SR u G H as M) {p : Addr} {o : HO} (hp : H p = none) : SR u (upd G p o) (upd H p o) as M := by
  have hg := sr.gnone hp
  have e : Ex G (upd G p o) := Ex.new hg
  refine ⟨fun a w h => ?_, sr.g0.trans e, sr.nd, sr.len, fun i a w h1 h2 => ?_, fun a h => ?_, fun a w h1 h2 => ?_, fun a h => ?_, fun a h1 h2 => ?_, sr.wr, sr.pre, fun a w h => (let ⟨h1, h2, h3⟩ := sr.hd a w h; have q : a ≠ p := ne_of_none h1 hp; ⟨by rw [upd_ne q]; exact h1, by rw [upd_ne q]; exact h2, h3⟩), fun t ht => (let ⟨t1, t2, t3⟩ := sr.tb t ht; have q : t.1 ≠ p := ne_addr t1.some hp; ⟨t1.stay e (fun z => by rw [upd_ne q]; exact z) fun v z => by rw [upd_ne q]; exact z, t2, t3⟩)⟩
  · by_cases ha : a = p
    · subst ha; rw [upd_same] at h ⊢; exact h
    · rw [upd_ne ha] at h ⊢; exact sr.gh a w h
  · have ha : a ≠ p := ne_addr (sr.there a (sr.mem h1)) hp
    exact (sr.ms i a w h1 h2).stay e (fun z => by rw [upd_ne ha]; exact z) fun v z => by rw [upd_ne ha]; exact z
  · have ha : a ≠ p := ne_addr (sr.there a h) hp
    rw [upd_ne ha]; exact sr.there a h
  · have z := sr.fr a w h1 h2
    rw [upd_ne (ne_of_none z hp)]; exact z
  · have z := sr.th a h
    rw [upd_ne (ne_addr z hp)]; exact z
  · have z := sr.th a h1
    rw [upd_ne (ne_addr z hp)]; exact sr.nf a h1 h2
theorem SR.le_laid (sr : SR u G H as M) {p : Addr} {o : HO} (hp : H p = none) : Le G as (upd G p o) as := ⟨Ex.new (sr.gnone hp), [], by simp⟩
/-- a new mutable object -/
theorem SR.fresh (sr : SR u G H as M) {p : Addr} {o : HO} {mo : MO} (hp : H p = none) (hm : MR u G (upd H p o) mo p) : SR u G (upd H p o) (as ++ [p]) (M ++ [mo]) := by
  have hg := sr.gnone hp
  have hn : p ∉ as := fun z => sr.there p z hp
  refine ⟨fun a w h => ?_, sr.g0, ?_, by simp [sr.len], fun i a w h1 h2 => ?_, fun a h => ?_, fun a w h1 h2 => ?_, fun a h => ?_, sr.nf, fun a h => ?_, (let ⟨t, e⟩ := sr.pre; ⟨t ++ [p], by rw [e, List.append_assoc]⟩), fun a w h => (let ⟨h1, h2, h3⟩ := sr.hd a w h; have q : a ≠ p := ne_of_none h1 hp; ⟨by rw [upd_ne q]; exact h1, h2, by simp [h3, q]⟩), fun t ht => (let ⟨t1, t2, t3⟩ := sr.tb t ht; have q : t.1 ≠ p := ne_addr t1.some hp; ⟨t1.stay (Ex.refl G) (fun z => z) fun v z => by rw [upd_ne q]; exact z, by simp [t2, q], t3⟩)⟩
  · have z := sr.gh a w h
    rw [upd_ne (ne_of_none z hp)]; exact z
  · rw [List.nodup_append]
    refine ⟨sr.nd, by simp, fun a ha b hb => ?_⟩
    have : b = p := by simpa using hb
    subst this
    rintro rfl
    exact hn ha
  · by_cases hi : i < as.length
    · rw [List.getElem?_append_left hi] at h1
      rw [List.getElem?_append_left (by rw [← sr.len]; exact hi)] at h2
      have ha : a ≠ p := ne_addr (sr.there a (sr.mem h1)) hp
      exact (sr.ms i a w h1 h2).stay (Ex.refl G) (fun z => z) fun v z => by rw [upd_ne ha]; exact z
    · rw [List.getElem?_append_right (by omega)] at h1
      rw [List.getElem?_append_right (by rw [← sr.len]; omega)] at h2
      have h3 : i - as.length = 0 := by
        have := (List.getElem?_eq_some_iff.mp h1).1
        simp at this; omega
      have h4 : i - M.length = 0 := by rw [← sr.len]; exact h3
      rw [h3] at h1; rw [h4] at h2
      simp at h1 h2
      subst h1 h2
      exact hm
  · rcases List.mem_append.mp h with z | z
    · rw [upd_ne (ne_addr (sr.there a z) hp)]; exact sr.there a z
    · have : a = p := by simpa using z
      subst this
      rw [upd_same]; simp
  · have z := sr.fr a w h1 h2
    rw [upd_ne (ne_of_none z hp)]; exact z
  · have z := sr.th a h
    rw [upd_ne (ne_addr z hp)]; exact z
  · rcases List.mem_append.mp h with z | z
    · exact sr.wr a z
    · have : a = p := by simpa using z
      subst this
      exact .inl (sr.bnone hp)
theorem Le.app (G : Hp) (as t : List Addr) : Le G as G (as ++ t) := ⟨Ex.refl G, t, rfl⟩
/-- the i-th mutable object is written -/
theorem SR.write (sr : SR u G H as M) {i : Nat} {p : Addr} {o : HO} {mo : MO} (hi : as[i]? = some p) (hg : G p = none) (hm : MR u G (upd H p o) mo p) : SR u G (upd H p o) as (M.set i mo) := by
  have hpa := sr.mem hi
  refine ⟨fun a w h => ?_, sr.g0, sr.nd, by simpa using sr.len, fun j a w h1 h2 => ?_, fun a h => ?_, fun a w h1 h2 => ?_, fun a h => ?_, sr.nf, sr.wr, sr.pre, fun a w h => (let ⟨h1, h2, h3⟩ := sr.hd a w h; have q : a ≠ p := (fun z => h3 (z ▸ hpa)); ⟨by rw [upd_ne q]; exact h1, h2, h3⟩), fun t ht => (let ⟨t1, t2, t3⟩ := sr.tb t ht; have q : t.1 ≠ p := (fun z => t2 (z ▸ hpa)); ⟨t1.stay (Ex.refl G) (fun z => z) fun v z => by rw [upd_ne q]; exact z, t2, t3⟩)⟩
  · have : a ≠ p := by rintro rfl; rw [hg] at h; cases h
    rw [upd_ne this]; exact sr.gh a w h
  · by_cases hj : j = i
    · subst hj
      rw [hi] at h1; cases h1
      rw [List.getElem?_set_self (by rw [← sr.len]; exact (List.getElem?_eq_some_iff.mp hi).1)] at h2
      cases h2
      exact hm
    · rw [List.getElem?_set_ne (Ne.symm hj)] at h2
      have ha : a ≠ p := fun z => hj (sr.inj h1 (z ▸ hi))
      exact (sr.ms j a w h1 h2).stay (Ex.refl G) (fun z => z) fun v z => by rw [upd_ne ha]; exact z
  · by_cases ha : a = p
    · subst ha; rw [upd_same]; simp
    · rw [upd_ne ha]; exact sr.there a h
  · have : a ≠ p := by
      rintro rfl
      rcases sr.wr a hpa with z | z
      · rw [z] at h1; cases h1
      · exact h2 z
    rw [upd_ne this]; exact sr.fr a w h1 h2
  · by_cases ha : a = p
    · subst ha; rw [upd_same]; simp
    · rw [upd_ne ha]; exact sr.th a h
/-- the i-th mutable object, a list of the def's own, is frozen -/
theorem SR.freeze (sr : SR u G H as M) {i : Nat} {p : Addr} {ds : List D} (hi : as[i]? = some p) (hm : M[i]? = some (.lst ds)) :
    ∃ xs, SR u (upd G p (.lst xs)) H as (M.set i .dead) ∧ Ex G (upd G p (.lst xs)) ∧ Rep (upd G p (.lst xs)) (.lst ds) (.ref p) := by
  obtain ⟨hg, hb, xs, hx, hr⟩ := sr.ms i p _ hi hm
  have e : Ex G (upd G p (.lst xs)) := Ex.new hg
  refine ⟨xs, ⟨fun a w h => ?_, sr.g0.trans e, sr.nd, by simpa using sr.len, fun j a w h1 h2 => ?_, sr.there, sr.fr, sr.th, fun a h1 h2 => ?_, sr.wr, sr.pre, fun a w h => (let ⟨h1, h2, h3⟩ := sr.hd a w h; have q : a ≠ p := (fun z => h3 (z ▸ sr.mem hi)); ⟨h1, by rw [upd_ne q]; exact h2, h3⟩), fun t ht => (let ⟨t1, t2, t3⟩ := sr.tb t ht; have q : t.1 ≠ p := (fun z => t2 (z ▸ sr.mem hi)); ⟨t1.stay e (fun z => by rw [upd_ne q]; exact z) fun v z => z, t2, t3⟩)⟩, e, rep_lst.mpr ⟨p, xs, rfl, upd_same, hr.mono e⟩⟩
  · by_cases ha : a = p
    · subst ha; rw [upd_same] at h; cases h; exact hx
    · rw [upd_ne ha] at h; exact sr.gh a w h
  · by_cases hj : j = i
    · subst hj
      rw [List.getElem?_set_self (by rw [← sr.len]; exact (List.getElem?_eq_some_iff.mp hi).1)] at h2
      cases h2
      trivial
    · rw [List.getElem?_set_ne (Ne.symm hj)] at h2
      have ha : a ≠ p := fun z => hj (sr.inj h1 (z ▸ hi))
      exact (sr.ms j a w h1 h2).stay e (fun z => by rw [upd_ne ha]; exact z) fun v z => z
  · have : a ≠ p := by rintro rfl; exact h1 hb
    rw [upd_ne this]; exact sr.nf a h1 h2
/-- the last objects are forgotten -/
theorem SR.trim (sr : SR u G H as M) (n : Nat) (hn : u.as0.length ≤ n) : SR u G H (as.take n) (M.take n) := by
  refine ⟨sr.gh, sr.g0, sr.nd.sublist (List.take_sublist n as), by simp [sr.len], fun i a o h1 h2 => ?_, fun a h => sr.there a (List.mem_of_mem_take h), sr.fr, sr.th, sr.nf, fun a h => sr.wr a (List.mem_of_mem_take h), (let ⟨t, e⟩ := sr.pre; ⟨t.take (n - u.as0.length), by rw [e, List.take_append, List.take_of_length_le hn]⟩), fun a w h => (let ⟨h1, h2, h3⟩ := sr.hd a w h; ⟨h1, h2, fun z => h3 (List.mem_of_mem_take z)⟩), fun t ht => (let ⟨t1, t2, t3⟩ := sr.tb t ht; ⟨t1, fun z => t2 (List.mem_of_mem_take z), t3⟩)⟩
  rw [List.getElem?_take] at h1 h2
  split at h1
  · rename_i hlt
    rw [if_pos hlt] at h2
    exact sr.ms i a o h1 h2
  · cases h1
/-- another content told of the i-th object -/
theorem SR.retell (sr : SR u G H as M) {i : Nat} {p : Addr} {mo : MO} (hi : as[i]? = some p) (hm : MR u G H mo p) : SR u G H as (M.set i mo) := by
  refine ⟨sr.gh, sr.g0, sr.nd, by simpa using sr.len, fun j a w h1 h2 => ?_, sr.there, sr.fr, sr.th, sr.nf, sr.wr, sr.pre, sr.hd, sr.tb⟩
  by_cases hj : j = i
  · subst hj
    rw [hi] at h1; cases h1
    rw [List.getElem?_set_self (by rw [← sr.len]; exact (List.getElem?_eq_some_iff.mp hi).1)] at h2
    cases h2
    exact hm
  · rw [List.getElem?_set_ne (Ne.symm hj)] at h2
    exact sr.ms j a w h1 h2
/-- an object that is kept out of sight for a while -/
def Wr.hide (u : Wr) (p : Addr) (o : HO) : Wr := { u with hid := upd u.hid p o }
theorem SR.hide (sr : SR u G H as M) {p : Addr} {o : HO} (hp : H p = some o) (hg : G p = none) (ha : p ∉ as) (ho : ∀ ps, o ≠ .tbl ps := by intro _ z; cases z) : SR (u.hide p o) G H as M := by
  refine ⟨sr.gh, sr.g0, sr.nd, sr.len, fun i a w h1 h2 => ?_, sr.there, sr.fr, sr.th, sr.nf, sr.wr, sr.pre, fun a w h => ?_, fun t ht => (let ⟨t1, t2, t3, t4⟩ := sr.tb t ht; have q : t.1 ≠ p := (fun z => (let ⟨_, ps, e, _⟩ := t1; ho ps (Option.some.inj (hp.symm.trans (z ▸ e))))); ⟨t1, t2, t3, (upd_ne q).trans t4⟩)⟩
  · have z := sr.ms i a w h1 h2
    cases w <;> exact z
  · by_cases q : a = p
    · subst q
      have e : upd u.hid a o a = some w := h
      rw [upd_same] at e
      cases e
      exact ⟨hp, hg, ha⟩
    · have e : upd u.hid p o a = some w := h
      rw [upd_ne q] at e
      exact sr.hd a w e
theorem SR.seek {p : Addr} {o : HO} (sr : SR (u.hide p o) G H as M) : H p = some o ∧ G p = none ∧ p ∉ as := sr.hd p o (show upd u.hid p o p = some o from upd_same)
theorem SR.show_ {p : Addr} {o : HO} (sr : SR (u.hide p o) G H as M) (hn : u.hid p = none) : SR u G H as M := by
  refine ⟨sr.gh, sr.g0, sr.nd, sr.len, fun i a w h1 h2 => ?_, sr.there, sr.fr, sr.th, sr.nf, sr.wr, sr.pre, fun a w h => sr.hd a w ?_, fun t ht => (let ⟨t1, t2, t3, t4⟩ := sr.tb t ht; ⟨t1, t2, t3, (by have q : t.1 ≠ p := (fun z => by have z4 : upd u.hid p o t.1 = none := t4; rw [z, upd_same] at z4; cases z4); have z4 : upd u.hid p o t.1 = none := t4; rw [upd_ne q] at z4; exact z4)⟩)⟩
  · have z := sr.ms i a w h1 h2
    cases w <;> exact z
  · have q : a ≠ p := by rintro rfl; rw [hn] at h; cases h
    show upd u.hid p o a = some w
    rw [upd_ne q]; exact h
/-- what is out of sight of u is written -/
theorem SR.other (sr : SR u G H as M) {p : Addr} {o : HO} (hg : G p = none) (ha : p ∉ as) (hb : u.B p = none) (hn : u.hid p = none) (ht : ∀ ps, H p ≠ some (.tbl ps)) : SR u G (upd H p o) as M := by
  refine ⟨fun a w h => ?_, sr.g0, sr.nd, sr.len, fun i a w h1 h2 => ?_, fun a h => ?_, fun a w h1 h2 => ?_, fun a h => ?_, sr.nf, sr.wr, sr.pre, fun a w h => ?_, fun t tm => (let ⟨t1, t2, t3⟩ := sr.tb t tm; have q : t.1 ≠ p := (fun z => (let ⟨_, ps, e, _⟩ := t1; ht ps (z ▸ e))); ⟨t1.stay (Ex.refl G) (fun z => z) fun v z => by rw [upd_ne q]; exact z, t2, t3⟩)⟩
  · have : a ≠ p := by rintro rfl; rw [hg] at h; cases h
    rw [upd_ne this]; exact sr.gh a w h
  · have q : a ≠ p := fun z => ha (z ▸ sr.mem h1)
    exact (sr.ms i a w h1 h2).stay (Ex.refl G) (fun z => z) fun v z => by rw [upd_ne q]; exact z
  · have q : a ≠ p := fun z => ha (z ▸ h)
    rw [upd_ne q]; exact sr.there a h
  · have q : a ≠ p := by rintro rfl; rw [hb] at h1; cases h1
    rw [upd_ne q]; exact sr.fr a w h1 h2
  · have q : a ≠ p := by rintro rfl; exact h hb
    rw [upd_ne q]; exact sr.th a h
  · have q : a ≠ p := by rintro rfl; rw [hn] at h; cases h
    rw [upd_ne q]; exact sr.hd a w h
end
end R
/-! Layer R, part 2: expressions. -/
namespace R
open PySem L2 Evl
abbrev XC := Str → Mem → Prop
abbrev DK := S → Mem → Prop
abbrev DW := XC → Env → Mem → DK → Prop
abbrev DTW := XC → Env → Mem → (Bool → Mem → Prop) → Prop
abbrev DAW := XC → Env → Mem → (List S → Mem → Prop) → Prop
/-- the tables of the defs that make lambdas -/
def tabsK (K : PySem.W.Frag) : List (Addr × Str) := (["law", "_law_step", "_law_numbers_right", "_law_bills_right", "_law_plan_calls", "_law_usage_calls"] : List Str).filterMap fun x => (PySem.W.tabIn K x).map fun p => (p.2, x ++ ".<locals>.<lambda>")
/-- what is raised: the class at the name x of the top -/
def XOk (K : PySem.W.Frag) (u : Wr) : Prop := (∀ x cls G H as M, SR u G H as M → u.XQ x M → PySem.W.nsIn K mainGlobals x = some (some cls) → u.E cls none H) ∧ (u.XQ "<tables>" [] → u.T = tabsK K)
structure CS (K : PySem.W.Frag) (E : XK) (u : Wr) (G H : Hp) (as : List Addr) (M : Mem) (env : Env) (σ : L2.St) : Prop where
  eE : u.E = E
  xok : XOk K u
  sr : SR u G H as M
  er : ER K as G env σ
theorem CS.step {K : PySem.W.Frag} {E : XK} {u : Wr} {G H G' H' : Hp} {as as' : List Addr} {M M' : Mem} {env : Env} {σ : L2.St} (c : CS K E u G H as M env σ) (sr : SR u G' H' as' M') (l : Le G as G' as') : CS K E u G' H' as' M' env σ := ⟨c.eE, c.xok, sr, c.er.mono l⟩
def Fin (K : PySem.W.Frag) (u : Wr) (G : Hp) (as : List Addr) (Q : DK) (Qv : VK) : Prop := ∀ v G' H' as' M' s, SR u G' H' as' M' → Le G as G' as' → SRp K as' G' s v → Q s M' → Qv v H'
def OkE (K : PySem.W.Frag) (E : XK) (t : TE) (w : DW) : Prop := ∀ (u : Wr) (G H : Hp) (as : List Addr) (M : Mem) (env : Env) (σ : L2.St) (Q : DK) (Qv : VK), CS K E u G H as M env σ → w u.XQ env M Q → Fin K u G as Q Qv → t σ H Qv
def OkT (K : PySem.W.Frag) (E : XK) (t : TT) (w : DTW) : Prop := ∀ (u : Wr) (G H : Hp) (as : List Addr) (M : Mem) (env : Env) (σ : L2.St) (Q : Bool → Mem → Prop) (Qv : Bool → Hp → Prop), CS K E u G H as M env σ → w u.XQ env M Q →
  (∀ b G' H' as' M', SR u G' H' as' M' → Le G as G' as' → Q b M' → Qv b H') → t σ H Qv
inductive SRs (K : PySem.W.Frag) (as : List Addr) (G : Hp) : List S → List V → Prop where
  | nil : SRs K as G [] []
  | cons {s : S} {v : V} {ss : List S} {vs : List V} : SRp K as G s v → SRs K as G ss vs → SRs K as G (s :: ss) (v :: vs)
theorem SRs.mono {K : PySem.W.Frag} {G G' : Hp} {as as' : List Addr} (l : Le G as G' as') : ∀ {ss : List S} {vs : List V}, SRs K as G ss vs → SRs K as' G' ss vs
  | _, _, .nil => .nil
  | _, _, .cons h t => .cons (h.mono l) (SRs.mono l t)
def OkA (K : PySem.W.Frag) (E : XK) (t : TA) (w : DAW) : Prop := ∀ (u : Wr) (G H : Hp) (as : List Addr) (M : Mem) (env : Env) (σ : L2.St) (Q : List S → Mem → Prop) (Qv : List V → Hp → Prop), CS K E u G H as M env σ → w u.XQ env M Q →
  (∀ vs G' H' as' M' ss, SR u G' H' as' M' → Le G as G' as' → SRs K as' G' ss vs → Q ss M' → Qv vs H') → t σ H Qv
/-- a two-place operation by values -/
abbrev DF := S → S → Mem → DK → Prop
def OkR (K : PySem.W.Frag) (r : R2) (f : DF) : Prop := ∀ (u : Wr) (G H : Hp) (as : List Addr) (M : Mem) (x y : V) (sx sy : S) (Q : DK) (Qv : VK), SR u G H as M → SRp K as G sx x → SRp K as G sy y → f sx sy M Q → Fin K u G as Q Qv → r x y H Qv
abbrev DF1 := S → Mem → DK → Prop
def OkU (K : PySem.W.Frag) (r : V → Hp → VK → Prop) (f : DF1) : Prop := ∀ (u : Wr) (G H : Hp) (as : List Addr) (M : Mem) (x : V) (sx : S) (Q : DK) (Qv : VK), SR u G H as M → SRp K as G sx x → f sx M Q → Fin K u G as Q Qv → r x H Qv
abbrev DFC := List S → Mem → DK → Prop
def OkC (K : PySem.W.Frag) (r : List V → Hp → VK → Prop) (f : DFC) : Prop := ∀ (u : Wr) (G H : Hp) (as : List Addr) (M : Mem) (xs : List V) (ss : List S) (Q : DK) (Qv : VK), SR u G H as M → SRs K as G ss xs → f ss M Q → Fin K u G as Q Qv → r xs H Qv
theorem srp_int {K : PySem.W.Frag} {G : Hp} {as : List Addr} {i : Int} : SRp K as G (.d (.int i)) (.int i) := (rep_int (G := G)).mpr rfl
theorem srp_bl {K : PySem.W.Frag} {G : Hp} {as : List Addr} {i : Bool} : SRp K as G (.d (.bl i)) (.bl i) := (rep_bl (G := G)).mpr rfl
theorem srp_str {K : PySem.W.Frag} {G : Hp} {as : List Addr} {i : Str} : SRp K as G (.d (.str i)) (.str i) := (rep_str (G := G)).mpr rfl
theorem srp_non {K : PySem.W.Frag} {G : Hp} {as : List Addr} : SRp K as G (.d .non) .non := (rep_non (G := G)).mpr rfl
theorem SRp.d {K : PySem.W.Frag} {G : Hp} {as : List Addr} {d : D} {v : V} (h : SRp K as G (.d d) v) : Rep G d v := h
section
variable {K : PySem.W.Frag} {E : XK} {u : Wr} {G H : Hp} {as : List Addr} {M : Mem} {Q : DK} {Qv : VK}
theorem Fin.here (f : Fin K u G as Q Qv) (sr : SR u G H as M) {s : S} {v : V} (r : SRp K as G s v) (q : Q s M) : Qv v H := f v G H as M s sr (Le.refl G as) r q
theorem Fin.from {G1 : Hp} {as1 : List Addr} (f : Fin K u G as Q Qv) (l : Le G as G1 as1) : Fin K u G1 as1 Q Qv := fun v G' H' as' M' s sr l' r q => f v G' H' as' M' s sr (l.trans l') r q
/-- a new tuple, a new frozen list -/
theorem Fin.tup (f : Fin K u G as Q Qv) (sr : SR u G H as M) {ds : List D} {xs : List V} (r : Reps G ds xs) (q : Q (.d (.tup ds)) M) {p : Addr} (hp : H p = none) : Qv (.ref p) (upd H p (.tup xs)) :=
  f (.ref p) _ _ as M (.d (.tup ds)) (sr.laid hp) (sr.le_laid hp) (rep_tup.mpr ⟨p, xs, rfl, upd_same, r.mono (sr.le_laid (o := .tup xs) hp).ex⟩) q
theorem Fin.lst (f : Fin K u G as Q Qv) (sr : SR u G H as M) {ds : List D} {xs : List V} (r : Reps G ds xs) (q : Q (.d (.lst ds)) M) {p : Addr} (hp : H p = none) : Qv (.ref p) (upd H p (.lst xs)) :=
  f (.ref p) _ _ as M (.d (.lst ds)) (sr.laid hp) (sr.le_laid hp) (rep_lst.mpr ⟨p, xs, rfl, upd_same, r.mono (sr.le_laid (o := .lst xs) hp).ex⟩) q
/-- a new list of the def's own -/
theorem Fin.own (f : Fin K u G as Q Qv) (sr : SR u G H as M) {ds : List D} {xs : List V} (r : Reps G ds xs) (q : Q (.m M.length) (M ++ [.lst ds])) {p : Addr} (hp : H p = none) : Qv (.ref p) (upd H p (.lst xs)) :=
  f (.ref p) G _ (as ++ [p]) (M ++ [.lst ds]) (.m M.length) (sr.fresh (mo := .lst ds) hp ⟨sr.gnone hp, sr.bnone hp, xs, upd_same, r⟩) (Le.app G as [p]) ⟨p, by rw [← sr.len]; simp, rfl⟩ q
/-! ### names, constants -/
def wVar (i : Nat) : DW := fun _ env M Q => match env[i]? with
  | some (some s) => Q s M
  | _ => False
theorem okE_var (i : Nat) : OkE K E (tVar i) (wVar i) := by
  intro u G H as M env σ Q Qv c h f
  unfold wVar at h
  split at h
  · rename_i s e
    obtain ⟨v, e1, r⟩ := c.er.get i s e
    exact ⟨v, e1, f.here c.sr r h⟩
  · exact h.elim
def wC (d : D) : DW := fun _ _ M Q => Q (.d d) M
theorem okE_int (i : Int) : OkE K E (tC (.int i)) (wC (.int i)) := fun u G H as M env σ Q Qv c h f => f.here c.sr (s := .d (.int i)) srp_int h
theorem okE_bl (i : Bool) : OkE K E (tC (.bl i)) (wC (.bl i)) := fun u G H as M env σ Q Qv c h f => f.here c.sr (s := .d (.bl i)) srp_bl h
theorem okE_str (i : Str) : OkE K E (tC (.str i)) (wC (.str i)) := fun u G H as M env σ Q Qv c h f => f.here c.sr (s := .d (.str i)) srp_str h
theorem okE_non : OkE K E (tC .non) (wC .non) := fun u G H as M env σ Q Qv c h f => f.here c.sr (s := .d .non) srp_non h
/-! ### operations -/
def wOp (f : DF) (wa wb : DW) : DW := fun X env M Q => wa X env M fun x M1 => wb X env M1 fun y M2 => f x y M2 Q
theorem okE_op {r : R2} {f : DF} {ta tb : TE} {wa wb : DW} (ha : OkE K E ta wa) (hb : OkE K E tb wb) (hr : OkR K r f) : OkE K E (tOp r ta tb) (wOp f wa wb) := by
  intro u G H as M env σ Q Qv c h fin
  refine ha u G H as M env σ _ _ c h fun x G1 H1 as1 M1 sx sr1 l1 rx q1 => ?_
  refine hb u G1 H1 as1 M1 env σ _ _ (c.step sr1 l1) q1 fun y G2 H2 as2 M2 sy sr2 l2 ry q2 => ?_
  exact hr u G2 H2 as2 M2 x y sx sy Q Qv sr2 (rx.mono l2) ry q2 (fin.from (l1.trans l2))
def wUn (f : DF1) (wa : DW) : DW := fun X env M Q => wa X env M fun x M1 => f x M1 Q
theorem okE_un {r : V → Hp → VK → Prop} {f : DF1} {ta : TE} {wa : DW} (ha : OkE K E ta wa) (hr : OkU K r f) : OkE K E (tUn r ta) (wUn f wa) := by
  intro u G H as M env σ Q Qv c h fin
  refine ha u G H as M env σ _ _ c h fun x G1 H1 as1 M1 sx sr1 l1 rx q1 => ?_
  exact hr u G1 H1 as1 M1 x sx Q Qv sr1 rx q1 (fin.from l1)
def fAdd : DF
  | .d (.int i), .d (.int j), M, Q => Q (.d (.int (i + j))) M
  | .d (.tup a), .d (.tup b), M, Q => a.length + b.length ≤ 16000000 ∧ Q (.d (.tup (a ++ b))) M
  | .d (.lst a), .d (.lst b), M, Q => a.length + b.length ≤ 16000000 ∧ Q (.d (.lst (a ++ b))) M
  | _, _, _, _ => False
theorem line16 : 16000000 ≤ sizeLine := by rw [PySem.sizeLine_eq]; decide
def rAddD (K : PySem.W.Frag) : R2 := fun x y H Q => rI0 (fun i j => .int (i + j)) x y H Q ∨ (rCatA K x y H Q ∨ rCat x y H Q)
theorem opAdd {X : Cx} : OpR X (binaryOp .Add) (rAddD X.K) := op_add.or (op_catA.or op_cat)
theorem okR_add : OkR K (rAddD K) fAdd := by
  intro u G H as M x y sx sy Q Qv sr rx ry h fin
  unfold fAdd at h
  split at h
  · rename_i i j
    cases rep_int.mp rx.d
    cases rep_int.mp ry.d
    exact .inl ⟨i, j, rfl, rfl, fin.here sr (s := .d (.int (i + j))) srp_int h⟩
  · rename_i a b
    obtain ⟨p, xs, rfl, hp, hxs⟩ := rep_tup.mp rx.d
    obtain ⟨q, ys, rfl, hq, hys⟩ := rep_tup.mp ry.d
    refine .inr (.inl ⟨p, q, xs, ys, rfl, rfl, SqT.of (sr.gh _ _ hp), SqT.of (sr.gh _ _ hq), ?_, fun e => ?_, fun _ e => ?_, fun _ _ l hl => ?_⟩)
    · rw [hxs.len, hys.len]; exact Nat.le_trans h.1 line16
    · refine fin.here sr (s := .d (.tup (a ++ b))) (rep_tup.mpr ⟨q, ys, rfl, hq, ?_⟩) h.2
      have : a = [] := by have := hxs.len; rw [e] at this; exact List.length_eq_zero_iff.mp this.symm
      rw [this]; exact hys
    · refine fin.here sr (s := .d (.tup (a ++ b))) (rep_tup.mpr ⟨p, xs, rfl, hp, ?_⟩) h.2
      have : b = [] := by have := hys.len; rw [e] at this; exact List.length_eq_zero_iff.mp this.symm
      rw [this, List.append_nil]; exact hxs
    · exact fin.tup sr (hxs.append hys) h.2 hl
  · rename_i a b
    obtain ⟨p, xs, rfl, hp, hxs⟩ := rep_lst.mp rx.d
    obtain ⟨q, ys, rfl, hq, hys⟩ := rep_lst.mp ry.d
    refine .inr (.inr ⟨p, q, xs, ys, rfl, rfl, sr.gh _ _ hp, sr.gh _ _ hq, ?_, fun l hl => fin.lst sr (hxs.append hys) h.2 hl⟩)
    rw [hxs.len, hys.len]; exact Nat.le_trans h.1 line16
  · exact h.elim
/-- ints to an int -/
def fI (C : Int → Int → Prop) (g : Int → Int → Int) : DF
  | .d (.int i), .d (.int j), M, Q => C i j ∧ Q (.d (.int (g i j))) M
  | _, _, _, _ => False
theorem okR_I {C : Int → Int → Prop} {g : Int → Int → Int} : OkR K (rI C fun i j => .int (g i j)) (fI C g) := by
  intro u G H as M x y sx sy Q Qv sr rx ry h fin
  unfold fI at h
  split at h
  · rename_i i j
    cases rep_int.mp rx.d
    cases rep_int.mp ry.d
    exact ⟨i, j, rfl, rfl, h.1, fin.here sr (s := .d (.int (g i j))) srp_int h.2⟩
  · exact h.elim
def fSub : DF
  | .d (.int i), .d (.int j), M, Q => Q (.d (.int (i - j))) M
  | _, _, _, _ => False
theorem okR_sub : OkR K (rI0 fun i j => .int (i - j)) fSub := by
  intro u G H as M x y sx sy Q Qv sr rx ry h fin
  unfold fSub at h
  split at h
  · rename_i i j
    cases rep_int.mp rx.d
    cases rep_int.mp ry.d
    exact ⟨i, j, rfl, rfl, fin.here sr (s := .d (.int (i - j))) srp_int h⟩
  · exact h.elim
abbrev fMul : DF := fI CMul fun i j => i * j
abbrev fDiv : DF := fI CDiv fun i j => i / j
abbrev fMod : DF := fI (fun _ j => 0 < j) fun i j => i % j
abbrev fPow : DF := fI CPow fun i j => i ^ j.toNat
/-- ints to a bool -/
def fB (g : Int → Int → Bool) : DF
  | .d (.int i), .d (.int j), M, Q => Q (.d (.bl (g i j))) M
  | _, _, _, _ => False
theorem okR_B {g : Int → Int → Bool} : OkR K (rI0 fun i j => .bl (g i j)) (fB g) := by
  intro u G H as M x y sx sy Q Qv sr rx ry h fin
  unfold fB at h
  split at h
  · rename_i i j
    cases rep_int.mp rx.d
    cases rep_int.mp ry.d
    exact ⟨i, j, rfl, rfl, fin.here sr (s := .d (.bl (g i j))) srp_bl h⟩
  · exact h.elim
abbrev fLt : DF := fB fun i j => decide (i < j)
abbrev fLe : DF := fB fun i j => decide (i ≤ j)
abbrev fGt : DF := fB fun i j => decide (j < i)
abbrev fGe : DF := fB fun i j => decide (j ≤ i)
def fNeg : DF1
  | .d (.int i), M, Q => Q (.d (.int (-i))) M
  | _, _, _ => False
theorem okU_neg : OkU K (rU fun i => .int (-i)) fNeg := by
  intro u G H as M x sx Q Qv sr rx h fin
  unfold fNeg at h
  split at h
  · rename_i i
    cases rep_int.mp rx.d
    exact ⟨i, rfl, fin.here sr (s := .d (.int (-i))) srp_int h⟩
  · exact h.elim
/-! ### equality of data -/
mutual
def D.py : D → PyData
  | .non => .none
  | .bl b => .bool b
  | .int i => .int i
  | .str x => .str x
  | .tup ds => .tuple (pys ds)
  | .lst ds => .list (pys ds)
def pys : List D → List PyData
  | [] => []
  | d :: ds => d.py :: pys ds
end
mutual
/-- at most n deep, texts that may be laid -/
def Sh : Nat → D → Prop
  | _, .non => True
  | _, .bl _ => True
  | _, .int _ => True
  | _, .str x => PyData.canLay0 (.str x) = true
  | 0, .tup _ => False
  | 0, .lst _ => False
  | n + 1, .tup ds => Shs n ds
  | n + 1, .lst ds => Shs n ds
def Shs : Nat → List D → Prop
  | _, [] => True
  | n, d :: ds => Sh n d ∧ Shs n ds
end
mutual
theorem Sh.ok : ∀ {n : Nat} {d : D}, Sh n d → PyData.canLay0 d.py = true ∧ d.py.depth ≤ n
  | _, .non, _ => by simp [D.py, PyData.canLay0, PyData.depth]
  | _, .bl _, _ => by simp [D.py, PyData.canLay0, PyData.depth]
  | _, .int _, _ => by simp [D.py, PyData.canLay0, PyData.depth]
  | _, .str x, h => by
    unfold Sh at h
    exact ⟨by unfold D.py; exact h, by simp [D.py, PyData.depth]⟩
  | 0, .tup _, h => by simp [Sh] at h
  | 0, .lst _, h => by simp [Sh] at h
  | n + 1, .tup ds, h => by
    unfold Sh at h
    obtain ⟨h1, h2⟩ := Shs.ok h
    unfold D.py PyData.canLay0 PyData.depth
    exact ⟨h1, by omega⟩
  | n + 1, .lst ds, h => by
    unfold Sh at h
    obtain ⟨h1, h2⟩ := Shs.ok h
    unfold D.py PyData.canLay0 PyData.depth
    exact ⟨h1, by omega⟩
theorem Shs.ok : ∀ {n : Nat} {ds : List D}, Shs n ds → PyData.canLayAll0 (pys ds) = true ∧ PyData.depthAll (pys ds) ≤ n
  | _, [], _ => by simp [pys, PyData.canLayAll0, PyData.depthAll]
  | n, d :: ds, h => by
    unfold Shs at h
    obtain ⟨h1, h2⟩ := Sh.ok h.1
    obtain ⟨h3, h4⟩ := Shs.ok h.2
    unfold pys PyData.canLayAll0 PyData.depthAll
    exact ⟨by rw [h1, h3]; rfl, by omega⟩
end
mutual
theorem Rep.dp {G H : Hp} (e : Ex G H) : ∀ {d : D} {v : V}, Rep G d v → Dp K H v d.py
  | .non, v, h => by rw [rep_non.mp h]; unfold D.py; exact .non
  | .bl b, v, h => by rw [rep_bl.mp h]; unfold D.py; exact .bl b
  | .int i, v, h => by rw [rep_int.mp h]; unfold D.py; exact .int i
  | .str x, v, h => by rw [rep_str.mp h]; unfold D.py; exact .str x
  | .tup ds, v, h => by
    obtain ⟨a, xs, rfl, h1, h2⟩ := rep_tup.mp h
    unfold D.py
    exact .tup (SqT.of (e _ _ h1)) (Reps.dp e h2)
  | .lst ds, v, h => by
    obtain ⟨a, xs, rfl, h1, h2⟩ := rep_lst.mp h
    unfold D.py
    exact .lst (SqL.of (e _ _ h1)) (Reps.dp e h2)
theorem Reps.dp {G H : Hp} (e : Ex G H) : ∀ {ds : List D} {xs : List V}, Reps G ds xs → DpAll K H xs (pys ds)
  | [], xs, h => by rw [reps_nil.mp h]; unfold pys; exact .nil
  | d :: ds, xs, h => by
    obtain ⟨x, r, rfl, h1, h2⟩ := reps_cons.mp h
    unfold pys
    exact .cons (Rep.dp e h1) (Reps.dp e h2)
end
def eqD (a b : D) : Bool := PyData.eqv a.py b.py
theorem shaped_of {n : Nat} {d : D} (h : Sh n d) (hn : n ≤ 64) : SeqAt.shaped d.py = true := by
  unfold SeqAt.shaped
  rw [(Sh.ok h).1, decide_eq_true (Nat.le_trans (Sh.ok h).2 hn)]; rfl
def fEq : DF
  | .d a, .d b, M, Q => Sh 9 a ∧ Sh 9 b ∧ Q (.d (.bl (eqD a b))) M
  | _, _, _, _ => False
def fNe : DF
  | .d a, .d b, M, Q => Sh 9 a ∧ Sh 9 b ∧ Q (.d (.bl (!eqD a b))) M
  | _, _, _, _ => False
theorem okR_eq : OkR K (rEqD K) fEq := by
  intro u G H as M x y sx sy Q Qv sr rx ry h fin
  unfold fEq at h
  split at h
  · rename_i a b
    exact ⟨a.py, b.py, Rep.dp sr.gh rx, Rep.dp sr.gh ry, shaped_of h.1 (by decide), shaped_of h.2.1 (by decide), fin.here sr (s := .d (.bl (eqD a b))) srp_bl h.2.2⟩
  · exact h.elim
theorem okR_ne : OkR K (rNeD K) fNe := by
  intro u G H as M x y sx sy Q Qv sr rx ry h fin
  unfold fNe at h
  split at h
  · rename_i a b
    exact ⟨a.py, b.py, Rep.dp sr.gh rx, Rep.dp sr.gh ry, shaped_of h.1 (by decide), shaped_of h.2.1 (by decide), fin.here sr (s := .d (.bl (!eqD a b))) srp_bl h.2.2⟩
  · exact h.elim
/-- is None, is not None -/
def isNonD : S → Bool
  | .d .non => true
  | .v x => decide (x = V.non)
  | _ => false
theorem isNon_of {G : Hp} {as : List Addr} {s : S} {v : V} (r : SRp K as G s v) : decide (v = V.non) = isNonD s := by
  cases s with
  | d d =>
    cases d with
    | non => rw [rep_non.mp r.d]; rfl
    | bl b => rw [rep_bl.mp r.d]; rfl
    | int b => rw [rep_int.mp r.d]; rfl
    | str b => rw [rep_str.mp r.d]; rfl
    | tup b => obtain ⟨_, _, rfl, _⟩ := rep_tup.mp r.d; rfl
    | lst b => obtain ⟨_, _, rfl, _⟩ := rep_lst.mp r.d; rfl
  | m i => obtain ⟨a, _, rfl⟩ := r; rfl
  | ml i => obtain ⟨a, _, rfl, _⟩ := r; rfl
  | scr i => obtain ⟨a, rfl, _⟩ := r; rfl
  | dic i => obtain ⟨a, _, rfl, _⟩ := r; rfl
  | v x => cases (show _ = x from r); rfl
  | acc j => obtain ⟨_, a, _, _, _, rfl, _⟩ := r; rfl
def fIsN : DF
  | s, .d .non, M, Q => Q (.d (.bl (isNonD s))) M
  | _, _, _, _ => False
def fNotN : DF
  | s, .d .non, M, Q => Q (.d (.bl (!isNonD s))) M
  | _, _, _, _ => False
theorem okR_isN : OkR K (fun x y H Q => y = .non ∧ Q (.bl (decide (x = .non))) H) fIsN := by
  intro u G H as M x y sx sy Q Qv sr rx ry h fin
  unfold fIsN at h
  split at h
  · rename_i s0
    refine ⟨rep_non.mp ry.d, ?_⟩
    rw [isNon_of rx]
    exact fin.here sr (s := .d (.bl _)) srp_bl h
  · exact h.elim
theorem okR_notN : OkR K (fun x y H Q => y = .non ∧ Q (.bl (!decide (x = .non))) H) fNotN := by
  intro u G H as M x y sx sy Q Qv sr rx ry h fin
  unfold fNotN at h
  split at h
  · refine ⟨rep_non.mp ry.d, ?_⟩
    rw [isNon_of rx]
    exact fin.here sr (s := .d (.bl _)) srp_bl h
  · exact h.elim
/-- is of bools -/
def fIsB : DF
  | .d (.bl a), .d (.bl b), M, Q => Q (.d (.bl (decide (a = b)))) M
  | _, _, _, _ => False
theorem okR_isB : OkR K rIsB fIsB := by
  intro u G H as M x y sx sy Q Qv sr rx ry h fin
  unfold fIsB at h
  split at h
  · rename_i a b
    cases rep_bl.mp rx.d
    cases rep_bl.mp ry.d
    exact ⟨a, b, rfl, rfl, fin.here sr (s := .d (.bl _)) srp_bl h⟩
  · exact h.elim
def fNotB : DF
  | .d (.bl a), .d (.bl b), M, Q => Q (.d (.bl (!decide (a = b)))) M
  | _, _, _, _ => False
theorem okR_notB : OkR K rNotB fNotB := by
  intro u G H as M x y sx sy Q Qv sr rx ry h fin
  unfold fNotB at h
  split at h
  · rename_i a b
    cases rep_bl.mp rx.d
    cases rep_bl.mp ry.d
    exact ⟨a, b, rfl, rfl, fin.here sr (s := .d (.bl _)) srp_bl h⟩
  · exact h.elim
/-! ### items, slices -/
/-- an answer that may be lacking -/
def atQ {α : Type} : Option α → (α → Prop) → Prop
  | some a, k => k a
  | none, _ => False
theorem atQ_some {α : Type} {o : Option α} {a : α} {k : α → Prop} (h : o = some a) (q : k a) : atQ o k := by rw [h]; exact q
theorem atQ_get {α : Type} {o : Option α} {k : α → Prop} (h : atQ o k) : ∃ a, o = some a ∧ k a := by
  cases o with
  | none => exact h.elim
  | some a => exact ⟨a, rfl, h⟩
def fIx : DF
  | .d (.tup ds), .d (.int i), M, Q => atQ (atI ds i) fun d => Q (.d d) M
  | .d (.lst ds), .d (.int i), M, Q => atQ (atI ds i) fun d => Q (.d d) M
  | .m k, .d (.int i), M, Q => match M[k]? with
    | some (.lst ds) => atQ (atI ds i) fun d => Q (.d d) M
    | some (.ext ds) => atQ (atI ds i) fun d => Q (.d d) M
    | _ => False
  | _, _, _, _ => False
theorem reps_at {G : Hp} {ds : List D} {xs : List V} {i : Int} {d : D} (r : Reps G ds xs) (e : atI ds i = some d) : ∃ v, atI xs i = some v ∧ Rep G d v := by
  unfold atI at e ⊢
  rw [r.len]
  cases q : ixN ds.length i with
  | none => rw [q] at e; cases e
  | some j =>
    rw [q] at e
    exact r.get (show ds[j]? = some d from e)
def rIxD (K : PySem.W.Frag) : R2 := fun x y H Q => rIxL K x y H Q ∨ rIxT K x y H Q
theorem ixD {X : Cx} : IxR X (rIxD X.K) := ix_list.or ix_tup
theorem okR_ix : OkR K (rIxD K) fIx := by
  intro u G H as M x y sx sy Q Qv sr rx ry h fin
  unfold fIx at h
  split at h
  · rename_i ds i
    cases rep_int.mp ry.d
    obtain ⟨p, xs, rfl, hp, hxs⟩ := rep_tup.mp rx.d
    obtain ⟨d, e, h⟩ := atQ_get h
    obtain ⟨v, e1, r1⟩ := reps_at hxs e
    exact .inr ⟨p, xs, i, v, rfl, rfl, SqT.of (sr.gh _ _ hp), e1, fin.here sr (s := .d d) r1 h⟩
  · rename_i ds i
    cases rep_int.mp ry.d
    obtain ⟨p, xs, rfl, hp, hxs⟩ := rep_lst.mp rx.d
    obtain ⟨d, e, h⟩ := atQ_get h
    obtain ⟨v, e1, r1⟩ := reps_at hxs e
    exact .inl ⟨p, xs, i, v, rfl, rfl, SqL.of (sr.gh _ _ hp), e1, fin.here sr (s := .d d) r1 h⟩
  · rename_i k i
    cases rep_int.mp ry.d
    obtain ⟨p, hp, rfl⟩ := rx
    split at h
    · rename_i ds e
      obtain ⟨_, _, xs, hx, hxs⟩ := sr.ms k p _ hp e
      obtain ⟨d, e, h⟩ := atQ_get h
      obtain ⟨v, e1, r1⟩ := reps_at hxs e
      exact .inl ⟨p, xs, i, v, rfl, rfl, SqL.of hx, e1, fin.here sr (s := .d d) r1 h⟩
    · rename_i ds e
      obtain ⟨_, xs, hx, hxs⟩ := sr.ms k p _ hp e
      obtain ⟨d, e, h⟩ := atQ_get h
      obtain ⟨v, e1, r1⟩ := reps_at hxs e
      exact .inl ⟨p, xs, i, v, rfl, rfl, SqL.of hx, e1, fin.here sr (s := .d d) r1 h⟩
    · exact h.elim
  · exact h.elim
def cutG {α : Type} (xs : List α) (lo hi : Option Int) : List α := (xs.drop (HT.sIx xs.length 0 lo)).take (HT.sIx xs.length xs.length hi - HT.sIx xs.length 0 lo)
theorem reps_cut {G : Hp} {ds : List D} {xs : List V} (r : Reps G ds xs) (lo hi : Option Int) : Reps G (cutG ds lo hi) (cutV xs lo hi) := by
  unfold cutG cutV
  rw [r.len]
  exact (r.drop _).take _
abbrev DOW := XC → Env → Mem → (Option Int → Mem → Prop) → Prop
def OkO (K : PySem.W.Frag) (E : XK) (t : TO) (w : DOW) : Prop := ∀ (u : Wr) (G H : Hp) (as : List Addr) (M : Mem) (env : Env) (σ : L2.St) (Q : Option Int → Mem → Prop) (Qv : Option Int → Hp → Prop), CS K E u G H as M env σ → w u.XQ env M Q →
  (∀ o G' H' as' M', SR u G' H' as' M' → Le G as G' as' → Q o M' → Qv o H') → t σ H Qv
def wNo : DOW := fun _ _ M Q => Q none M
def wSome (w : DW) : DOW := fun X env M Q => w X env M fun s M1 => match s with
  | .d (.int i) => Q (some i) M1
  | _ => False
def fSl : S → Option Int → Option Int → Mem → DK → Prop
  | .d (.tup ds), lo, hi, M, Q => Q (.d (.tup (cutG ds lo hi))) M
  | .d (.lst ds), lo, hi, M, Q => Q (.d (.lst (cutG ds lo hi))) M
  | .scr ns, lo, hi, M, Q => Q (.d (.lst ((cutG ns lo hi).map D.int))) M
  | .m k, lo, hi, M, Q => match M[k]? with
    | some (.lst ds) => Q (.d (.lst (cutG ds lo hi))) M
    | _ => False
  | _, _, _, _, _ => False
def wSl (we : DW) (wl wh : DOW) : DW := fun X env M Q => we X env M fun s M1 => wl X env M1 fun lo M2 => wh X env M2 fun hi M3 => fSl s lo hi M3 Q
def rSlD (K : PySem.W.Frag) : V → Option Int → Option Int → Hp → VK → Prop := fun x lo hi H Q => rSlA K x lo hi H Q ∨ rSlL K x lo hi H Q
theorem slD {X : Cx} : SlR X (rSlD X.K) := sl_tupA.or sl_list
theorem cutV_int (ns : List Int) (lo hi : Option Int) : cutV (ns.map V.int) lo hi = (cutG ns lo hi).map V.int := by
  unfold cutV cutG
  rw [List.length_map, List.map_take, List.map_drop]
theorem okSl {s : S} {x : V} {lo hi : Option Int} (sr : SR u G H as M) (rx : SRp K as G s x) (h : fSl s lo hi M Q) (fin : Fin K u G as Q Qv) : rSlD K x lo hi H Qv := by
  unfold fSl at h
  split at h
  · rename_i ds
    obtain ⟨p, xs, rfl, hp, hxs⟩ := rep_tup.mp rx.d
    refine .inl ⟨p, xs, rfl, SqT.of (sr.gh _ _ hp), fun e => ?_, fun _ l hl => fin.tup sr (reps_cut hxs lo hi) h hl⟩
    refine fin.here sr (s := .d (.tup (cutG ds lo hi))) (rep_tup.mpr ⟨p, xs, rfl, hp, ?_⟩) h
    have e2 : cutV xs lo hi = xs := by unfold cutV; rw [e.1, e.2]; simp
    have := reps_cut hxs lo hi
    rw [e2] at this
    exact this
  · rename_i ds
    obtain ⟨p, xs, rfl, hp, hxs⟩ := rep_lst.mp rx.d
    exact .inr ⟨p, xs, rfl, SqL.of (sr.gh _ _ hp), fun l hl => fin.lst sr (reps_cut hxs lo hi) h hl⟩
  · rename_i ns
    obtain ⟨p, rfl, hp⟩ := rx
    refine .inr ⟨p, _, rfl, ex_l sr.gh hp, fun l hl => ?_⟩
    rw [cutV_int]
    exact fin.lst sr (reps_ints.mpr rfl) h hl
  · rename_i k
    obtain ⟨p, hp, rfl⟩ := rx
    split at h
    · rename_i ds e
      obtain ⟨_, _, xs, hx, hxs⟩ := sr.ms k p _ hp e
      exact .inr ⟨p, xs, rfl, SqL.of hx, fun l hl => fin.lst sr (reps_cut hxs lo hi) h hl⟩
    · exact h.elim
  · exact h.elim
/-- xs[::-1], a list -/
def fRev : DF1
  | .d (.lst ds), M, Q => Q (.d (.lst ds.reverse)) M
  | _, _, _ => False
theorem okE_rev {te : TE} {we : DW} (he : OkE K E te we) : OkE K E (tRevL K te) (wUn fRev we) := by
  intro u G H as M env σ Q Qv c h fin
  refine he u G H as M env σ _ _ c h fun x G1 H1 as1 M1 sx sr1 l1 rx q1 => ?_
  unfold fRev at q1
  split at q1
  · rename_i ds
    obtain ⟨p, xs, rfl, hp, hxs⟩ := rep_lst.mp rx.d
    exact ⟨p, xs, rfl, SqL.of (sr1.gh _ _ hp), fun l hl => (fin.from l1).lst sr1 hxs.reverse q1 hl⟩
  · exact q1.elim
/-! ### argument lists, displays -/
def wNil : DAW := fun _ _ M Q => Q [] M
def wCons (w : DW) (wr : DAW) : DAW := fun X env M Q => w X env M fun s M1 => wr X env M1 fun ss M2 => Q (s :: ss) M2
theorem okA_nil : OkA K E tNil wNil := fun u G H as M env σ Q Qv c h f => f [] G H as M [] c.sr (Le.refl G as) .nil h
theorem okA_cons {te : TE} {tr : TA} {w : DW} {wr : DAW} (h1 : OkE K E te w) (h2 : OkA K E tr wr) : OkA K E (tCons te tr) (wCons w wr) := by
  intro u G H as M env σ Q Qv c h fin
  refine h1 u G H as M env σ _ _ c h fun x G1 H1 as1 M1 s sr1 l1 rx q1 => ?_
  refine h2 u G1 H1 as1 M1 env σ _ _ (c.step sr1 l1) q1 fun vs G2 H2 as2 M2 ss sr2 l2 rs q2 => ?_
  exact fin (x :: vs) G2 H2 as2 M2 (s :: ss) sr2 (l1.trans l2) (.cons (rx.mono l2) rs) q2
/-- all are data -/
def datas : List S → Option (List D)
  | [] => some []
  | .d d :: r => match datas r with
    | some ds => some (d :: ds)
    | none => none
  | _ :: _ => none
theorem datas_reps : ∀ {ss : List S} {ds : List D} {vs : List V}, datas ss = some ds → SRs K as G ss vs → Reps G ds vs
  | [], ds, vs, e, h => by
    cases e
    cases h
    exact reps_nil.mpr rfl
  | .d d :: r, ds, vs, e, h => by
    unfold datas at e
    cases h with
    | cons h1 h2 =>
      split at e
      · rename_i ds' e'
        cases e
        exact reps_cons.mpr ⟨_, _, rfl, h1, datas_reps e' h2⟩
      · cases e
  | .m i :: r, ds, vs, e, h => by cases e
  | .ml i :: r, ds, vs, e, h => by cases e
  | .scr i :: r, ds, vs, e, h => by cases e
  | .dic i :: r, ds, vs, e, h => by cases e
  | .v i :: r, ds, vs, e, h => by cases e
  | .acc i :: r, ds, vs, e, h => by cases e
theorem SRs.len : ∀ {ss : List S} {vs : List V}, SRs K as G ss vs → vs.length = ss.length
  | _, _, .nil => rfl
  | _, _, .cons _ t => by simp [SRs.len t]
def wTup (wa : DAW) : DW := fun X env M Q => wa X env M fun ss M1 => match datas ss with
  | some ds => Nat.ble ss.length 1000 = true ∧ Q (.d (.tup ds)) M1
  | none => False
def wLst (wa : DAW) : DW := fun X env M Q => wa X env M fun ss M1 => match datas ss with
  | some ds => Nat.ble ss.length 1000 = true ∧ Q (.d (.lst ds)) M1
  | none => False
/-- a list display that stays the def's own -/
def wLstO (wa : DAW) : DW := fun X env M Q => wa X env M fun ss M1 => match datas ss with
  | some ds => Nat.ble ss.length 1000 = true ∧ Q (.m M1.length) (M1 ++ [.lst ds])
  | none => False
theorem line1000 : 1000 ≤ sizeLine := by rw [PySem.sizeLine_eq]; decide
theorem okE_tup {ta : TA} {wa : DAW} (ha : OkA K E ta wa) : OkE K E (tTup ta) (wTup wa) := by
  intro u G H as M env σ Q Qv c h fin
  refine ha u G H as M env σ _ _ c h fun vs G1 H1 as1 M1 ss sr1 l1 rs q1 => ?_
  revert q1
  show (match datas ss with | some ds => Nat.ble ss.length 1000 = true ∧ Q (.d (.tup ds)) M1 | none => False) → _
  split
  · rename_i ds e
    intro q1
    exact ⟨by rw [rs.len]; exact Nat.le_trans (Nat.le_of_ble_eq_true q1.1) line1000, fun p hp => (fin.from l1).tup sr1 (datas_reps e rs) q1.2 hp⟩
  · exact False.elim
theorem okE_lst {ta : TA} {wa : DAW} (ha : OkA K E ta wa) : OkE K E (tLst ta) (wLst wa) := by
  intro u G H as M env σ Q Qv c h fin
  refine ha u G H as M env σ _ _ c h fun vs G1 H1 as1 M1 ss sr1 l1 rs q1 => ?_
  revert q1
  show (match datas ss with | some ds => Nat.ble ss.length 1000 = true ∧ Q (.d (.lst ds)) M1 | none => False) → _
  split
  · rename_i ds e
    intro q1
    exact ⟨by rw [rs.len]; exact Nat.le_trans (Nat.le_of_ble_eq_true q1.1) line1000, fun p hp => (fin.from l1).lst sr1 (datas_reps e rs) q1.2 hp⟩
  · exact False.elim
theorem okE_lstO {ta : TA} {wa : DAW} (ha : OkA K E ta wa) : OkE K E (tLst ta) (wLstO wa) := by
  intro u G H as M env σ Q Qv c h fin
  refine ha u G H as M env σ _ _ c h fun vs G1 H1 as1 M1 ss sr1 l1 rs q1 => ?_
  revert q1
  show (match datas ss with | some ds => Nat.ble ss.length 1000 = true ∧ Q (.m M1.length) (M1 ++ [.lst ds]) | none => False) → _
  split
  · rename_i ds e
    intro q1
    exact ⟨by rw [rs.len]; exact Nat.le_trans (Nat.le_of_ble_eq_true q1.1) line1000, fun p hp => (fin.from l1).own sr1 (datas_reps e rs) q1.2 hp⟩
  · exact False.elim
end
end R
/-! Layer R, part 3: tests, calls, a def's promise. -/
namespace R
open PySem L2 Evl
section
variable {K : PySem.W.Frag} {E : XK}
/-! ### tests -/
def wTst (w : DW) : DTW := fun X env M Q => w X env M fun s M1 => match s with
  | .d (.bl b) => Q b M1
  | _ => False
theorem okT_tst {t : TE} {w : DW} (h : OkE K E t w) : OkT K E (tTest t) (wTst w) := by
  intro u G H as M env σ Q Qv c hw fin
  refine h u G H as M env σ _ _ c hw fun x G1 H1 as1 M1 s sr1 l1 rx q1 => ?_
  split at q1
  · rename_i b
    exact ⟨b, rep_bl.mp rx.d, fin b G1 H1 as1 M1 sr1 l1 q1⟩
  · exact q1.elim
theorem okT_B {t : TE} {w : DW} (h : OkE K E t w) : OkT K E (tB t) (wTst w) := by
  intro u G H as M env σ Q Qv c hw fin
  refine h u G H as M env σ _ _ c hw fun x G1 H1 as1 M1 s sr1 l1 rx q1 => ?_
  split at q1
  · rename_i b
    exact ⟨b, rep_bl.mp rx.d, fin b G1 H1 as1 M1 sr1 l1 q1⟩
  · exact q1.elim
def wAndT (a b : DTW) : DTW := fun X env M Q => a X env M fun c M1 => if c = true then b X env M1 Q else Q false M1
def wOrT (a b : DTW) : DTW := fun X env M Q => a X env M fun c M1 => if c = true then Q true M1 else b X env M1 Q
def wNotT (a : DTW) : DTW := fun X env M Q => a X env M fun c M1 => Q (!c) M1
theorem okT_and {ta tb : TT} {a b : DTW} (ha : OkT K E ta a) (hb : OkT K E tb b) : OkT K E (tAnd ta tb) (wAndT a b) := by
  intro u G H as M env σ Q Qv c hw fin
  refine ha u G H as M env σ _ _ c hw fun k G1 H1 as1 M1 sr1 l1 q1 => ?_
  cases k with
  | true =>
    show (if true = true then tb σ H1 Qv else Qv false H1)
    rw [if_pos rfl]
    rw [if_pos rfl] at q1
    exact hb u G1 H1 as1 M1 env σ Q Qv (c.step sr1 l1) q1 fun b G2 H2 as2 M2 sr2 l2 q2 => fin b G2 H2 as2 M2 sr2 (l1.trans l2) q2
  | false =>
    show (if false = true then tb σ H1 Qv else Qv false H1)
    rw [if_neg (by decide)]
    rw [if_neg (by decide)] at q1
    exact fin false G1 H1 as1 M1 sr1 l1 q1
theorem okT_or {ta tb : TT} {a b : DTW} (ha : OkT K E ta a) (hb : OkT K E tb b) : OkT K E (tOr ta tb) (wOrT a b) := by
  intro u G H as M env σ Q Qv c hw fin
  refine ha u G H as M env σ _ _ c hw fun k G1 H1 as1 M1 sr1 l1 q1 => ?_
  cases k with
  | true =>
    show (if true = true then Qv true H1 else tb σ H1 Qv)
    rw [if_pos rfl]
    rw [if_pos rfl] at q1
    exact fin true G1 H1 as1 M1 sr1 l1 q1
  | false =>
    show (if false = true then Qv true H1 else tb σ H1 Qv)
    rw [if_neg (by decide)]
    rw [if_neg (by decide)] at q1
    exact hb u G1 H1 as1 M1 env σ Q Qv (c.step sr1 l1) q1 fun b G2 H2 as2 M2 sr2 l2 q2 => fin b G2 H2 as2 M2 sr2 (l1.trans l2) q2
theorem okT_not {ta : TT} {a : DTW} (ha : OkT K E ta a) : OkT K E (tNot ta) (wNotT a) := fun u G H as M env σ Q Qv c hw fin =>
  ha u G H as M env σ _ _ c hw fun k G1 H1 as1 M1 sr1 l1 q1 => fin (!k) G1 H1 as1 M1 sr1 l1 q1
/-! ### and, or, not, if as values -/
def wAndV (a b : DW) : DW := fun X env M Q => a X env M fun s M1 => match s with
  | .d (.bl k) => if k = true then b X env M1 Q else Q (.d (.bl false)) M1
  | _ => False
def wOrV (a b : DW) : DW := fun X env M Q => a X env M fun s M1 => match s with
  | .d (.bl k) => if k = true then Q (.d (.bl true)) M1 else b X env M1 Q
  | _ => False
def wNotV (a : DW) : DW := fun X env M Q => a X env M fun s M1 => match s with
  | .d (.bl k) => Q (.d (.bl (!k))) M1
  | _ => False
theorem okE_and {ta tb : TE} {a b : DW} (ha : OkE K E ta a) (hb : OkE K E tb b) : OkE K E (tAndV ta tb) (wAndV a b) := by
  intro u G H as M env σ Q Qv c hw fin
  refine ha u G H as M env σ _ _ c hw fun x G1 H1 as1 M1 s sr1 l1 rx q1 => ?_
  split at q1
  · rename_i k
    refine ⟨k, rep_bl.mp rx.d, ?_⟩
    cases k with
    | true =>
      rw [if_pos rfl] at q1 ⊢
      exact hb u G1 H1 as1 M1 env σ Q Qv (c.step sr1 l1) q1 (fin.from l1)
    | false =>
      rw [if_neg (by decide)] at q1 ⊢
      exact (fin.from l1).here sr1 (s := .d (.bl false)) srp_bl q1
  · exact q1.elim
theorem okE_or {ta tb : TE} {a b : DW} (ha : OkE K E ta a) (hb : OkE K E tb b) : OkE K E (tOrV ta tb) (wOrV a b) := by
  intro u G H as M env σ Q Qv c hw fin
  refine ha u G H as M env σ _ _ c hw fun x G1 H1 as1 M1 s sr1 l1 rx q1 => ?_
  split at q1
  · rename_i k
    refine ⟨k, rep_bl.mp rx.d, ?_⟩
    cases k with
    | true =>
      rw [if_pos rfl] at q1 ⊢
      exact (fin.from l1).here sr1 (s := .d (.bl true)) srp_bl q1
    | false =>
      rw [if_neg (by decide)] at q1 ⊢
      exact hb u G1 H1 as1 M1 env σ Q Qv (c.step sr1 l1) q1 (fin.from l1)
  · exact q1.elim
theorem okE_not {ta : TE} {a : DW} (ha : OkE K E ta a) : OkE K E (tNotV ta) (wNotV a) := by
  intro u G H as M env σ Q Qv c hw fin
  refine ha u G H as M env σ _ _ c hw fun x G1 H1 as1 M1 s sr1 l1 rx q1 => ?_
  split at q1
  · rename_i k
    exact ⟨k, rep_bl.mp rx.d, (fin.from l1).here sr1 (s := .d (.bl (!k))) srp_bl q1⟩
  · exact q1.elim
def wIf (t : DTW) (a b : DW) : DW := fun X env M Q => t X env M fun k M1 => if k = true then a X env M1 Q else b X env M1 Q
theorem okE_if {tt : TT} {ta tb : TE} {t : DTW} {a b : DW} (ht : OkT K E tt t) (ha : OkE K E ta a) (hb : OkE K E tb b) : OkE K E (tIf tt ta tb) (wIf t a b) := by
  intro u G H as M env σ Q Qv c hw fin
  refine ht u G H as M env σ _ _ c hw fun k G1 H1 as1 M1 sr1 l1 q1 => ?_
  cases k with
  | true =>
    show (if true = true then ta σ H1 Qv else tb σ H1 Qv)
    rw [if_pos rfl] at q1 ⊢
    exact ha u G1 H1 as1 M1 env σ Q Qv (c.step sr1 l1) q1 (fin.from l1)
  | false =>
    show (if false = true then ta σ H1 Qv else tb σ H1 Qv)
    rw [if_neg (by decide)] at q1 ⊢
    exact hb u G1 H1 as1 M1 env σ Q Qv (c.step sr1 l1) q1 (fin.from l1)
def wChain (f f' : DF) (a b c' : DW) : DW := fun X env M Q => a X env M fun x M1 => b X env M1 fun y M2 => f x y M2 fun z M3 => match z with
  | .d (.bl k) => if k = true then c' X env M3 fun w M4 => f' y w M4 Q else Q (.d (.bl false)) M3
  | _ => False
theorem okE_chain {r r' : R2} {f f' : DF} {ta tb tc : TE} {a b c' : DW} (hr : OkR K r f) (hr' : OkR K r' f') (ha : OkE K E ta a) (hb : OkE K E tb b) (hc : OkE K E tc c') : OkE K E (tChain r r' ta tb tc) (wChain f f' a b c') := by
  intro u G H as M env σ Q Qv c hw fin
  refine ha u G H as M env σ _ _ c hw fun x G1 H1 as1 M1 sx sr1 l1 rx q1 => ?_
  refine hb u G1 H1 as1 M1 env σ _ _ (c.step sr1 l1) q1 fun y G2 H2 as2 M2 sy sr2 l2 ry q2 => ?_
  refine hr u G2 H2 as2 M2 x y sx sy _ _ sr2 (rx.mono l2) ry q2 fun z G3 H3 as3 M3 sz sr3 l3 rz q3 => ?_
  have l13 := (l1.trans l2).trans l3
  split at q3
  · rename_i k
    refine ⟨k, rep_bl.mp rz.d, ?_⟩
    cases k with
    | true =>
      rw [if_pos rfl] at q3 ⊢
      refine hc u G3 H3 as3 M3 env σ _ _ (c.step sr3 l13) q3 fun w G4 H4 as4 M4 sw sr4 l4 rw_ q4 => ?_
      exact hr' u G4 H4 as4 M4 y w sy sw Q Qv sr4 (ry.mono (l3.trans l4)) rw_ q4 (fin.from (l13.trans l4))
    | false =>
      rw [if_neg (by decide)] at q3 ⊢
      exact (fin.from l13).here sr3 (s := .d (.bl false)) srp_bl q3
  · exact q3.elim
/-! ### a def's promise over data -/
inductive AD where
  | d (d : D) | mo (o : MO) | scr (ns : List Int) | acc (ds : List D)
abbrev DSpec := List AD → DK → Prop
def wrX (T : List (Addr × Str)) (G H : Hp) (bs : List Addr) (E : XK) (X : XC) : Wr := { B := H, W := fun a => a ∈ bs ∨ a ∈ T.map (·.1), G0 := G, as0 := bs, E := E, XQ := X, hid := fun _ => none, T := T }
def wr0 (G H : Hp) (bs : List Addr) : Wr := wrX [] G H bs (fun _ _ _ => False) (fun _ _ => False)
theorem SR.reX {T : List (Addr × Str)} {G0 H0 G H : Hp} {bs as : List Addr} {M : Mem} {E E' : XK} {X X' : XC} (sr : SR (wrX T G0 H0 bs E X) G H as M) : SR (wrX T G0 H0 bs E' X') G H as M :=
  ⟨sr.gh, sr.g0, sr.nd, sr.len, fun k a o h1 h2 => (by have z := sr.ms k a o h1 h2; cases o <;> exact z), sr.there, sr.fr, sr.th, sr.nf, sr.wr, sr.pre, sr.hd, sr.tb⟩
def ArgsR (K : PySem.W.Frag) (G H : Hp) : List AD → List V → List Addr → Prop
  | [], vs, bs => vs = [] ∧ bs = []
  | .d d :: r, vs, bs => ∃ v vs', vs = v :: vs' ∧ Rep G d v ∧ ArgsR K G H r vs' bs
  | .mo o :: r, vs, bs => ∃ a vs' bs', vs = .ref a :: vs' ∧ bs = a :: bs' ∧ (∀ u : Wr, MR u G H o a) ∧ ArgsR K G H r vs' bs'
  | .scr ns :: r, vs, bs => ∃ p vs', vs = .ref p :: vs' ∧ SqL K G p (ns.map V.int) ∧ ArgsR K G H r vs' bs
  | .acc ds :: r, vs, bs => ∃ C a dx l vs' bs', PySem.W.nsIn K mainGlobals "Account" = some (some (.ref C)) ∧ vs = .ref a :: vs' ∧ bs = l :: bs' ∧ G a = some (.ins C dx [("states", .ref l)]) ∧ (∀ u : Wr, MR u G H (.ext ds) l) ∧ ArgsR K G H r vs' bs'
def spOf (K : PySem.W.Frag) (sp : DSpec) : Sp := fun vs H Qv _ => ∃ (G : Hp) (ads : List AD) (bs : List Addr) (Q : DK), Ex G H ∧ bs.Nodup ∧ (∀ a ∈ bs, H a ≠ none) ∧ ArgsR K G H ads vs bs ∧ sp ads Q ∧
  ∀ s M' v G' H' cs, Q s M' → SR (wr0 G H bs) G' H' cs M' → Le G bs G' cs → SRp K cs G' s v → Qv v H'
def adsEnv : List AD → Nat → Env
  | [], _ => []
  | .d d :: r, n => some (.d d) :: adsEnv r n
  | .mo _ :: r, n => some (.m n) :: adsEnv r (n + 1)
  | .scr ns :: r, n => some (.scr ns) :: adsEnv r n
  | .acc _ :: r, n => some (.acc n) :: adsEnv r (n + 1)
def adsMem : List AD → Mem
  | [] => []
  | .d _ :: r => adsMem r
  | .mo o :: r => o :: adsMem r
  | .scr _ :: r => adsMem r
  | .acc ds :: r => .ext ds :: adsMem r
theorem ArgsR.len {G H : Hp} : ∀ {ads : List AD} {vs : List V} {bs : List Addr}, ArgsR K G H ads vs bs → vs.length = ads.length ∧ bs.length = (adsMem ads).length
  | [], _, _, h => by obtain ⟨rfl, rfl⟩ := h; exact ⟨rfl, rfl⟩
  | .d d :: r, _, _, h => by
    obtain ⟨v, vs', rfl, _, h2⟩ := h
    exact ⟨by simp [(ArgsR.len h2).1], by unfold adsMem; exact (ArgsR.len h2).2⟩
  | .mo o :: r, _, _, h => by
    obtain ⟨a, vs', bs', rfl, rfl, _, h2⟩ := h
    exact ⟨by simp [(ArgsR.len h2).1], by unfold adsMem; simp [(ArgsR.len h2).2]⟩
  | .scr ns :: r, _, _, h => by
    obtain ⟨v, vs', rfl, _, h2⟩ := h
    exact ⟨by simp [(ArgsR.len h2).1], by unfold adsMem; exact (ArgsR.len h2).2⟩
  | .acc ds :: r, _, _, h => by
    obtain ⟨C, a, dx, l, vs', bs', _, rfl, rfl, _, _, h2⟩ := h
    exact ⟨by simp [(ArgsR.len h2).1], by unfold adsMem; simp [(ArgsR.len h2).2]⟩
theorem ArgsR.mem {G H : Hp} {u : Wr} : ∀ {ads : List AD} {vs : List V} {bs : List Addr} {i : Nat} {a : Addr} {o : MO}, ArgsR K G H ads vs bs → bs[i]? = some a → (adsMem ads)[i]? = some o → MR u G H o a
  | [], _, _, i, a, o, h, e, _ => by obtain ⟨_, rfl⟩ := h; simp at e
  | .d d :: r, _, _, i, a, o, h, e, e2 => by
    obtain ⟨v, vs', _, _, h2⟩ := h
    unfold adsMem at e2
    exact ArgsR.mem h2 e e2
  | .mo o' :: r, _, _, i, a, o, h, e, e2 => by
    obtain ⟨a', vs', bs', _, rfl, h1, h2⟩ := h
    unfold adsMem at e2
    cases i with
    | zero => simp at e e2; subst e e2; exact h1 u
    | succ n => exact ArgsR.mem h2 (by simpa using e) (by simpa using e2)
  | .scr ns :: r, _, _, i, a, o, h, e, e2 => by
    obtain ⟨v, vs', _, _, h2⟩ := h
    unfold adsMem at e2
    exact ArgsR.mem h2 e e2
  | .acc ds :: r, _, _, i, a, o, h, e, e2 => by
    obtain ⟨C, a', dx, l, vs', bs', _, _, rfl, _, h1, h2⟩ := h
    unfold adsMem at e2
    cases i with
    | zero => simp at e e2; subst e e2; exact h1 u
    | succ n => exact ArgsR.mem h2 (by simpa using e) (by simpa using e2)
theorem adsEnv_len : ∀ (ads : List AD) (n : Nat), (adsEnv ads n).length = ads.length
  | [], _ => rfl
  | .d _ :: r, n => by unfold adsEnv; simp [adsEnv_len r n]
  | .mo _ :: r, n => by unfold adsEnv; simp [adsEnv_len r (n + 1)]
  | .scr _ :: r, n => by unfold adsEnv; simp [adsEnv_len r n]
  | .acc _ :: r, n => by unfold adsEnv; simp [adsEnv_len r (n + 1)]
theorem ArgsR.env {G H : Hp} : ∀ {ads : List AD} {vs : List V} {bs pre : List Addr} {n i : Nat} {s : S}, ArgsR K G H ads vs bs → pre.length = n → (adsEnv ads n)[i]? = some (some s) → ∃ v, vs[i]? = some v ∧ SRp K (pre ++ bs) G s v
  | [], _, _, _, _, i, s, h, _, e => by simp [adsEnv] at e
  | .d d :: r, _, bs, pre, n, i, s, h, hp, e => by
    obtain ⟨v, vs', rfl, h1, h2⟩ := h
    unfold adsEnv at e
    cases i with
    | zero => simp at e; subst e; exact ⟨v, by simp, h1⟩
    | succ j =>
      obtain ⟨w, e1, h3⟩ := ArgsR.env h2 hp (by simpa using e)
      exact ⟨w, by simpa using e1, h3⟩
  | .mo o :: r, _, _, pre, n, i, s, h, hp, e => by
    obtain ⟨a, vs', bs', rfl, rfl, _, h2⟩ := h
    unfold adsEnv at e
    cases i with
    | zero =>
      simp at e; subst e
      exact ⟨.ref a, by simp, a, by rw [List.getElem?_append_right (by omega)]; simp [hp], rfl⟩
    | succ j =>
      obtain ⟨w, e1, h3⟩ := ArgsR.env (pre := pre ++ [a]) (n := n + 1) h2 (by simp [hp]) (by simpa using e)
      exact ⟨w, by simpa using e1, by rw [List.append_assoc] at h3; exact h3⟩
  | .scr ns :: r, _, bs, pre, n, i, s, h, hp, e => by
    obtain ⟨p, vs', rfl, h1, h2⟩ := h
    unfold adsEnv at e
    cases i with
    | zero => simp at e; subst e; exact ⟨.ref p, by simp, p, rfl, h1⟩
    | succ j =>
      obtain ⟨w, e1, h3⟩ := ArgsR.env h2 hp (by simpa using e)
      exact ⟨w, by simpa using e1, h3⟩
  | .acc ds :: r, _, _, pre, n, i, s, h, hp, e => by
    obtain ⟨C, a, dx, l, vs', bs', hC, rfl, rfl, hG, _, h2⟩ := h
    unfold adsEnv at e
    cases i with
    | zero =>
      simp at e; subst e
      exact ⟨.ref a, by simp, C, a, dx, l, hC, rfl, hG, by rw [List.getElem?_append_right (by omega)]; simp [hp]⟩
    | succ j =>
      obtain ⟨w, e1, h3⟩ := ArgsR.env (pre := pre ++ [l]) (n := n + 1) h2 (by simp [hp]) (by simpa using e)
      exact ⟨w, by simpa using e1, by rw [List.append_assoc] at h3; exact h3⟩
theorem start_srX {T : List (Addr × Str)} {G H : Hp} {ads : List AD} {vs : List V} {bs : List Addr} {E : XK} {X : XC} (e : Ex G H) (nd : bs.Nodup) (th : ∀ a ∈ bs, H a ≠ none) (h : ArgsR K G H ads vs bs) (ht : ∀ p ∈ T, TabG G H p ∧ p.1 ∉ bs) : SR (wrX T G H bs E X) G H bs (adsMem ads) :=
  ⟨e, Ex.refl G, nd, h.len.2, fun i a o h1 h2 => h.mem h1 h2, th, fun a o h1 _ => h1, fun a h1 => h1, fun a _ h2 => h2, fun a h1 => .inr (.inl h1), ⟨[], by simp [wrX]⟩, fun a o h1 => (by cases h1), fun p hp => ⟨(ht p hp).1, (ht p hp).2, .inr (.inr (List.mem_map.mpr ⟨p, hp, rfl⟩)), rfl⟩⟩
theorem start_sr {G H : Hp} {ads : List AD} {vs : List V} {bs : List Addr} (e : Ex G H) (nd : bs.Nodup) (th : ∀ a ∈ bs, H a ≠ none) (h : ArgsR K G H ads vs bs) : SR (wr0 G H bs) G H bs (adsMem ads) := start_srX e nd th h fun p hp => by cases hp
def envStart (ads : List AD) (n : Nat) : Env := adsEnv ads 0 ++ List.replicate n none
theorem start_er {G H : Hp} {ads : List AD} {vs : List V} {bs : List Addr} {N ps : List Str} {n : Nat} (h : ArgsR K G H ads vs bs) (hl : ads.length = ps.length) (hn : N.length = ps.length + n) : ER K bs G (envStart ads n) (L2.start N vs) := by
  have h1 := h.len.1
  refine ⟨by unfold envStart L2.start; simp [adsEnv_len]; omega, fun i s e => ?_⟩
  unfold envStart at e
  by_cases hi : i < (adsEnv ads 0).length
  · rw [List.getElem?_append_left hi] at e
    obtain ⟨v, e1, r⟩ := h.env (pre := []) (n := 0) rfl e
    refine ⟨v, ?_, by simpa using r⟩
    unfold L2.start
    rw [List.getElem?_append_left (by rw [List.length_map]; exact (List.getElem?_eq_some_iff.mp e1).1), List.getElem?_map, e1]
    rfl
  · rw [List.getElem?_append_right (by omega)] at e
    have := List.mem_of_getElem? e
    rw [List.mem_replicate] at this
    cases this.2
/-! ### the caller's side -/
def toAds : List S → Mem → Option (List AD × List Nat)
  | [], _ => some ([], [])
  | .d d :: r, M => match toAds r M with
    | some (l, is) => some (.d d :: l, is)
    | none => none
  | .m i :: r, M => match M[i]? with
    | some (.ext ds) => (match toAds r M with
      | some (l, is) => some (.mo (.ext ds) :: l, i :: is)
      | none => none)
    | some (.bag n) => (match toAds r M with
      | some (l, is) => some (.mo (.bag n) :: l, i :: is)
      | none => none)
    | _ => none
  | .scr ns :: r, M => match toAds r M with
    | some (l, is) => some (.scr ns :: l, is)
    | none => none
  | .ml _ :: _, _ => none
  | .dic _ :: _, _ => none
  | .v _ :: _, _ => none
  | .acc i :: r, M => match M[i]? with
    | some (.ext ds) => (match toAds r M with
      | some (l, is) => some (.acc ds :: l, i :: is)
      | none => none)
    | _ => none
def putAll : Mem → List Nat → Mem → Mem
  | M, i :: is, o :: os => putAll (M.set i o) is os
  | M, _, _ => M
def reN (n : Nat) (is : List Nat) (j : Nat) : Nat := match is[j]? with
  | some i => i
  | none => n + (j - is.length)
def reS (n : Nat) (is : List Nat) : S → S
  | .m j => .m (reN n is j)
  | .ml js => .ml (js.map (reN n is))
  | .acc j => .acc (reN n is j)
  | s => s
def wCall (sp : DSpec) (wa : DAW) : DW := fun X env M Q => wa X env M fun ss M1 => match toAds ss M1 with
  | some (ads, is) => is.Nodup ∧ sp ads fun s M' => Q (reS M1.length is s) (putAll M1 is (M'.take is.length) ++ M'.drop is.length)
  | none => False
variable {u : Wr} {G H G' H' : Hp} {as bs cs : List Addr} {M M' : Mem} {is : List Nat}
theorem toAds_args (sr : SR u G H as M) : ∀ {ss : List S} {vs : List V} {ads : List AD} {is : List Nat}, toAds ss M = some (ads, is) → SRs K as G ss vs →
    ∃ bs : List Addr, ArgsR K G H ads vs bs ∧ bs.length = is.length ∧ ∀ (j i : Nat), is[j]? = some i → ∃ a, as[i]? = some a ∧ bs[j]? = some a
  | [], vs, ads, is, e, h => by
    cases e
    cases h
    exact ⟨[], ⟨rfl, rfl⟩, rfl, fun j i e => by simp at e⟩
  | .d d :: r, vs, ads, is, e, h => by
    cases h with
    | cons h1 h2 =>
      unfold toAds at e
      split at e
      · rename_i l is' e'
        cases e
        obtain ⟨bs, h3, h4, h5⟩ := toAds_args sr e' h2
        exact ⟨bs, ⟨_, _, rfl, h1, h3⟩, h4, h5⟩
      · cases e
  | .m i :: r, vs, ads, is, e, h => by
    cases h with
    | @cons _ _ _ vs1 h1 h2 =>
      obtain ⟨a, ha, rfl⟩ := h1
      have step : ∀ (o : MO) (l : List AD) (is' : List Nat), (∀ u : Wr, MR u G H o a) → toAds r M = some (l, is') → ∃ bs : List Addr, ArgsR K G H (.mo o :: l) (.ref a :: vs1) bs ∧ bs.length = (i :: is').length ∧ ∀ (j i' : Nat), (i :: is')[j]? = some i' → ∃ a, as[i']? = some a ∧ bs[j]? = some a := by
        intro o l is' hm e'
        obtain ⟨bs, h3, h4, h5⟩ := toAds_args sr e' h2
        refine ⟨a :: bs, ⟨a, _, bs, rfl, rfl, hm, h3⟩, by simp [h4], fun j i' e2 => ?_⟩
        cases j with
        | zero => simp at e2; subst e2; exact ⟨a, ha, by simp⟩
        | succ j =>
          obtain ⟨b, h6, h7⟩ := h5 j i' (by simpa using e2)
          exact ⟨b, h6, by simpa using h7⟩
      unfold toAds at e
      split at e
      · rename_i ds em
        split at e
        · rename_i l is' e'
          cases e
          exact step _ l is' (fun u' => sr.ms i a _ ha em) e'
        · cases e
      · rename_i n em
        split at e
        · rename_i l is' e'
          cases e
          exact step _ l is' (fun u' => sr.ms i a _ ha em) e'
        · cases e
      · cases e
  | .scr ns :: r, vs, ads, is, e, h => by
    cases h with
    | cons h1 h2 =>
      obtain ⟨p, rfl, h1⟩ := h1
      unfold toAds at e
      split at e
      · rename_i l is' e'
        cases e
        obtain ⟨bs, h3, h4, h5⟩ := toAds_args sr e' h2
        exact ⟨bs, ⟨p, _, rfl, h1, h3⟩, h4, h5⟩
      · cases e
  | .ml js :: r, vs, ads, is, e, h => by cases e
  | .dic js :: r, vs, ads, is, e, h => by cases e
  | .v js :: r, vs, ads, is, e, h => by cases e
  | .acc i :: r, vs, ads, is, e, h => by
    cases h with
    | @cons _ _ _ vs1 h1 h2 =>
      obtain ⟨C, a, dx, l0, hC, rfl, hG, ha⟩ := h1
      unfold toAds at e
      split at e
      · rename_i ds em
        split at e
        · rename_i l is' e'
          cases e
          obtain ⟨bs, h3, h4, h5⟩ := toAds_args sr e' h2
          refine ⟨l0 :: bs, ⟨C, a, dx, l0, _, bs, hC, rfl, rfl, hG, fun u' => sr.ms i l0 _ ha em, h3⟩, by simp [h4], fun j i' e2 => ?_⟩
          cases j with
          | zero => simp at e2; subst e2; exact ⟨l0, ha, by simp⟩
          | succ j =>
            obtain ⟨b, h6, h7⟩ := h5 j i' (by simpa using e2)
            exact ⟨b, h6, by simpa using h7⟩
        · cases e
      · cases e
theorem putAll_len : ∀ (M : Mem) (is : List Nat) (os : Mem), (putAll M is os).length = M.length
  | M, [], os => by unfold putAll; cases os <;> rfl
  | M, i :: is, [] => by unfold putAll; rfl
  | M, i :: is, o :: os => by unfold putAll; rw [putAll_len]; simp
theorem putAll_out : ∀ (M : Mem) (is : List Nat) (os : Mem) (i : Nat), i ∉ is → (putAll M is os)[i]? = M[i]?
  | M, [], os, i, _ => by unfold putAll; cases os <;> rfl
  | M, j :: is, [], i, _ => by unfold putAll; rfl
  | M, j :: is, o :: os, i, h => by
    unfold putAll
    have h1 : i ≠ j := fun z => h (by simp [z])
    have h2 : i ∉ is := fun z => h (by simp [z])
    rw [putAll_out _ is os i h2, List.getElem?_set_ne (Ne.symm h1)]
theorem putAll_in : ∀ (M : Mem) (is : List Nat) (os : Mem) (j i : Nat) (o : MO), is.Nodup → is[j]? = some i → os[j]? = some o → i < M.length → (putAll M is os)[i]? = some o
  | M, [], os, j, i, o, _, e, _, _ => by simp at e
  | M, k :: is, [], j, i, o, _, _, e, _ => by simp at e
  | M, k :: is, p :: os, j, i, o, nd, e, e2, hl => by
    unfold putAll
    cases j with
    | zero =>
      simp at e e2
      subst e e2
      rw [putAll_out _ is os k (List.nodup_cons.mp nd).1, List.getElem?_set_self hl]
    | succ j => exact putAll_in _ is os j i o (List.nodup_cons.mp nd).2 (by simpa using e) (by simpa using e2) (by simpa using hl)
theorem SR.backX (sr : SR u G H as M) (hl : bs.length = is.length) (hb : ∀ (j i : Nat), is[j]? = some i → ∃ a, as[i]? = some a ∧ bs[j]? = some a) (ndi : is.Nodup) {T' : List (Addr × Str)} {E' : XK} {X' : XC} (sr' : SR (wrX T' G H bs E' X') G' H' cs M') (l : Le G bs G' cs) (hT : T' = [] ∨ T' = u.T) :
    SR u G' H' (as ++ cs.drop is.length) (putAll M is (M'.take is.length) ++ M'.drop is.length) := by
  obtain ⟨t, ht⟩ := l.pre
  have ed : cs.drop is.length = t := by rw [ht, ← hl]; simp
  have inb : ∀ a, a ∈ bs → a ∈ as := fun a ha => by
    obtain ⟨j, hj, e⟩ := List.getElem_of_mem ha
    obtain ⟨b, h1, h2⟩ := hb j is[j] (List.getElem?_eq_getElem (by omega))
    rw [List.getElem?_eq_getElem hj, e] at h2
    cases h2
    exact sr.mem h1
  have ndc := sr'.nd
  rw [ht] at ndc
  have tn : ∀ a, a ∈ t → H a = none := fun a ha => by
    rcases sr'.wr a (by rw [ht]; simp [ha]) with z | z | z
    · exact z
    · exact absurd rfl ((List.nodup_append.mp ndc).2.2 a z a ha)
    · obtain ⟨p, hp, rfl⟩ := List.mem_map.mp z
      exact absurd (by rw [ht]; simp [ha]) (sr'.tb p hp).2.1
  have keep : ∀ a o, a ∉ bs → a ∉ T'.map (·.1) → H a = some o → H' a = some o := fun a o h1 h3 h2 => sr'.fr a o h2 (fun z => z.elim h1 h3)
  have nt : ∀ a, (a ∈ as ∨ (u.B a ≠ none ∧ ¬ u.W a) ∨ u.hid a ≠ none) → a ∉ T'.map (·.1) := fun a ha hz => by
    obtain ⟨p, hp, rfl⟩ := List.mem_map.mp hz
    rcases hT with z | z
    · rw [z] at hp; cases hp
    · rw [z] at hp
      obtain ⟨_, t2, t3, t4⟩ := sr.tb p hp
      rcases ha with y | ⟨y1, y2⟩ | y
      · exact t2 y
      · rcases t3 with x | x
        · exact y1 x
        · exact y2 x
      · exact y t4
  rw [ed]
  have hlen' : M'.length = is.length + t.length := by rw [← sr'.len, ht, List.length_append, hl]
  refine ⟨sr'.gh, sr.g0.trans l.ex, ?_, ?_, ?_, ?_, ?_, fun a h => sr'.th a (sr.th a h), fun a h1 h2 => sr'.nf a (sr.th a h1) (sr.nf a h1 h2), ?_, ?_, ?_, ?_⟩
  · rw [List.nodup_append]
    exact ⟨sr.nd, (List.nodup_append.mp ndc).2.1, fun a h1 b h2 e => sr.there a h1 (by rw [e]; exact tn b h2)⟩
  · rw [List.length_append, List.length_append, putAll_len, List.length_drop, sr.len, hlen']; omega
  · intro i a o h1 h2
    by_cases hi : i < as.length
    · rw [List.getElem?_append_left hi] at h1
      rw [List.getElem?_append_left (by rw [putAll_len, ← sr.len]; exact hi)] at h2
      by_cases hm : i ∈ is
      · obtain ⟨j, hj, e⟩ := List.getElem_of_mem hm
        have ej : is[j]? = some i := by rw [List.getElem?_eq_getElem hj, e]
        obtain ⟨b, h3, h4⟩ := hb j i ej
        rw [h1] at h3
        cases h3
        have hj2 : j < M'.length := by omega
        have e3 : (M'.take is.length)[j]? = some M'[j] := by rw [List.getElem?_take, if_pos hj, List.getElem?_eq_getElem hj2]
        rw [putAll_in M is _ j i _ ndi ej e3 (by rw [← sr.len]; exact hi)] at h2
        cases h2
        have e4 : cs[j]? = some a := by rw [ht, List.getElem?_append_left (by omega)]; exact h4
        have z := sr'.ms j a _ e4 (List.getElem?_eq_getElem hj2)
        revert z
        generalize M'[j] = o'
        intro z
        cases o' with
        | lst ds => exact absurd z.2.1 (sr.there a (sr.mem h1))
        | ext ds => exact z
        | bag n => exact z
        | dead => trivial
        | raw o => exact absurd z.2.1 (sr.there a (sr.mem h1))
        | toks ts => exact absurd z.2.1 (sr.there a (sr.mem h1))
      · rw [putAll_out M is _ i hm] at h2
        have nb : a ∉ bs := fun hz => by
          obtain ⟨j, hj, e⟩ := List.getElem_of_mem hz
          obtain ⟨b, h3, h4⟩ := hb j is[j] (List.getElem?_eq_getElem (by omega))
          rw [List.getElem?_eq_getElem hj, e] at h4
          cases h4
          exact hm (by rw [sr.inj h1 h3]; exact List.getElem_mem _)
        exact (sr.ms i a o h1 h2).stay l.ex (fun z => sr'.nf a (sr.there a (sr.mem h1)) z) fun w z => keep a w nb (nt a (.inl (sr.mem h1))) z
    · rw [List.getElem?_append_right (by omega)] at h1
      rw [List.getElem?_append_right (by rw [putAll_len, ← sr.len]; omega), putAll_len, ← sr.len, List.getElem?_drop] at h2
      have e4 : cs[is.length + (i - as.length)]? = some a := by
        rw [ht, List.getElem?_append_right (by omega)]
        rw [hl, Nat.add_sub_cancel_left]; exact h1
      have z := sr'.ms _ a o e4 h2
      have hn : H a = none := tn a (List.mem_of_getElem? h1)
      cases o with
      | lst ds => exact ⟨z.1, sr.bnone hn, z.2.2⟩
      | ext ds => exact z
      | bag n => exact z
      | dead => trivial
      | raw o => exact ⟨z.1, sr.bnone hn, z.2.2⟩
      | toks ts => exact ⟨z.1, sr.bnone hn, z.2.2⟩
  · intro a ha
    rcases List.mem_append.mp ha with z | z
    · exact sr'.th a (sr.there a z)
    · exact sr'.there a (by rw [ht]; simp [z])
  · intro a o h1 h2
    have na : a ∉ bs := fun z => by
      rcases sr.wr a (inb a z) with y | y
      · rw [y] at h1; cases h1
      · exact h2 y
    exact keep a o na (nt a (.inr (.inl ⟨by rw [h1]; simp, h2⟩))) (sr.fr a o h1 h2)
  · intro a ha
    rcases List.mem_append.mp ha with z | z
    · exact sr.wr a z
    · exact .inl (sr.bnone (tn a z))
  · obtain ⟨t0, e0⟩ := sr.pre
    exact ⟨t0 ++ t, by rw [e0, List.append_assoc]⟩
  · intro a o h
    obtain ⟨h1, h2, h3⟩ := sr.hd a o h
    refine ⟨keep a o (fun z => h3 (inb a z)) (nt a (.inr (.inr (by rw [h]; simp)))) h1, sr'.nf a (by show H a ≠ none; rw [h1]; simp) h2, fun z => ?_⟩
    rcases List.mem_append.mp z with y | y
    · exact h3 y
    · rw [tn a y] at h1; cases h1
  · intro p hp
    obtain ⟨t1, t2, t3⟩ := sr.tb p hp
    refine ⟨?_, fun z => ?_, t3⟩
    · rcases hT with z | z
      · exact t1.stay l.ex (fun y => sr'.nf p.1 t1.some y) fun w y => keep p.1 w (fun x => t2 (inb _ x)) (by rw [z]; simp) y
      · exact (sr'.tb p (z ▸ hp)).1
    · rcases List.mem_append.mp z with y | y
      · exact t2 y
      · exact t1.some (tn _ y)
theorem SR.back (sr : SR u G H as M) (hl : bs.length = is.length) (hb : ∀ (j i : Nat), is[j]? = some i → ∃ a, as[i]? = some a ∧ bs[j]? = some a) (ndi : is.Nodup) (sr' : SR (wr0 G H bs) G' H' cs M') (l : Le G bs G' cs) :
    SR u G' H' (as ++ cs.drop is.length) (putAll M is (M'.take is.length) ++ M'.drop is.length) := sr.backX hl hb ndi sr' l (.inl rfl)
theorem re_get (hl : bs.length = is.length) (hb : ∀ (j i : Nat), is[j]? = some i → ∃ a, as[i]? = some a ∧ bs[j]? = some a) (l : Le G bs G' cs) {j : Nat} {a : Addr} (e : cs[j]? = some a) : (as ++ cs.drop is.length)[reN as.length is j]? = some a := by
  obtain ⟨t, ht⟩ := l.pre
  unfold reN
  cases q : is[j]? with
  | some i =>
    obtain ⟨b, h1, h2⟩ := hb j i q
    have e2 : cs[j]? = some b := by
      rw [ht, List.getElem?_append_left (List.getElem?_eq_some_iff.mp h2).1]; exact h2
    rw [e] at e2
    cases e2
    show (as ++ cs.drop is.length)[i]? = some a
    rw [List.getElem?_append_left (List.getElem?_eq_some_iff.mp h1).1]; exact h1
  | none =>
    have hj : is.length ≤ j := List.getElem?_eq_none_iff.mp q
    show (as ++ cs.drop is.length)[as.length + (j - is.length)]? = some a
    rw [List.getElem?_append_right (by omega), Nat.add_sub_cancel_left, List.getElem?_drop, Nat.add_sub_cancel' hj]
    exact e
theorem re_refs (hl : bs.length = is.length) (hb : ∀ (j i : Nat), is[j]? = some i → ∃ a, as[i]? = some a ∧ bs[j]? = some a) (l : Le G bs G' cs) : ∀ {js : List Nat} {xs : List V}, Refs cs js xs → Refs (as ++ cs.drop is.length) (js.map (reN as.length is)) xs
  | [], _, h => h
  | j :: js, xs, h => by
    obtain ⟨a, r, e, h1, h2⟩ := h
    exact ⟨a, r, e, re_get hl hb l h1, re_refs hl hb l h2⟩
theorem SRp.back (hl : bs.length = is.length) (hb : ∀ (j i : Nat), is[j]? = some i → ∃ a, as[i]? = some a ∧ bs[j]? = some a) (l : Le G bs G' cs) {s : S} {v : V} (r : SRp K cs G' s v) : SRp K (as ++ cs.drop is.length) G' (reS as.length is s) v := by
  cases s with
  | d d => exact r
  | m j => obtain ⟨a, e, rfl⟩ := r; exact ⟨a, re_get hl hb l e, rfl⟩
  | ml js => obtain ⟨p, xs, rfl, h1, h2⟩ := r; exact ⟨p, xs, rfl, h1, re_refs hl hb l h2⟩
  | scr ns => exact r
  | dic ns => exact r
  | v ns => exact r
  | acc j => obtain ⟨C, a, dx, l0, hC, rfl, h1, h2⟩ := r; exact ⟨C, a, dx, l0, hC, rfl, h1, re_get hl hb l h2⟩
theorem okE_call {sp : DSpec} {ta : TA} {wa : DAW} {E' : XK} (ha : OkA K E ta wa) : OkE K E (fun σ H Q => ta σ H fun vs H1 => spOf K sp vs H1 Q E') (wCall sp wa) := by
  intro u G H as M env σ Q Qv c h fin
  refine ha u G H as M env σ _ _ c h fun vs G1 H1 as1 M1 ss sr1 l1 rs q1 => ?_
  revert q1
  show (match toAds ss M1 with | some (ads, is) => is.Nodup ∧ sp ads (fun s M' => Q (reS M1.length is s) (putAll M1 is (M'.take is.length) ++ M'.drop is.length)) | none => False) → _
  split
  · rename_i ads is e
    rintro ⟨nd, hsp⟩
    obtain ⟨bs, hargs, hl, hb⟩ := toAds_args sr1 e rs
    have ndb : bs.Nodup := by
      rw [List.Nodup, List.pairwise_iff_getElem]
      intro i j hi hj hij e2
      obtain ⟨a1, h1, h2⟩ := hb i is[i] (List.getElem?_eq_getElem (by omega))
      obtain ⟨a2, h3, h4⟩ := hb j is[j] (List.getElem?_eq_getElem (by omega))
      rw [List.getElem?_eq_getElem hi, e2] at h2
      rw [List.getElem?_eq_getElem hj] at h4
      cases h2
      cases h4
      have e3 := sr1.inj h1 h3
      have e4 := (List.getElem_inj nd).mp e3
      omega
    have thb : ∀ a ∈ bs, H1 a ≠ none := fun a ha => by
      obtain ⟨j, hj, e2⟩ := List.getElem_of_mem ha
      obtain ⟨b, h1, h2⟩ := hb j is[j] (List.getElem?_eq_getElem (by omega))
      rw [List.getElem?_eq_getElem hj, e2] at h2
      cases h2
      exact sr1.there a (sr1.mem h1)
    refine ⟨G1, ads, bs, _, sr1.gh, ndb, thb, hargs, hsp, fun s M' v G' H' cs q sr' l rv => ?_⟩
    have rb := rv.back (as := as1) hl hb l
    rw [sr1.len] at rb
    exact fin v G' H' _ _ _ (sr1.back hl hb nd sr' l) (l1.trans ⟨l.ex, _, rfl⟩) rb q
  · exact False.elim
/-! ### built-ins -/
def wCB (f : DFC) (wa : DAW) : DW := fun X env M Q => wa X env M fun ss M1 => f ss M1 Q
theorem okE_CB {r : List V → Hp → VK → Prop} {f : DFC} {ta : TA} {wa : DAW} (ha : OkA K E ta wa) (hf : OkC K r f) : OkE K E (tCB r ta) (wCB f wa) := by
  intro u G H as M env σ Q Qv c h fin
  refine ha u G H as M env σ _ _ c h fun vs G1 H1 as1 M1 ss sr1 l1 rs q1 => ?_
  exact hf u G1 H1 as1 M1 vs ss Q Qv sr1 rs q1 (fin.from l1)
theorem SRs.one {s : S} {vs : List V} (h : SRs K as G [s] vs) : ∃ v, vs = [v] ∧ SRp K as G s v := by
  cases h with
  | cons h1 h2 => cases h2; exact ⟨_, rfl, h1⟩
theorem SRs.two {s t : S} {vs : List V} (h : SRs K as G [s, t] vs) : ∃ v w, vs = [v, w] ∧ SRp K as G s v ∧ SRp K as G t w := by
  cases h with
  | cons h1 h2 =>
    obtain ⟨w, rfl, h3⟩ := h2.one
    exact ⟨_, w, rfl, h1, h3⟩
def fLen : DFC
  | [.d (.tup ds)], M, Q => Q (.d (.int (ds.length : Int))) M
  | [.d (.lst ds)], M, Q => Q (.d (.int (ds.length : Int))) M
  | [.m k], M, Q => match M[k]? with
    | some (.lst ds) => Q (.d (.int (ds.length : Int))) M
    | _ => False
  | _, _, _ => False
def rLenD (K : PySem.W.Frag) : List V → Hp → VK → Prop := fun xs H Q => ∃ p ys, xs = [.ref p] ∧ (SqL K H p ys ∨ SqT K H p ys) ∧ Q (.int ys.length) H
theorem okC_len : OkC K (rLenD K) fLen := by
  intro u G H as M xs ss Q Qv sr rs h fin
  unfold fLen at h
  split at h
  · rename_i ds
    obtain ⟨v, rfl, r⟩ := rs.one
    obtain ⟨p, ys, rfl, hp, hy⟩ := rep_tup.mp r.d
    exact ⟨p, ys, rfl, .inr (SqT.of (sr.gh _ _ hp)), by rw [hy.len]; exact fin.here sr (s := .d (.int _)) srp_int h⟩
  · rename_i ds
    obtain ⟨v, rfl, r⟩ := rs.one
    obtain ⟨p, ys, rfl, hp, hy⟩ := rep_lst.mp r.d
    exact ⟨p, ys, rfl, .inl (SqL.of (sr.gh _ _ hp)), by rw [hy.len]; exact fin.here sr (s := .d (.int _)) srp_int h⟩
  · rename_i k
    obtain ⟨v, rfl, p, hp, rfl⟩ := rs.one
    split at h
    · rename_i ds e
      obtain ⟨_, _, ys, hy, hr⟩ := sr.ms k p _ hp e
      exact ⟨p, ys, rfl, .inl (SqL.of hy), by rw [hr.len]; exact fin.here sr (s := .d (.int _)) srp_int h⟩
    · exact h.elim
  · exact h.elim
def fMax2 : DFC
  | [.d (.int i), .d (.int j)], M, Q => Q (.d (.int (max i j))) M
  | _, _, _ => False
def fMin2 : DFC
  | [.d (.int i), .d (.int j)], M, Q => Q (.d (.int (min i j))) M
  | _, _, _ => False
theorem okC_max2 : OkC K (fun xs H Q => ∃ i j, xs = [.int i, .int j] ∧ Q (.int (if j > i then j else i)) H) fMax2 := by
  intro u G H as M xs ss Q Qv sr rs h fin
  unfold fMax2 at h
  split at h
  · rename_i i j
    obtain ⟨v, w, rfl, r1, r2⟩ := rs.two
    cases rep_int.mp r1.d
    cases rep_int.mp r2.d
    refine ⟨i, j, rfl, ?_⟩
    have e : (if j > i then j else i) = max i j := by split <;> omega
    rw [e]
    exact fin.here sr (s := .d (.int _)) srp_int h
  · exact h.elim
theorem okC_min2 : OkC K (fun xs H Q => ∃ i j, xs = [.int i, .int j] ∧ Q (.int (if j < i then j else i)) H) fMin2 := by
  intro u G H as M xs ss Q Qv sr rs h fin
  unfold fMin2 at h
  split at h
  · rename_i i j
    obtain ⟨v, w, rfl, r1, r2⟩ := rs.two
    cases rep_int.mp r1.d
    cases rep_int.mp r2.d
    refine ⟨i, j, rfl, ?_⟩
    have e : (if j < i then j else i) = min i j := by split <;> omega
    rw [e]
    exact fin.here sr (s := .d (.int _)) srp_int h
  · exact h.elim
def fAbs : DFC
  | [.d (.int i)], M, Q => Q (.d (.int (i.natAbs : Int))) M
  | _, _, _ => False
theorem okC_abs : OkC K (fun xs H Q => ∃ i, xs = [.int i] ∧ Q (.int (if i < 0 then -i else i)) H) fAbs := by
  intro u G H as M xs ss Q Qv sr rs h fin
  unfold fAbs at h
  split at h
  · rename_i i
    obtain ⟨v, rfl, r1⟩ := rs.one
    cases rep_int.mp r1.d
    refine ⟨i, rfl, ?_⟩
    have e : (if i < 0 then -i else i) = (i.natAbs : Int) := by split <;> omega
    rw [e]
    exact fin.here sr (s := .d (.int _)) srp_int h
  · exact h.elim
/-- sum, max, min, any, all of a list -/
def fSum : DFC
  | [.d (.lst ds)], M, Q => ∃ ns : List Int, ds = ns.map D.int ∧ Q (.d (.int ns.sum)) M
  | _, _, _ => False
def fSumT : DFC
  | [.d (.tup ds)], M, Q => ∃ ns : List Int, ds = ns.map D.int ∧ Q (.d (.int ns.sum)) M
  | _, _, _ => False
theorem okC_sum : OkC K (rSum K) fSum := by
  intro u G H as M xs ss Q Qv sr rs h fin
  unfold fSum at h
  split at h
  · rename_i ds
    obtain ⟨ns, rfl, h⟩ := h
    obtain ⟨v, rfl, r⟩ := rs.one
    obtain ⟨p, ys, rfl, hp, hy⟩ := rep_lst.mp r.d
    rw [reps_ints.mp hy] at hp
    exact ⟨p, ns, rfl, SqL.of (sr.gh _ _ hp), fin.here sr (s := .d (.int _)) srp_int h⟩
  · exact h.elim
def fMaxL : DFC
  | [.d (.lst ds)], M, Q => ∃ ns : List Int, ds = ns.map D.int ∧ 0 < ns.length ∧ ∀ m, m ∈ ns → (∀ y ∈ ns, y ≤ m) → Q (.d (.int m)) M
  | _, _, _ => False
theorem okC_maxL : OkC K (rMax K) fMaxL := by
  intro u G H as M xs ss Q Qv sr rs h fin
  unfold fMaxL at h
  split at h
  · rename_i ds
    obtain ⟨ns, rfl, h0, h⟩ := h
    obtain ⟨v, rfl, r⟩ := rs.one
    obtain ⟨p, ys, rfl, hp, hy⟩ := rep_lst.mp r.d
    rw [reps_ints.mp hy] at hp
    exact ⟨p, ns, rfl, SqL.of (sr.gh _ _ hp), h0, fun m h1 h2 => fin.here sr (s := .d (.int m)) srp_int (h m h1 h2)⟩
  · exact h.elim
def fMinL : DFC
  | [.d (.lst ds)], M, Q => ∃ ns : List Int, ds = ns.map D.int ∧ 0 < ns.length ∧ ∀ m, m ∈ ns → (∀ y ∈ ns, m ≤ y) → Q (.d (.int m)) M
  | _, _, _ => False
theorem okC_minL : OkC K (rMin K) fMinL := by
  intro u G H as M xs ss Q Qv sr rs h fin
  unfold fMinL at h
  split at h
  · rename_i ds
    obtain ⟨ns, rfl, h0, h⟩ := h
    obtain ⟨v, rfl, r⟩ := rs.one
    obtain ⟨p, ys, rfl, hp, hy⟩ := rep_lst.mp r.d
    rw [reps_ints.mp hy] at hp
    exact ⟨p, ns, rfl, SqL.of (sr.gh _ _ hp), h0, fun m h1 h2 => fin.here sr (s := .d (.int m)) srp_int (h m h1 h2)⟩
  · exact h.elim
def fAny : DFC
  | [.d (.lst ds)], M, Q => ∃ bs : List Bool, ds = bs.map D.bl ∧ Q (.d (.bl (bs.any id))) M
  | _, _, _ => False
def fAll : DFC
  | [.d (.lst ds)], M, Q => ∃ bs : List Bool, ds = bs.map D.bl ∧ Q (.d (.bl (bs.all id))) M
  | _, _, _ => False
theorem okC_any : OkC K (rAny K) fAny := by
  intro u G H as M xs ss Q Qv sr rs h fin
  unfold fAny at h
  split at h
  · rename_i ds
    obtain ⟨ns, rfl, h⟩ := h
    obtain ⟨v, rfl, r⟩ := rs.one
    obtain ⟨p, ys, rfl, hp, hy⟩ := rep_lst.mp r.d
    rw [reps_bls.mp hy] at hp
    exact ⟨p, ns, rfl, SqL.of (sr.gh _ _ hp), fin.here sr (s := .d (.bl _)) srp_bl h⟩
  · exact h.elim
theorem okC_all : OkC K (rAll K) fAll := by
  intro u G H as M xs ss Q Qv sr rs h fin
  unfold fAll at h
  split at h
  · rename_i ds
    obtain ⟨ns, rfl, h⟩ := h
    obtain ⟨v, rfl, r⟩ := rs.one
    obtain ⟨p, ys, rfl, hp, hy⟩ := rep_lst.mp r.d
    rw [reps_bls.mp hy] at hp
    exact ⟨p, ns, rfl, SqL.of (sr.gh _ _ hp), fin.here sr (s := .d (.bl _)) srp_bl h⟩
  · exact h.elim
/-! ### isinstance -/
inductive BT where
  | int | bool | tuple | list | str
def BT.name : BT → String
  | .int => "int"
  | .bool => "bool"
  | .tuple => "tuple"
  | .list => "list"
  | .str => "str"
def dTy : D → String
  | .non => "NoneType"
  | .bl _ => "bool"
  | .int _ => "int"
  | .str _ => "str"
  | .tup _ => "tuple"
  | .lst _ => "list"
def isiD : D → BT → Bool
  | .bl _, .int => true
  | .bl _, .bool => true
  | .int _, .int => true
  | .str _, .str => true
  | .tup _, .tuple => true
  | .lst _, .list => true
  | _, _ => false
theorem isi_ok (d : D) (T : BT) : kitB (dTy d) T.name = some (isiD d T) := by
  cases d <;> cases T <;> dsimp only [dTy, BT.name, isiD] <;> decide +kernel
theorem Rep.ty {G H : Hp} (e : Ex G H) {d : D} {v : V} (r : Rep G d v) : TyX K H v (.type (dTy d)) := by
  cases d with
  | non => rw [rep_non.mp r]; exact .base .non
  | bl b => rw [rep_bl.mp r]; exact .base (.bl b)
  | int b => rw [rep_int.mp r]; exact .base (.int b)
  | str b => rw [rep_str.mp r]; exact .base (.str b)
  | tup b => obtain ⟨_, _, rfl, h, _⟩ := rep_tup.mp r; exact .base (.tup (e _ _ h))
  | lst b => obtain ⟨_, _, rfl, h, _⟩ := rep_lst.mp r; exact .base (.lst (e _ _ h))
def wIsi (T : BT) (w : DW) : DW := fun X env M Q => w X env M fun s M1 => match s with
  | .d d => Q (.d (.bl (isiD d T))) M1
  | .m _ => Q (.d (.bl (match T with | .list => true | _ => false))) M1
  | _ => False
theorem okE_isi {T : BT} {ta : TE} {wa : DW} (ha : OkE K E ta (fun X env M Q => wa X env M Q)) : OkE K E (tCB (rIsi K) (tCons ta (tCons (tC (.ty T.name)) tNil))) (fun X env M Q => wa X env M fun s M1 => match s with
  | .d d => Q (.d (.bl (isiD d T))) M1
  | _ => False) := by
  intro u G H as M env σ Q Qv c h fin
  refine ha u G H as M env σ _ _ c h fun v G1 H1 as1 M1 s sr1 l1 rv q1 => ?_
  split at q1
  · rename_i d
    exact ⟨v, .ty T.name, .type (dTy d), .type T.name, isiD d T, rfl, .ty _, Rep.ty sr1.gh rv, kit_ty (isi_ok d T), (fin.from l1).here sr1 (s := .d (.bl _)) srp_bl q1⟩
  · exact q1.elim
end
end R
/-! Layer R, part 4: targets, statements, loops, comprehensions. -/
namespace R
open PySem L2 Evl
abbrev DN := Env → Mem → Prop
structure DEnds where
  nx : DN
  rt : DK
  bk : DN
  ct : DN
abbrev DSw := XC → DEnds → Env → Mem → Prop
abbrev DGW := XC → S → Env → Mem → DN → Prop
structure EndsOk (K : PySem.W.Frag) (u : Wr) (G : Hp) (as : List Addr) (Dn : DEnds) (Dv : Ends) : Prop where
  nx : ∀ σ' G' H' as' M' env', SR u G' H' as' M' → Le G as G' as' → ER K as' G' env' σ' → Dn.nx env' M' → Dv.nx σ' H'
  rt : Fin K u G as Dn.rt Dv.rt
  bk : ∀ σ' G' H' as' M' env', SR u G' H' as' M' → Le G as G' as' → ER K as' G' env' σ' → Dn.bk env' M' → Dv.bk σ' H'
  ct : ∀ σ' G' H' as' M' env', SR u G' H' as' M' → Le G as G' as' → ER K as' G' env' σ' → Dn.ct env' M' → Dv.ct σ' H'
theorem EndsOk.from {K : PySem.W.Frag} {u : Wr} {G G1 : Hp} {as as1 : List Addr} {Dn : DEnds} {Dv : Ends} (e : EndsOk K u G as Dn Dv) (l : Le G as G1 as1) : EndsOk K u G1 as1 Dn Dv :=
  ⟨fun σ' G' H' as' M' env' sr l' => e.nx σ' G' H' as' M' env' sr (l.trans l'), e.rt.from l, fun σ' G' H' as' M' env' sr l' => e.bk σ' G' H' as' M' env' sr (l.trans l'), fun σ' G' H' as' M' env' sr l' => e.ct σ' G' H' as' M' env' sr (l.trans l')⟩
def OkS (K : PySem.W.Frag) (E : XK) (t : TS) (w : DSw) : Prop := ∀ (u : Wr) (G H : Hp) (as : List Addr) (M : Mem) (env : Env) (σ : L2.St) (Dn : DEnds) (Dv : Ends), CS K E u G H as M env σ → EndsOk K u G as Dn Dv → w u.XQ Dn env M → t Dv σ H
def OkG (K : PySem.W.Frag) (E : XK) (g : TG) (w : DGW) : Prop := ∀ (u : Wr) (G H : Hp) (as : List Addr) (M : Mem) (env : Env) (σ : L2.St) (s : S) (v : V) (Q : DN) (Qv : L2.St → Hp → Prop), CS K E u G H as M env σ → SRp K as G s v → w u.XQ s env M Q →
  (∀ σ' G' H' as' M' env', SR u G' H' as' M' → Le G as G' as' → ER K as' G' env' σ' → Q env' M' → Qv σ' H') → g v σ H Qv
abbrev DGs := XC → List D → Env → Mem → DN → Prop
def OkGs (K : PySem.W.Frag) (E : XK) (g : TGs) (w : DGs) : Prop := ∀ (u : Wr) (G H : Hp) (as : List Addr) (M : Mem) (env : Env) (σ : L2.St) (ds : List D) (vs : List V) (Q : DN) (Qv : L2.St → Hp → Prop), CS K E u G H as M env σ → Reps G ds vs → w u.XQ ds env M Q →
  (∀ σ' G' H' as' M' env', SR u G' H' as' M' → Le G as G' as' → ER K as' G' env' σ' → Q env' M' → Qv σ' H') → g vs σ H Qv
abbrev DIW := XC → Env → Mem → (List S → Mem → Prop) → Prop
/-- what a walk gives at turn i -/
def YS (K : PySem.W.Frag) (as : List Addr) (G : Hp) (its : List S) : Nat → Hp → V → Hp → Prop := fun i H x H' => ∃ s, its[i]? = some s ∧
  ((H' = H ∧ SRp K as G s x) ∨ ∃ p xs ds, H p = none ∧ H' = upd H p (.tup xs) ∧ x = .ref p ∧ s = .d (.tup ds) ∧ Reps G ds xs)
def OkI (K : PySem.W.Frag) (E : XK) (ti : TI) (w : DIW) : Prop := ∀ (u : Wr) (G H : Hp) (as : List Addr) (M : Mem) (env : Env) (σ : L2.St) (Q : List S → Mem → Prop) (Rv : It → Hp → Prop), CS K E u G H as M env σ → w u.XQ env M Q →
  (∀ J its G' H' as' M', SR u G' H' as' M' → Le G as G' as' → Walk J its.length (fun H => Ex G' H) (YS K as' G' its) → Q its M' → Rv J H') → ti σ H Rv
section
variable {K : PySem.W.Frag} {E : XK}
/-! ### targets -/
def wgName (i : Nat) : DGW := fun _ s env M Q => Q (env.set i (some s)) M
theorem okG_name (i : Nat) : OkG K E (gName i) (wgName i) := fun u G H as M env σ s v Q Qv c r h fin => fin (σ.set i (some v)) G H as M _ c.sr (Le.refl G as) (c.er.set i r) h
def wgNil : DGs := fun _ ds env M Q => match ds with
  | [] => Q env M
  | _ => False
def wgCons (w : DGW) (wr : DGs) : DGs := fun X ds env M Q => match ds with
  | d :: r => w X (.d d) env M fun env' M' => wr X r env' M' Q
  | [] => False
theorem okGs_nil : OkGs K E gNil wgNil := by
  intro u G H as M env σ ds vs Q Qv c r h fin
  cases ds with
  | nil => exact ⟨reps_nil.mp r, fin σ G H as M env c.sr (Le.refl G as) c.er h⟩
  | cons d ds => exact h.elim
theorem okGs_cons {g : TG} {gs : TGs} {w : DGW} {wr : DGs} (h1 : OkG K E g w) (h2 : OkGs K E gs wr) : OkGs K E (gCons g gs) (wgCons w wr) := by
  intro u G H as M env σ ds vs Q Qv c r h fin
  cases ds with
  | nil => exact h.elim
  | cons d ds =>
    obtain ⟨x, xs, rfl, r1, r2⟩ := reps_cons.mp r
    refine ⟨x, xs, rfl, h1 u G H as M env σ (.d d) x _ _ c r1 h fun σ1 G1 H1 as1 M1 env1 sr1 l1 er1 q1 => ?_⟩
    exact h2 u G1 H1 as1 M1 env1 σ1 ds xs Q Qv ⟨c.eE, c.xok, sr1, er1⟩ (r2.mono l1.ex) q1 fun σ' G' H' as' M' env' sr' l' => fin σ' G' H' as' M' env' sr' (l1.trans l')
def wgTup (n : Nat) (wr : DGs) : DGW := fun X s env M Q => match s with
  | .d (.tup ds) => ds.length = n ∧ wr X ds env M Q
  | _ => False
theorem okG_tup {n : Nat} {gs : TGs} {wr : DGs} (h : OkGs K E gs wr) : OkG K E (gTup K n gs) (wgTup n wr) := by
  intro u G H as M env σ s v Q Qv c r hw fin
  unfold wgTup at hw
  split at hw
  · rename_i ds
    obtain ⟨p, xs, rfl, hp, hx⟩ := rep_tup.mp r.d
    exact ⟨p, xs, rfl, SqT.of (c.sr.gh _ _ hp), by rw [hx.len]; exact hw.1, h u G H as M env σ ds xs Q Qv c hx hw.2 fin⟩
  · exact hw.elim
/-- xs[i] = v, xs a list of the def's own, or one handed in -/
def wgSub (wo wi : DW) : DGW := fun X s env M Q => wo X env M fun o M1 => wi X env M1 fun i M2 => match o, i, s with
  | .m k, .d (.int i), .d d => (match M2[k]? with
    | some (.lst ds) => atQ (ixN ds.length i) fun j => Q env (M2.set k (.lst (ds.set j d)))
    | some (.ext ds) => atQ (ixN ds.length i) fun j => Q env (M2.set k (.ext (ds.set j d)))
    | _ => False)
  | _, _, _ => False
theorem okG_sub {to ti : TE} {wo wi : DW} (ho : OkE K E to wo) (hi : OkE K E ti wi) : OkG K E (gSub to ti rSetL) (wgSub wo wi) := by
  intro u G H as M env σ s v Q Qv c r hw fin
  refine ho u G H as M env σ _ _ c hw fun ov G1 H1 as1 M1 so sr1 l1 ro q1 => ?_
  refine hi u G1 H1 as1 M1 env σ _ _ (c.step sr1 l1) q1 fun iv G2 H2 as2 M2 si sr2 l2 ri q2 => ?_
  have l12 := l1.trans l2
  split at q2
  · rename_i k i d
    cases rep_int.mp ri.d
    obtain ⟨p, hp, rfl⟩ := ro.mono l2
    have rd : Rep G2 d v := (SRp.mono l12 r).d
    split at q2
    · rename_i ds e
      obtain ⟨hg, hb, xs, hx, hr⟩ := sr2.ms k p _ hp e
      obtain ⟨j, ej, q2⟩ := atQ_get q2
      refine ⟨p, xs, i, j, rfl, rfl, hx, by rw [hr.len]; exact ej, ?_⟩
      exact fin σ G2 _ as2 _ env (sr2.write (mo := .lst (ds.set j d)) hp hg ⟨hg, hb, _, upd_same, hr.set j rd⟩) l12 (c.er.mono l12) q2
    · rename_i ds e
      obtain ⟨hg, xs, hx, hr⟩ := sr2.ms k p _ hp e
      obtain ⟨j, ej, q2⟩ := atQ_get q2
      refine ⟨p, xs, i, j, rfl, rfl, hx, by rw [hr.len]; exact ej, ?_⟩
      exact fin σ G2 _ as2 _ env (sr2.write (mo := .ext (ds.set j d)) hp hg ⟨hg, _, upd_same, hr.set j rd⟩) l12 (c.er.mono l12) q2
    · exact q2.elim
  · exact q2.elim
/-! ### statements -/
def wNext : DSw := fun _ Dn env M => Dn.nx env M
theorem okS_next : OkS K E tNext wNext := fun u G H as M env σ Dn Dv c e h => e.nx σ G H as M env c.sr (Le.refl G as) c.er h
def wNever : DSw := fun _ _ _ _ => False
theorem okS_never : OkS K E tNever wNever := fun u G H as M env σ Dn Dv c e h => h.elim
def wSeq (a b : DSw) : DSw := fun X Dn env M => a X { Dn with nx := b X Dn } env M
theorem okS_seq {t1 t2 : TS} {a b : DSw} (h1 : OkS K E t1 a) (h2 : OkS K E t2 b) : OkS K E (tSeq t1 t2) (wSeq a b) := by
  intro u G H as M env σ Dn Dv c e h
  refine h1 u G H as M env σ { Dn with nx := b u.XQ Dn } { Dv with nx := t2 Dv } c ⟨fun σ' G' H' as' M' env' sr l er q => ?_, e.rt, e.bk, e.ct⟩ h
  exact h2 u G' H' as' M' env' σ' Dn Dv ⟨c.eE, c.xok, sr, er⟩ (e.from l) q
def wAsg (w : DW) (g : DGW) : DSw := fun X Dn env M => w X env M fun s M1 => g X s env M1 Dn.nx
theorem okS_asg {te : TE} {g : TG} {w : DW} {wg : DGW} (h1 : OkE K E te w) (h2 : OkG K E g wg) : OkS K E (tAsg te g) (wAsg w wg) := by
  intro u G H as M env σ Dn Dv c e h
  refine h1 u G H as M env σ _ _ c h fun v G1 H1 as1 M1 s sr1 l1 r q1 => ?_
  exact h2 u G1 H1 as1 M1 env σ s v _ _ (c.step sr1 l1) r q1 fun σ' G' H' as' M' env' sr' l' er' q' => e.nx σ' G' H' as' M' env' sr' (l1.trans l') er' q'
def wPar (i j : Nat) (wa : DAW) : DSw := fun X Dn env M => wa X env M fun ss M1 => match ss with
  | [s, t] => Dn.nx ((env.set i (some s)).set j (some t)) M1
  | _ => False
theorem okS_par {i j : Nat} {ta : TA} {wa : DAW} (h1 : OkA K E ta wa) : OkS K E (tPar i j ta) (wPar i j wa) := by
  intro u G H as M env σ Dn Dv c e h
  refine h1 u G H as M env σ _ _ c h fun vs G1 H1 as1 M1 ss sr1 l1 rs q1 => ?_
  split at q1
  · rename_i s t
    obtain ⟨v, w, rfl, r1, r2⟩ := rs.two
    exact ⟨v, w, rfl, e.nx _ G1 H1 as1 M1 _ sr1 l1 (((c.er.mono l1).set i r1).set j r2) q1⟩
  · exact q1.elim
def wPar3 (i j k : Nat) (wa : DAW) : DSw := fun X Dn env M => wa X env M fun ss M1 => match ss with
  | [s, t, r] => Dn.nx (((env.set i (some s)).set j (some t)).set k (some r)) M1
  | _ => False
theorem okS_par3 {i j k : Nat} {ta : TA} {wa : DAW} (h1 : OkA K E ta wa) : OkS K E (tPar3 i j k ta) (wPar3 i j k wa) := by
  intro u G H as M env σ Dn Dv c e h
  refine h1 u G H as M env σ _ _ c h fun vs G1 H1 as1 M1 ss sr1 l1 rs q1 => ?_
  split at q1
  · rename_i s t r
    cases rs with
    | cons r1 rs =>
      obtain ⟨v, w, rfl, r2, r3⟩ := rs.two
      exact ⟨_, v, w, rfl, e.nx _ G1 H1 as1 M1 _ sr1 l1 ((((c.er.mono l1).set i r1).set j r2).set k r3) q1⟩
  · exact q1.elim
def wDrop (w : DW) : DSw := fun X Dn env M => w X env M fun _ M1 => Dn.nx env M1
theorem okS_drop {te : TE} {w : DW} (h1 : OkE K E te w) : OkS K E (tDrop te) (wDrop w) := fun u G H as M env σ Dn Dv c e h =>
  h1 u G H as M env σ _ _ c h fun v G1 H1 as1 M1 s sr1 l1 r q1 => e.nx σ G1 H1 as1 M1 env sr1 l1 (c.er.mono l1) q1
def wRet (w : DW) : DSw := fun X Dn env M => w X env M Dn.rt
theorem okS_ret {te : TE} {w : DW} (h1 : OkE K E te w) : OkS K E (tRet te) (wRet w) := fun u G H as M env σ Dn Dv c e h => h1 u G H as M env σ _ _ c h e.rt
def wRetN : DSw := fun _ Dn _ M => Dn.rt (.d .non) M
theorem okS_retN : OkS K E tRetN wRetN := fun u G H as M env σ Dn Dv c e h => e.rt.here c.sr (s := .d .non) srp_non h
def wBrk : DSw := fun _ Dn env M => Dn.bk env M
theorem okS_brk : OkS K E tBreak wBrk := fun u G H as M env σ Dn Dv c e h => e.bk σ G H as M env c.sr (Le.refl G as) c.er h
def wCnt : DSw := fun _ Dn env M => Dn.ct env M
theorem okS_cnt : OkS K E tCont wCnt := fun u G H as M env σ Dn Dv c e h => e.ct σ G H as M env c.sr (Le.refl G as) c.er h
def wIfS (t : DTW) (a b : DSw) : DSw := fun X Dn env M => t X env M fun k M1 => if k = true then a X Dn env M1 else b X Dn env M1
theorem okS_if {tt : TT} {t1 t2 : TS} {w : DTW} {a b : DSw} (ht : OkT K E tt w) (h1 : OkS K E t1 a) (h2 : OkS K E t2 b) : OkS K E (tIfS tt t1 t2) (wIfS w a b) := by
  intro u G H as M env σ Dn Dv c e h
  refine ht u G H as M env σ _ _ c h fun k G1 H1 as1 M1 sr1 l1 q1 => ?_
  cases k with
  | true =>
    show (if true = true then t1 Dv σ H1 else t2 Dv σ H1)
    rw [if_pos rfl] at q1 ⊢
    exact h1 u G1 H1 as1 M1 env σ Dn Dv (c.step sr1 l1) (e.from l1) q1
  | false =>
    show (if false = true then t1 Dv σ H1 else t2 Dv σ H1)
    rw [if_neg (by decide)] at q1 ⊢
    exact h2 u G1 H1 as1 M1 env σ Dn Dv (c.step sr1 l1) (e.from l1) q1
/-- a list of the def's own in slot i is frozen ahead of w -/
def wFrz (i : Nat) (w : DSw) : DSw := fun X Dn env M => match env[i]? with
  | some (some (.m k)) => (match M[k]? with
    | some (.lst ds) => w X Dn (env.set i (some (.d (.lst ds)))) (M.set k .dead)
    | _ => False)
  | _ => False
theorem set_id {α : Type} {l : List α} {i : Nat} {a : α} (h : l[i]? = some a) : l.set i a = l := by
  apply List.ext_getElem?
  intro j
  by_cases hj : j = i
  · subst hj
    rw [List.getElem?_set_self (List.getElem?_eq_some_iff.mp h).1, h]
  · rw [List.getElem?_set_ne (Ne.symm hj)]
theorem okS_frz {i : Nat} {t : TS} {w : DSw} (h1 : OkS K E t w) : OkS K E t (wFrz i w) := by
  intro u G H as M env σ Dn Dv c e h
  unfold wFrz at h
  split at h
  · rename_i k ek
    split at h
    · rename_i ds em
      obtain ⟨v, e1, p, hp, rfl⟩ := c.er.get i _ ek
      obtain ⟨xs, sr', ex, rep⟩ := c.sr.freeze hp em
      have l : Le G as (upd G p (.lst xs)) as := ⟨ex, [], by simp⟩
      refine h1 u _ H as _ _ σ Dn Dv ⟨c.eE, c.xok, sr', ?_⟩ (e.from l) h
      have q := (c.er.mono l).set i (s := .d (.lst ds)) (v := .ref p) rep
      rw [set_id e1] at q
      exact q
    · exact h.elim
  · exact h.elim
/-- a fresh list is frozen at once -/
def wFz (w : DW) : DW := fun X env M Q => w X env M fun s M1 => match s with
  | .m k => (match M1[k]? with
    | some (.lst ds) => M.length ≤ k ∧ Q (.d (.lst ds)) (M1.take k)
    | _ => False)
  | _ => False
theorem okE_fz {te : TE} {w : DW} (h1 : OkE K E te w) : OkE K E te (wFz w) := by
  intro u G H as M env σ Q Qv c h fin
  refine h1 u G H as M env σ _ _ c h fun v G1 H1 as1 M1 s sr1 l1 r q1 => ?_
  split at q1
  · rename_i k
    split at q1
    · rename_i ds em
      obtain ⟨p, hp, rfl⟩ := r
      obtain ⟨xs, sr', ex, rep⟩ := sr1.freeze hp em
      obtain ⟨t, ht⟩ := l1.pre
      have hk : as.length ≤ k := by rw [c.sr.len]; exact q1.1
      have h0 : u.as0.length ≤ k := by
        obtain ⟨t0, e0⟩ := c.sr.pre
        rw [e0, List.length_append] at hk; omega
      have sr2 := sr'.trim k h0
      rw [List.take_set_of_le (Nat.le_refl k)] at sr2
      refine fin (.ref p) _ H1 _ _ (.d (.lst ds)) sr2 ⟨l1.ex.trans ex, t.take (k - as.length), ?_⟩ rep q1.2
      rw [ht, List.take_append, List.take_of_length_le hk]
    · exact q1.elim
  · exact q1.elim
/-! ### append -/
def wApp (wo we : DW) : DW := fun X env M Q => wo X env M fun o M1 => we X env M1 fun s M2 => match o, s with
  | .m k, .d d => (match M2[k]? with
    | some (.lst ds) => ds.length < 16000000 ∧ Q (.d .non) (M2.set k (.lst (ds ++ [d])))
    | _ => False)
  | _, _ => False
/-- of a list handed in, or of the def's own: tyV asks that it is a list as it stands ahead of the argument -/
theorem okE_app {to te : TE} {wo we : DW} (ho : OkE K E to wo) (he : OkE K E te we) : OkE K E (tBM K "list" rAppend to (tCons te tNil)) (fun X env M Q => wo X env M fun o M1 => match o with
    | .m k => (match M1[k]? with
      | some (.lst _) => we X env M1 fun s M2 => (match s with
        | .d d => (match M2[k]? with
          | some (.lst ds) => ds.length < 16000000 ∧ Q (.d .non) (M2.set k (.lst (ds ++ [d])))
          | _ => False)
        | _ => False)
      | _ => False)
    | _ => False) := by
  intro u G H as M env σ Q Qv c h fin
  refine ho u G H as M env σ _ _ c h fun ov G1 H1 as1 M1 so sr1 l1 ro q1 => ?_
  split at q1
  · rename_i k
    split at q1
    · rename_i ds0 e0
      obtain ⟨p, hp, rfl⟩ := ro
      obtain ⟨_, _, xs0, hx0, _⟩ := sr1.ms k p _ hp e0
      refine ⟨.inl ⟨rfl, _, SqL.of hx0⟩, ?_⟩
      refine he u G1 H1 as1 M1 env σ _ _ (c.step sr1 l1) q1 fun v G2 H2 as2 M2 s sr2 l2 r q2 => ?_
      split at q2
      · rename_i d
        split at q2
        · rename_i ds e
          have hp2 := l2.get hp
          obtain ⟨hg, hb, xs, hx, hr⟩ := sr2.ms k p _ hp2 e
          refine ⟨p, xs, v, rfl, rfl, hx, by rw [hr.len]; exact Nat.lt_of_lt_of_le q2.1 line16, ?_⟩
          exact fin .non G2 _ as2 _ (.d .non) (sr2.write (mo := .lst (ds ++ [d])) hp2 hg ⟨hg, hb, _, upd_same, hr.append (reps_one r.d)⟩) (l1.trans l2) srp_non q2.2
        · exact q2.elim
      · exact q2.elim
    · exact q1.elim
  · exact q1.elim
/-! ### loops -/
def wFor (wi : DIW) (g : DGW) (b : DSw) : DSw := fun X Dn env M => wi X env M fun its M1 => ∃ P : Nat → Env → Mem → Prop, P 0 env M1 ∧
  (∀ i s env M, its[i]? = some s → P i env M → g X s env M fun env' M' => b X { nx := P (i + 1), ct := P (i + 1), bk := Dn.nx, rt := Dn.rt } env' M') ∧ ∀ env M, P its.length env M → Dn.nx env M
/-- the tuple of a turn is laid -/
theorem ys_step {u : Wr} {G H H' : Hp} {as : List Addr} {M : Mem} {G0 : Hp} {as0 : List Addr} {its : List S} {i : Nat} {x : V} (sr : SR u G H as M) (l : Le G0 as0 G as) (y : YS K as0 G0 its i H x H') :
    ∃ s G', its[i]? = some s ∧ SR u G' H' as M ∧ Le G as G' as ∧ SRp K as G' s x := by
  obtain ⟨s, e, h⟩ := y
  rcases h with ⟨rfl, r⟩ | ⟨p, xs, ds, hp, rfl, rfl, rfl, r⟩
  · exact ⟨s, G, e, sr, Le.refl G as, r.mono l⟩
  · exact ⟨_, _, e, sr.laid hp, sr.le_laid hp, rep_tup.mpr ⟨p, xs, rfl, upd_same, (r.mono l.ex).mono (sr.le_laid (o := .tup xs) hp).ex⟩⟩
theorem okS_for {ti : TI} {g : TG} {tb : TS} {wi : DIW} {wg : DGW} {b : DSw} (hi : OkI K E ti wi) (hg : OkG K E g wg) (hb : OkS K E tb b) : OkS K E (tFor ti g tb) (wFor wi wg b) := by
  intro u G H as M env σ Dn Dv c e h
  refine hi u G H as M env σ _ _ c h fun J its G1 H1 as1 M1 sr1 l1 wk q1 => ?_
  obtain ⟨P, p0, ps, pd⟩ := q1
  refine for_it wk (fun i σ H => ∃ G2 as2 M2 env2, SR u G2 H as2 M2 ∧ Le G1 as1 G2 as2 ∧ ER K as2 G2 env2 σ ∧ P i env2 M2) ⟨G1, as1, M1, env, sr1, Le.refl _ _, c.er.mono l1, p0⟩ (fun i σ H _ ⟨G2, as2, M2, env2, sr2, l2, _, _⟩ => l2.ex.trans sr2.gh) ?_ ?_
  · rintro i x σ2 H2 H3 hlt ⟨G2, as2, M2, env2, sr2, l2, er2, pi⟩ y
    obtain ⟨s, G3, es, sr3, l3, rx⟩ := ys_step sr2 l2 y
    have l23 := l2.trans l3
    refine hg u G3 H3 as2 M2 env2 σ2 s x _ _ ⟨c.eE, c.xok, sr3, er2.mono l3⟩ rx (ps i s env2 M2 es pi) fun σ4 G4 H4 as4 M4 env4 sr4 l4 er4 q4 => ?_
    have l24 := l23.trans l4
    refine hb u G4 H4 as4 M4 env4 σ4 { nx := P (i + 1), ct := P (i + 1), bk := Dn.nx, rt := Dn.rt } _ ⟨c.eE, c.xok, sr4, er4⟩ ⟨fun σ' G' H' as' M' env' sr' l' er' q' => ⟨G', as', M', env', sr', l24.trans l', er', q'⟩, e.rt.from (l1.trans l24), fun σ' G' H' as' M' env' sr' l' er' q' => e.nx σ' G' H' as' M' env' sr' ((l1.trans l24).trans l') er' q', fun σ' G' H' as' M' env' sr' l' er' q' => ⟨G', as', M', env', sr', l24.trans l', er', q'⟩⟩ q4
  · rintro σ2 H2 ⟨G2, as2, M2, env2, sr2, l2, er2, pi⟩
    exact e.nx σ2 G2 H2 as2 M2 env2 sr2 (l1.trans l2) er2 (pd env2 M2 pi)
def wWhile (t : DTW) (b : DSw) : DSw := fun X Dn env M => ∃ P : Nat → Env → Mem → Prop, (∃ m, P m env M) ∧ ∀ m env M, P m env M → t X env M fun k M1 => if k = true then b X { nx := fun env' M' => ∃ m', m' < m ∧ P m' env' M', ct := fun env' M' => ∃ m', m' < m ∧ P m' env' M', bk := Dn.nx, rt := Dn.rt } env M1 else Dn.nx env M1
theorem okS_while {tt : TT} {tb : TS} {t : DTW} {b : DSw} (ht : OkT K E tt t) (hb : OkS K E tb b) : OkS K E (tWhile tt tb) (wWhile t b) := by
  intro u G H as M env σ Dn Dv c e h
  obtain ⟨P, ⟨m0, p0⟩, ps⟩ := h
  refine ⟨fun m σ H => ∃ G2 as2 M2 env2, SR u G2 H as2 M2 ∧ Le G as G2 as2 ∧ ER K as2 G2 env2 σ ∧ P m env2 M2, ⟨m0, G, as, M, env, c.sr, Le.refl _ _, c.er, p0⟩, ?_⟩
  rintro m σ2 H2 ⟨G2, as2, M2, env2, sr2, l2, er2, pm⟩
  refine ht u G2 H2 as2 M2 env2 σ2 _ _ ⟨c.eE, c.xok, sr2, er2⟩ (ps m env2 M2 pm) fun k G3 H3 as3 M3 sr3 l3 q3 => ?_
  have l23 := l2.trans l3
  cases k with
  | true =>
    rw [if_pos rfl] at q3 ⊢
    refine ⟨fun σ' H' => ∃ m', m' < m ∧ ∃ G' as' M' env', SR u G' H' as' M' ∧ Le G as G' as' ∧ ER K as' G' env' σ' ∧ P m' env' M', fun _ _ z => z, ?_⟩
    refine hb u G3 H3 as3 M3 env2 σ2 { nx := fun env' M' => ∃ m', m' < m ∧ P m' env' M', ct := fun env' M' => ∃ m', m' < m ∧ P m' env' M', bk := Dn.nx, rt := Dn.rt } _ ⟨c.eE, c.xok, sr3, er2.mono l3⟩ ⟨fun σ' G' H' as' M' env' sr' l' er' ⟨m', hm, q'⟩ => ⟨m', hm, G', as', M', env', sr', l23.trans l', er', q'⟩, e.rt.from l23, fun σ' G' H' as' M' env' sr' l' er' q' => e.nx σ' G' H' as' M' env' sr' (l23.trans l') er' q', fun σ' G' H' as' M' env' sr' l' er' ⟨m', hm, q'⟩ => ⟨m', hm, G', as', M', env', sr', l23.trans l', er', q'⟩⟩ q3
  | false =>
    rw [if_neg (by decide)] at q3 ⊢
    exact e.nx σ2 G3 H3 as3 M3 env2 sr3 l23 (er2.mono l3) q3
/-! ### what is walked -/
def wiLst (w : DW) : DIW := fun X env M Q => w X env M fun s M1 => match s with
  | .d (.lst ds) => Q (ds.map S.d) M1
  | .ml is => Q (is.map S.m) M1
  | _ => False
def wiTup (w : DW) : DIW := fun X env M Q => w X env M fun s M1 => match s with
  | .d (.tup ds) => Q (ds.map S.d) M1
  | _ => False
theorem refs_get {as : List Addr} : ∀ {is : List Nat} {xs : List V} {i : Nat} {x : V}, Refs as is xs → xs[i]? = some x → ∃ j a, is[i]? = some j ∧ as[j]? = some a ∧ x = .ref a
  | [], xs, i, x, h, e => by
    have h' : xs = [] := h
    rw [h'] at e; simp at e
  | j :: is, xs, i, x, h, e => by
    obtain ⟨a, r, rfl, h1, h2⟩ := h
    cases i with
    | zero => simp at e; subst e; exact ⟨j, a, by simp, h1, rfl⟩
    | succ n =>
      obtain ⟨k, b, h3, h4, h5⟩ := refs_get h2 (by simpa using e)
      exact ⟨k, b, by simpa using h3, h4, h5⟩
theorem refs_len {as : List Addr} : ∀ {is : List Nat} {xs : List V}, Refs as is xs → xs.length = is.length
  | [], xs, h => by
    have h' : xs = [] := h
    rw [h']; rfl
  | j :: is, xs, h => by
    obtain ⟨a, r, rfl, h1, h2⟩ := h
    simp [refs_len h2]
theorem ys_of {as : List Addr} {G : Hp} {ds : List D} {xs : List V} (hr : Reps G ds xs) {i : Nat} {H H' : Hp} {x : V} (y : YAt xs i H x H') : YS K as G (ds.map S.d) i H x H' := by
  obtain ⟨rfl, e⟩ := y
  obtain ⟨d, e1, r⟩ := hr.get' e
  exact ⟨.d d, by rw [List.getElem?_map, e1]; rfl, .inl ⟨rfl, r⟩⟩
theorem okI_lst {te : TE} {w : DW} (h : OkE K E te w) : OkI K E (iList K te) (wiLst w) := by
  intro u G H as M env σ Q Rv c hw fin
  refine h u G H as M env σ _ _ c hw fun v G1 H1 as1 M1 s sr1 l1 r q1 => ?_
  split at q1
  · rename_i ds
    obtain ⟨p, xs, rfl, hp, hx⟩ := rep_lst.mp r.d
    refine ⟨p, rfl, ⟨xs, SqL.of (sr1.gh _ _ hp)⟩, fin _ (ds.map S.d) G1 H1 as1 M1 sr1 l1 ?_ q1⟩
    have wk := (walk_list (K := K) (a := p) (xs := xs)).mono (G' := fun H => Ex G1 H) (Y' := YS K as1 G1 (ds.map S.d)) (fun H e => SqL.of (e _ _ hp)) fun i H x H' _ _ y => ys_of hx y
    rw [hx.len] at wk
    rw [List.length_map]; exact wk
  · rename_i is
    obtain ⟨p, xs, rfl, hp, hx⟩ := r
    refine ⟨p, rfl, ⟨xs, SqL.of (sr1.gh _ _ hp)⟩, fin _ (is.map S.m) G1 H1 as1 M1 sr1 l1 ?_ q1⟩
    have wk := (walk_list (K := K) (a := p) (xs := xs)).mono (G' := fun H => Ex G1 H) (Y' := YS K as1 G1 (is.map S.m)) (fun H e => SqL.of (e _ _ hp)) fun i H x H' _ _ y => by
      obtain ⟨rfl, e⟩ := y
      obtain ⟨j, a, h1, h2, rfl⟩ := refs_get hx e
      exact ⟨.m j, by rw [List.getElem?_map, h1]; rfl, .inl ⟨rfl, a, h2, rfl⟩⟩
    rw [refs_len hx] at wk
    rw [List.length_map]; exact wk
  · exact q1.elim
theorem okI_tup {te : TE} {w : DW} (h : OkE K E te w) : OkI K E (iTup K te) (wiTup w) := by
  intro u G H as M env σ Q Rv c hw fin
  refine h u G H as M env σ _ _ c hw fun v G1 H1 as1 M1 s sr1 l1 r q1 => ?_
  split at q1
  · rename_i ds
    obtain ⟨p, xs, rfl, hp, hx⟩ := rep_tup.mp r.d
    refine ⟨p, rfl, ⟨xs, SqT.of (sr1.gh _ _ hp)⟩, fin _ (ds.map S.d) G1 H1 as1 M1 sr1 l1 ?_ q1⟩
    have wk := (walk_tup (K := K) (a := p) (xs := xs)).mono (G' := fun H => Ex G1 H) (Y' := YS K as1 G1 (ds.map S.d)) (fun H e => SqT.of (e _ _ hp)) fun i H x H' _ _ y => ys_of hx y
    rw [hx.len] at wk
    rw [List.length_map]; exact wk
  · exact q1.elim
def rngS (lo : Int) (n : Nat) : List S := (List.range n).map fun (i : Nat) => S.d (.int (lo + (i : Int)))
theorem rngS_len (lo : Int) (n : Nat) : (rngS lo n).length = n := by unfold rngS; simp
theorem walk_rng {as : List Addr} {G : Hp} (lo : Int) (n : Nat) : Walk (Itr lo n) (rngS lo n).length (fun H => Ex G H) (YS K as G (rngS lo n)) := by
  rw [rngS_len]
  refine (walk_range (lo := lo) (n := n)).mono (fun _ _ => trivial) fun i H x H' hi _ y => ?_
  obtain ⟨rfl, rfl⟩ := y
  exact ⟨.d (.int (lo + i)), by unfold rngS; simp [hi], .inl ⟨rfl, srp_int⟩⟩
def wiR1 (wa : DAW) : DIW := fun X env M Q => wa X env M fun ss M1 => match ss with
  | [.d (.int j)] => (-(2 ^ 62) ≤ j ∧ j < 2 ^ 62) ∧ Q (rngS 0 j.toNat) M1
  | _ => False
def wiR2 (wa : DAW) : DIW := fun X env M Q => wa X env M fun ss M1 => match ss with
  | [.d (.int i), .d (.int j)] => (-(2 ^ 62) ≤ i ∧ i < 2 ^ 62 ∧ -(2 ^ 62) ≤ j ∧ j < 2 ^ 62) ∧ Q (rngS i (j - i).toNat) M1
  | _ => False
theorem okI_r1 {ta : TA} {wa : DAW} (h : OkA K E ta wa) : OkI K E (iRng1 ta) (wiR1 wa) := by
  intro u G H as M env σ Q Rv c hw fin
  refine h u G H as M env σ _ _ c hw fun vs G1 H1 as1 M1 ss sr1 l1 rs q1 => ?_
  split at q1
  · rename_i j
    obtain ⟨v, rfl, r⟩ := rs.one
    cases rep_int.mp r.d
    exact ⟨j, rfl, q1.1.1, q1.1.2, fin _ _ G1 H1 as1 M1 sr1 l1 (walk_rng 0 j.toNat) q1.2⟩
  · exact q1.elim
theorem okI_r2 {ta : TA} {wa : DAW} (h : OkA K E ta wa) : OkI K E (iRng2 ta) (wiR2 wa) := by
  intro u G H as M env σ Q Rv c hw fin
  refine h u G H as M env σ _ _ c hw fun vs G1 H1 as1 M1 ss sr1 l1 rs q1 => ?_
  split at q1
  · rename_i i j
    obtain ⟨v, w, rfl, r1, r2⟩ := rs.two
    cases rep_int.mp r1.d
    cases rep_int.mp r2.d
    exact ⟨i, j, rfl, q1.1, fin _ _ G1 H1 as1 M1 sr1 l1 (walk_rng i (j - i).toNat) q1.2⟩
  · exact q1.elim
def enumS : Int → List D → List S
  | _, [] => []
  | n, d :: r => .d (.tup [.int n, d]) :: enumS (n + 1) r
theorem enumS_len : ∀ (n : Int) (ds : List D), (enumS n ds).length = ds.length
  | _, [] => rfl
  | n, d :: r => by unfold enumS; simp [enumS_len (n + 1) r]
theorem enumS_get : ∀ (n : Int) (ds : List D) (i : Nat) (d : D), ds[i]? = some d → (enumS n ds)[i]? = some (.d (.tup [.int (n + (i : Int)), d]))
  | _, [], i, d, e => by simp at e
  | n, d0 :: r, 0, d, e => by simp at e; subst e; unfold enumS; simp
  | n, d0 :: r, i + 1, d, e => by
    unfold enumS
    rw [List.getElem?_cons_succ, enumS_get (n + 1) r i d (by simpa using e)]
    have : n + 1 + (i : Int) = n + ((i + 1 : Nat) : Int) := by omega
    rw [this]
def wiEnum (wa : DAW) : DIW := fun X env M Q => wa X env M fun ss M1 => match ss with
  | [.d (.lst ds)] => Q (enumS 0 ds) M1
  | _ => False
theorem okI_enum {ta : TA} {wa : DAW} (h : OkA K E ta wa) : OkI K E (iEnum K ta) (wiEnum wa) := by
  intro u G H as M env σ Q Rv c hw fin
  refine h u G H as M env σ _ _ c hw fun vs G1 H1 as1 M1 ss sr1 l1 rs q1 => ?_
  split at q1
  · rename_i ds
    obtain ⟨v, rfl, r⟩ := rs.one
    obtain ⟨p, xs, rfl, hp, hx⟩ := rep_lst.mp r.d
    refine ⟨p, xs, rfl, SqL.of (sr1.gh _ _ hp), fin _ (enumS 0 ds) G1 H1 as1 M1 sr1 l1 ?_ q1⟩
    rw [enumS_len, ← hx.len]
    refine (walk_enum (K := K) (a := p) (xs := xs)).mono (fun H e => SqL.of (e _ _ hp)) fun i H x H' hi _ y => ?_
    obtain ⟨T, y1, y2, rfl, hT, rfl, e1, e2⟩ := y
    obtain ⟨d, e3, r3⟩ := hx.get' e2
    refine ⟨_, enumS_get 0 ds i d e3, .inr ⟨T, [y1, y2], [.int (0 + (i : Int)), d], hT, rfl, rfl, rfl, ?_⟩⟩
    have e1' : V.int (i : Int) = y1 := Option.some.inj e1
    subst e1'
    exact reps_cons.mpr ⟨_, _, rfl, rep_int.mpr (by rw [Int.zero_add]), reps_one r3⟩
  · exact q1.elim
def zipS : List D → List D → List S
  | a :: as, b :: bs => .d (.tup [a, b]) :: zipS as bs
  | _, _ => []
theorem zipS_len : ∀ (as bs : List D), (zipS as bs).length = min as.length bs.length
  | [], bs => by unfold zipS; simp
  | a :: as, [] => by unfold zipS; simp
  | a :: as, b :: bs => by unfold zipS; rw [List.length_cons, zipS_len as bs, List.length_cons, List.length_cons]; omega
theorem zipS_get : ∀ (as bs : List D) (i : Nat) (a b : D), as[i]? = some a → bs[i]? = some b → (zipS as bs)[i]? = some (.d (.tup [a, b]))
  | [], bs, i, a, b, e, _ => by simp at e
  | a0 :: as, [], i, a, b, _, e => by simp at e
  | a0 :: as, b0 :: bs, 0, a, b, e, e' => by simp at e e'; subst e e'; unfold zipS; simp
  | a0 :: as, b0 :: bs, i + 1, a, b, e, e' => by
    unfold zipS
    rw [List.getElem?_cons_succ]
    exact zipS_get as bs i a b (by simpa using e) (by simpa using e')
def wiZip (wa : DAW) : DIW := fun X env M Q => wa X env M fun ss M1 => match ss with
  | [.d (.lst as), .d (.lst bs)] => Q (zipS as bs) M1
  | [.d (.tup as), .d (.tup bs)] => Q (zipS as bs) M1
  | _ => False
theorem ys_zip {as : List Addr} {G H H' : Hp} {ds es : List D} {xs ys : List V} {i : Nat} {v : V} (h1 : Reps G ds xs) (h2 : Reps G es ys) (y : YPair (fun i => xs[i]?) (fun i => ys[i]?) i H v H') : YS K as G (zipS ds es) i H v H' := by
  obtain ⟨T, a, b, rfl, hT, rfl, e1, e2⟩ := y
  obtain ⟨d, e3, r3⟩ := h1.get' e1
  obtain ⟨e, e4, r4⟩ := h2.get' e2
  exact ⟨_, zipS_get ds es i d e e3 e4, .inr ⟨T, [a, b], [d, e], hT, rfl, rfl, rfl, reps_cons.mpr ⟨a, [b], rfl, r3, reps_one r4⟩⟩⟩
theorem walkZipT {a b : Addr} {xs ys : List V} : Walk (RZ.ItzT K a b) (min xs.length ys.length) (fun H => SqT K H a xs ∧ SqT K H b ys) (YPair (fun i => xs[i]?) (fun i => ys[i]?)) := by
  refine ⟨fun i H hi q => ?_, fun H q => ⟨xs, ys, q.1, q.2, by omega⟩, fun i H v H' hi q y => ?_⟩
  · have g1 : i < xs.length := by omega
    have g2 : i < ys.length := by omega
    exact ⟨xs, ys, xs[i], ys[i], q.1, q.2, List.getElem?_eq_getElem g1, List.getElem?_eq_getElem g2⟩
  · obtain ⟨T, c, z, e1, e2, e3, e4, e5⟩ := y
    exact ⟨T, c, z, e1, e2, e3, e4 xs q.1, e5 ys q.2⟩
theorem okI_zip {ta : TA} {wa : DAW} (h : OkA K E ta wa) : OkI K E (RZ.iZipA K ta) (wiZip wa) := by
  intro u G H as M env σ Q Rv c hw fin
  refine h u G H as M env σ _ _ c hw fun vs G1 H1 as1 M1 ss sr1 l1 rs q1 => ?_
  split at q1
  · rename_i ds es
    obtain ⟨v, w, rfl, r1, r2⟩ := rs.two
    obtain ⟨p, xs, rfl, hp, hx⟩ := rep_lst.mp r1.d
    obtain ⟨q, ys, rfl, hq, hy⟩ := rep_lst.mp r2.d
    refine ⟨p, q, xs, ys, rfl, .inl ⟨SqL.of (sr1.gh _ _ hp), SqL.of (sr1.gh _ _ hq), fin _ (zipS ds es) G1 H1 as1 M1 sr1 l1 ?_ q1⟩⟩
    rw [zipS_len, ← hx.len, ← hy.len]
    exact (walk_zip (K := K) (a := p) (b := q) (xs := xs) (ys := ys) rfl).mono (fun H e => ⟨SqL.of (e _ _ hp), SqL.of (e _ _ hq)⟩) fun i H x H' _ _ y => ys_zip hx hy y
  · rename_i ds es
    obtain ⟨v, w, rfl, r1, r2⟩ := rs.two
    obtain ⟨p, xs, rfl, hp, hx⟩ := rep_tup.mp r1.d
    obtain ⟨q, ys, rfl, hq, hy⟩ := rep_tup.mp r2.d
    refine ⟨p, q, xs, ys, rfl, .inr ⟨SqT.of (sr1.gh _ _ hp), SqT.of (sr1.gh _ _ hq), fin _ (zipS ds es) G1 H1 as1 M1 sr1 l1 ?_ q1⟩⟩
    rw [zipS_len, ← hx.len, ← hy.len]
    exact (walkZipT (K := K) (a := p) (b := q) (xs := xs) (ys := ys)).mono (fun H e => ⟨SqT.of (e _ _ hp), SqT.of (e _ _ hq)⟩) fun i H x H' _ _ y => ys_zip hx hy y
  · exact q1.elim
/-! ### comprehensions -/
def wipeE (env : Env) : List Nat → Env
  | [] => env
  | v :: vs => (wipeE env vs).set v none
theorem wipeE_len (env : Env) : ∀ vs : List Nat, (wipeE env vs).length = env.length
  | [] => rfl
  | v :: vs => by unfold wipeE; rw [List.length_set, wipeE_len env vs]
theorem ER.clear {as : List Addr} {G : Hp} {env : Env} {σ : L2.St} (h : ER K as G env σ) (i : Nat) : ER K as G (env.set i none) (σ.set i none) := by
  refine ⟨by simpa using h.len, fun j t e => ?_⟩
  by_cases hj : j = i
  · subst hj
    have hl : j < env.length := by
      have := (List.getElem?_eq_some_iff.mp e).1
      simpa using this
    rw [List.getElem?_set_self hl] at e
    cases e
  · rw [List.getElem?_set_ne (Ne.symm hj)] at e ⊢
    exact h.get j t e
theorem ER.wipe {as : List Addr} {G : Hp} {env : Env} {σ : L2.St} (h : ER K as G env σ) : ∀ vs : List Nat, ER K as G (wipeE env vs) (L2.wipe σ vs)
  | [] => h
  | v :: vs => by
    unfold wipeE L2.wipe
    exact (ER.wipe h vs).clear v
/-- a target writes slots of vs alone -/
def GW (g : TG) (vs : List Nat) : Prop := ∀ (v : V) (σ : L2.St) (H : Hp) (Q Q' : L2.St → Hp → Prop), (∀ σ2 H2, L2.wipe σ2 vs = L2.wipe σ vs → Q σ2 H2 → Q' σ2 H2) → g v σ H Q → g v σ H Q'
def GWs (g : TGs) (vs : List Nat) : Prop := ∀ (xs : List V) (σ : L2.St) (H : Hp) (Q Q' : L2.St → Hp → Prop), (∀ σ2 H2, L2.wipe σ2 vs = L2.wipe σ vs → Q σ2 H2 → Q' σ2 H2) → g xs σ H Q → g xs σ H Q'
theorem wipe_set {σ : L2.St} {j : Nat} {x : Option V} : ∀ {vs : List Nat}, j ∈ vs → L2.wipe (σ.set j x) vs = L2.wipe σ vs
  | v :: vs, h => by
    unfold L2.wipe
    by_cases hv : j ∈ vs
    · rw [wipe_set hv]
    · have e : j = v := by
        rcases List.mem_cons.mp h with z | z
        · exact z
        · exact absurd z hv
      subst e
      have : ∀ (ws : List Nat), j ∉ ws → (L2.wipe (σ.set j x) ws) = (L2.wipe σ ws).set j x := by
        intro ws
        induction ws with
        | nil => intro _; rfl
        | cons w ws ih =>
          intro hw
          unfold L2.wipe
          rw [ih (fun z => hw (by simp [z])), List.set_comm _ _ (fun z => hw (by simp [z]))]
      rw [this vs hv, List.set_set]
theorem gw_name {j : Nat} {vs : List Nat} (h : j ∈ vs) : GW (gName j) vs := fun v σ H Q Q' k q => k _ _ (wipe_set h) q
theorem gws_nil {vs : List Nat} : GWs gNil vs := fun xs σ H Q Q' k q => ⟨q.1, k _ _ rfl q.2⟩
theorem gws_cons {g : TG} {gs : TGs} {vs : List Nat} (h1 : GW g vs) (h2 : GWs gs vs) : GWs (gCons g gs) vs := fun xs σ H Q Q' k ⟨v, r, e, q⟩ =>
  ⟨v, r, e, h1 v σ H _ _ (fun σ2 H2 e2 q2 => h2 r σ2 H2 _ _ (fun σ3 H3 e3 q3 => k σ3 H3 (e3.trans e2) q3) q2) q⟩
theorem gw_tup {n : Nat} {gs : TGs} {vs : List Nat} (h : GWs gs vs) : GW (gTup K n gs) vs := fun v σ H Q Q' k ⟨a, xs, e1, e2, e3, q⟩ => ⟨a, xs, e1, e2, e3, h xs σ H _ _ k q⟩
/-- one turn -/
def turnW (wg : DGW) (wt : DTW) (we : DW) (X : XC) (env : Env) (s : S) (M : Mem) (k : Option S → Mem → Prop) : Prop :=
  wg X s env M fun env' M' => wt X env' M' fun b M'' => if b = true then we X env' M'' fun v M3 => k (some v) M3 else k none M''
def dLc (wg : DGW) (wt : DTW) (we : DW) (X : XC) (env : Env) : List S → List D → Mem → (List D → Mem → Prop) → Prop
  | [], acc, M, Q => Q acc M
  | s :: r, acc, M, Q => turnW wg wt we X env s M fun o M' => match o with
    | some (.d d) => acc.length < 16000000 ∧ dLc wg wt we X env r (acc ++ [d]) M' Q
    | some _ => False
    | none => dLc wg wt we X env r acc M' Q
def wLc (wi : DIW) (wg : DGW) (wt : DTW) (we : DW) (vs : List Nat) : DW := fun X env M Q => wi X env M fun its M1 => dLc wg wt we X (wipeE env vs) its [] M1 fun acc M2 => Q (.d (.lst acc)) M2
def wLcO (wi : DIW) (wg : DGW) (wt : DTW) (we : DW) (vs : List Nat) : DW := fun X env M Q => wi X env M fun its M1 => dLc wg wt we X (wipeE env vs) its [] M1 fun acc M2 => Q (.m M2.length) (M2 ++ [.lst acc])
theorem SR.adopt {u : Wr} {G H : Hp} {as : List Addr} {M : Mem} (sr : SR u G H as M) {p : Addr} {o : HO} (hp : H p = some o) (hg : G p = none) (ha : p ∉ as) (hb : u.B p = none) (hn : u.hid p = none) (ho : ∀ ps, o ≠ .tbl ps := by intro _ z; cases z) : SR u (upd G p o) H as M := by
  have e : Ex G (upd G p o) := Ex.new hg
  refine ⟨fun a w h => ?_, sr.g0.trans e, sr.nd, sr.len, fun i a w h1 h2 => ?_, sr.there, sr.fr, sr.th, fun a h1 h2 => ?_, sr.wr, sr.pre, fun a w h => ?_, fun t ht => (let ⟨t1, t2, t3⟩ := sr.tb t ht; have q : t.1 ≠ p := (fun z => (let ⟨_, ps, e, _⟩ := t1; ho ps (Option.some.inj (hp.symm.trans (z ▸ e))))); ⟨t1.stay e (fun z => by rw [upd_ne q]; exact z) fun v z => z, t2, t3⟩)⟩
  · by_cases q : a = p
    · subst q; rw [upd_same] at h; cases h; exact hp
    · rw [upd_ne q] at h; exact sr.gh a w h
  · have q : a ≠ p := fun z => ha (z ▸ sr.mem h1)
    exact (sr.ms i a w h1 h2).stay e (fun z => by rw [upd_ne q]; exact z) fun v z => z
  · have q : a ≠ p := by rintro rfl; exact h1 hb
    rw [upd_ne q]; exact sr.nf a h1 h2
  · obtain ⟨h1, h2, h3⟩ := sr.hd a w h
    have q : a ≠ p := by rintro rfl; rw [hn] at h; cases h
    exact ⟨h1, by rw [upd_ne q]; exact h2, h3⟩
theorem XOk.hide {u : Wr} {p : Addr} {o : HO} (h : XOk K u) (hn : u.hid p = none) : XOk K (u.hide p o) := ⟨fun x cls G H as M sr q => h.1 x cls G H as M (sr.show_ hn) q, h.2⟩
/-- the core of both -/
theorem lc_run {ti : TI} {g : TG} {tt : TT} {te : TE} {wi : DIW} {wg : DGW} {wt : DTW} {we : DW} {vs : List Nat} (hi : OkI K E ti wi) (hg : OkG K E g wg) (hw : GW g vs) (ht : OkT K E tt wt) (he : OkE K E te we)
    {u : Wr} {G H : Hp} {as : List Addr} {M : Mem} {env : Env} {σ : L2.St} {Q : List D → Mem → Prop} {Qv : VK} (c : CS K E u G H as M env σ) (h : wi u.XQ env M fun its M1 => dLc wg wt we u.XQ (wipeE env vs) its [] M1 Q)
    (fin : ∀ p xs acc G' H' as' M', SR u G' H' as' M' → Le G as G' as' → H' p = some (.lst xs) → G' p = none → p ∉ as' → u.B p = none → u.hid p = none → Reps G' acc xs → Q acc M' → Qv (.ref p) H') : tLc ti g tt te vs σ H Qv := by
  refine hi u G H as M env σ _ _ c h fun J its G1 H1 as1 M1 sr1 l1 wk q1 => fun p hp => ?_
  have hg1 := sr1.gnone hp
  have hb := sr1.bnone hp
  have hn : u.hid p = none := none_of_ne fun z => by
    cases q : u.hid p with
    | none => exact z q
    | some o => have := (sr1.hd p o q).1; rw [hp] at this; cases this
  have ha : p ∉ as1 := fun z => sr1.there p z hp
  refine lc_it wk (fun i H => ∃ G2 as2 M2 acc xs, SR (u.hide p (.lst xs)) G2 H as2 M2 ∧ Le G1 as1 G2 as2 ∧ Reps G2 acc xs ∧ dLc wg wt we u.XQ (wipeE env vs) (its.drop i) acc M2 Q) ?_ ?_ ?_ ?_
  · exact ⟨G1, as1, M1, [], [], (sr1.other hg1 ha hb hn (by rw [hp]; intro _ z; cases z)).hide upd_same hg1 ha, Le.refl _ _, reps_nil.mpr rfl, q1⟩
  · rintro i H2 _ ⟨G2, as2, M2, acc, xs, sr2, l2, _, _⟩
    exact l2.ex.trans sr2.gh
  · rintro i x H2 H3 hlt ⟨G2, as2, M2, acc, xs, sr2, l2, hr, hd⟩ y
    obtain ⟨s, G3, es, sr3, l3, rx⟩ := ys_step sr2 l2 y
    have ed : its.drop i = s :: its.drop (i + 1) := by
      rw [List.drop_eq_getElem_cons hlt]
      congr 1
      rw [List.getElem?_eq_getElem hlt] at es
      exact Option.some.inj es
    rw [ed] at hd
    unfold dLc turnW at hd
    have er3 : ER K as2 G3 (wipeE env vs) (L2.wipe σ vs) := (c.er.wipe vs).mono ((l1.trans l2).trans l3)
    have c3 : CS K E (u.hide p (.lst xs)) G3 H3 as2 M2 (wipeE env vs) (L2.wipe σ vs) := ⟨c.eE, c.xok.hide hn, sr3, er3⟩
    refine hw x _ H3 _ _ (fun σ2 H2 e2 q => ⟨?_, q⟩) (hg (u.hide p (.lst xs)) G3 H3 as2 M2 _ _ s x _ (fun σ2 H2 => tt σ2 H2 fun b H3 => if b = true then te σ2 H3 fun y H4 => ∃ acc, H4 p = some (.lst acc) ∧ acc.length < sizeLine ∧ _ else _) c3 rx hd fun σ4 G4 H4 as4 M4 env4 sr4 l4 er4 q4 => ?_)
    · rw [e2]
      have : ∀ (ws vs : List Nat) (τ : L2.St), (∀ a ∈ ws, a ∈ vs) → L2.wipe (L2.wipe τ ws) vs = L2.wipe τ vs := by
        intro ws
        induction ws with
        | nil => intro vs τ _; rfl
        | cons w ws ih =>
          intro vs τ hh
          show L2.wipe ((L2.wipe τ ws).set w none) vs = _
          rw [wipe_set (hh w (by simp)), ih vs τ fun a z => hh a (by simp [z])]
      exact this vs vs σ fun a z => z
    · have l34 := l3.trans l4
      refine ht (u.hide p (.lst xs)) G4 H4 as4 M4 env4 σ4 _ _ ⟨c.eE, c.xok.hide hn, sr4, er4⟩ q4 fun b G5 H5 as5 M5 sr5 l5 q5 => ?_
      have l35 := l34.trans l5
      cases b with
      | false =>
        rw [if_neg (by decide)] at q5 ⊢
        exact ⟨G5, as5, M5, acc, xs, sr5, l2.trans l35, hr.mono l35.ex, q5⟩
      | true =>
        rw [if_pos rfl] at q5 ⊢
        refine he (u.hide p (.lst xs)) G5 H5 as5 M5 env4 σ4 _ _ ⟨c.eE, c.xok.hide hn, sr5, er4.mono l5⟩ q5 fun v G6 H6 as6 M6 sv sr6 l6 rv q6 => ?_
        have l36 := l35.trans l6
        obtain ⟨k1, k2, k3⟩ := sr6.seek
        cases sv with
        | d d =>
          obtain ⟨z1, z2⟩ := (show acc.length < 16000000 ∧ dLc wg wt we u.XQ (wipeE env vs) (its.drop (i + 1)) (acc ++ [d]) M6 Q from q6)
          refine ⟨xs, k1, by rw [hr.len]; exact Nat.lt_of_lt_of_le z1 line16, ?_⟩
          exact ⟨G6, as6, M6, acc ++ [d], xs ++ [v], ((sr6.show_ hn).other k2 k3 hb hn (by rw [k1]; intro _ z; cases z)).hide upd_same k2 k3, l2.trans l36, (hr.mono l36.ex).append (reps_one rv.d), z2⟩
        | m k => exact (show False from q6).elim
        | ml k => exact (show False from q6).elim
        | scr k => exact (show False from q6).elim
        | dic k => exact (show False from q6).elim
        | v k => exact (show False from q6).elim
        | acc k => exact (show False from q6).elim
  · rintro H2 ⟨G2, as2, M2, acc, xs, sr2, l2, hr, hd⟩
    rw [List.drop_length] at hd
    obtain ⟨k1, k2, k3⟩ := sr2.seek
    exact fin p xs acc G2 H2 as2 M2 (sr2.show_ hn) (l1.trans l2) k1 k2 k3 hb hn hr hd
theorem okE_lc {ti : TI} {g : TG} {tt : TT} {te : TE} {wi : DIW} {wg : DGW} {wt : DTW} {we : DW} {vs : List Nat} (hi : OkI K E ti wi) (hg : OkG K E g wg) (hw : GW g vs) (ht : OkT K E tt wt) (he : OkE K E te we) : OkE K E (tLc ti g tt te vs) (wLc wi wg wt we vs) := by
  intro u G H as M env σ Q Qv c h fin
  refine lc_run hi hg hw ht he c h fun p xs acc G' H' as' M' sr' l' h1 h2 h3 h4 h5 hr q => ?_
  have ex : Ex G' (upd G' p (.lst xs)) := Ex.new h2
  exact fin (.ref p) _ H' as' M' (.d (.lst acc)) (sr'.adopt h1 h2 h3 h4 h5) (l'.trans ⟨ex, [], by simp⟩) (rep_lst.mpr ⟨p, xs, rfl, upd_same, hr.mono ex⟩) q
theorem SR.own_ {u : Wr} {G H : Hp} {as : List Addr} {M : Mem} (sr : SR u G H as M) {p : Addr} {mo : MO} (hp : H p ≠ none) (ha : p ∉ as) (hb : u.B p = none) (hn : u.hid p = none) (hm : MR u G H mo p) (htb : ∀ ps, H p ≠ some (.tbl ps)) : SR u G H (as ++ [p]) (M ++ [mo]) := by
  refine ⟨sr.gh, sr.g0, ?_, by simp [sr.len], fun i a w h1 h2 => ?_, fun a h => ?_, sr.fr, sr.th, sr.nf, fun a h => ?_, (let ⟨t, e⟩ := sr.pre; ⟨t ++ [p], by rw [e, List.append_assoc]⟩), fun a w h => ?_, fun t tm => (let ⟨t1, t2, t3⟩ := sr.tb t tm; have q : t.1 ≠ p := (fun z => (let ⟨_, ps, e, _⟩ := t1; htb ps (z ▸ e))); ⟨t1, by simp [t2, q], t3⟩)⟩
  · rw [List.nodup_append]
    exact ⟨sr.nd, by simp, fun a h1 b h2 e => by
      have : b = p := by simpa using h2
      subst this
      exact ha (e ▸ h1)⟩
  · by_cases hi : i < as.length
    · rw [List.getElem?_append_left hi] at h1
      rw [List.getElem?_append_left (by rw [← sr.len]; exact hi)] at h2
      exact sr.ms i a w h1 h2
    · rw [List.getElem?_append_right (by omega)] at h1
      rw [List.getElem?_append_right (by rw [← sr.len]; omega)] at h2
      have h3 : i - as.length = 0 := by
        have := (List.getElem?_eq_some_iff.mp h1).1
        simp at this; omega
      have h4 : i - M.length = 0 := by rw [← sr.len]; exact h3
      rw [h3] at h1; rw [h4] at h2
      simp at h1 h2
      subst h1 h2
      exact hm
  · rcases List.mem_append.mp h with z | z
    · exact sr.there a z
    · have : a = p := by simpa using z
      subst this
      exact hp
  · rcases List.mem_append.mp h with z | z
    · exact sr.wr a z
    · have : a = p := by simpa using z
      subst this
      exact .inl hb
  · obtain ⟨h1, h2, h3⟩ := sr.hd a w h
    have q : a ≠ p := by rintro rfl; rw [hn] at h; cases h
    exact ⟨h1, h2, by simp [h3, q]⟩
theorem okE_lcO {ti : TI} {g : TG} {tt : TT} {te : TE} {wi : DIW} {wg : DGW} {wt : DTW} {we : DW} {vs : List Nat} (hi : OkI K E ti wi) (hg : OkG K E g wg) (hw : GW g vs) (ht : OkT K E tt wt) (he : OkE K E te we) : OkE K E (tLc ti g tt te vs) (wLcO wi wg wt we vs) := by
  intro u G H as M env σ Q Qv c h fin
  refine lc_run hi hg hw ht he c h fun p xs acc G' H' as' M' sr' l' h1 h2 h3 h4 h5 hr q => ?_
  refine fin (.ref p) G' H' (as' ++ [p]) _ (.m M'.length) (sr'.own_ (mo := .lst acc) (by rw [h1]; simp) h3 h4 h5 ⟨h2, h4, xs, h1, hr⟩ (by rw [h1]; intro _ z; cases z)) (l'.trans (Le.app G' as' [p])) ⟨p, by rw [← sr'.len]; simp, rfl⟩ q
end
end R
/-! Layer R, part 5: the rules by their syntax; a def's theorem. -/
namespace R
open PySem L2 Evl
/-! ### a comprehension whose elements are mutable objects -/
section
variable {K : PySem.W.Frag} {E : XK}
def dLcM (wg : DGW) (wt : DTW) (we : DW) (X : XC) (env : Env) : List S → List Nat → Mem → (List Nat → Mem → Prop) → Prop
  | [], acc, M, Q => Q acc M
  | s :: r, acc, M, Q => turnW wg wt we X env s M fun o M' => match o with
    | some (.m k) => acc.length < 16000000 ∧ dLcM wg wt we X env r (acc ++ [k]) M' Q
    | some _ => False
    | none => dLcM wg wt we X env r acc M' Q
def wLcM (wi : DIW) (wg : DGW) (wt : DTW) (we : DW) (vs : List Nat) : DW := fun X env M Q => wi X env M fun its M1 => dLcM wg wt we X (wipeE env vs) its [] M1 fun acc M2 => Q (.ml acc) M2
theorem refs_app {as : List Addr} : ∀ {is : List Nat} {xs : List V} {k : Nat} {a : Addr}, Refs as is xs → as[k]? = some a → Refs as (is ++ [k]) (xs ++ [.ref a])
  | [], xs, k, a, h, e => by
    have h' : xs = [] := h
    rw [h']
    exact ⟨a, [], rfl, e, rfl⟩
  | i :: is, xs, k, a, h, e => by
    obtain ⟨b, r, rfl, h1, h2⟩ := h
    exact ⟨b, r ++ [.ref a], rfl, h1, refs_app h2 e⟩
theorem okE_lcM {ti : TI} {g : TG} {tt : TT} {te : TE} {wi : DIW} {wg : DGW} {wt : DTW} {we : DW} {vs : List Nat} (hi : OkI K E ti wi) (hg : OkG K E g wg) (hw : GW g vs) (ht : OkT K E tt wt) (he : OkE K E te we) : OkE K E (tLc ti g tt te vs) (wLcM wi wg wt we vs) := by
  intro u G H as M env σ Qd Qv c h fin
  refine hi u G H as M env σ _ _ c h fun J its G1 H1 as1 M1 sr1 l1 wk q1 => fun p hp => ?_
  have hg1 := sr1.gnone hp
  have hb := sr1.bnone hp
  have hn : u.hid p = none := none_of_ne fun z => by
    cases q : u.hid p with
    | none => exact z q
    | some o => have := (sr1.hd p o q).1; rw [hp] at this; cases this
  have ha : p ∉ as1 := fun z => sr1.there p z hp
  refine lc_it wk (fun i H => ∃ G2 as2 M2 acc xs, SR (u.hide p (.lst xs)) G2 H as2 M2 ∧ Le G1 as1 G2 as2 ∧ Refs as2 acc xs ∧ dLcM wg wt we u.XQ (wipeE env vs) (its.drop i) acc M2 fun acc M2 => Qd (.ml acc) M2) ?_ ?_ ?_ ?_
  · exact ⟨G1, as1, M1, [], [], (sr1.other hg1 ha hb hn (by rw [hp]; intro _ z; cases z)).hide upd_same hg1 ha, Le.refl _ _, rfl, q1⟩
  · rintro i H2 _ ⟨G2, as2, M2, acc, xs, sr2, l2, _, _⟩
    exact l2.ex.trans sr2.gh
  · rintro i x H2 H3 hlt ⟨G2, as2, M2, acc, xs, sr2, l2, hr, hd⟩ y
    obtain ⟨s, G3, es, sr3, l3, rx⟩ := ys_step sr2 l2 y
    have ed : its.drop i = s :: its.drop (i + 1) := by
      rw [List.drop_eq_getElem_cons hlt]
      congr 1
      rw [List.getElem?_eq_getElem hlt] at es
      exact Option.some.inj es
    rw [ed] at hd
    unfold dLcM turnW at hd
    have er3 : ER K as2 G3 (wipeE env vs) (L2.wipe σ vs) := (c.er.wipe vs).mono ((l1.trans l2).trans l3)
    have c3 : CS K E (u.hide p (.lst xs)) G3 H3 as2 M2 (wipeE env vs) (L2.wipe σ vs) := ⟨c.eE, c.xok.hide hn, sr3, er3⟩
    refine hw x _ H3 _ _ (fun σ2 H2 e2 q => ⟨?_, q⟩) (hg (u.hide p (.lst xs)) G3 H3 as2 M2 _ _ s x _ (fun σ2 H2 => tt σ2 H2 fun b H3 => if b = true then te σ2 H3 fun y H4 => ∃ acc, H4 p = some (.lst acc) ∧ acc.length < sizeLine ∧ _ else _) c3 rx hd fun σ4 G4 H4 as4 M4 env4 sr4 l4 er4 q4 => ?_)
    · rw [e2]
      have : ∀ (ws vs : List Nat) (τ : L2.St), (∀ a ∈ ws, a ∈ vs) → L2.wipe (L2.wipe τ ws) vs = L2.wipe τ vs := by
        intro ws
        induction ws with
        | nil => intro vs τ _; rfl
        | cons w ws ih =>
          intro vs τ hh
          show L2.wipe ((L2.wipe τ ws).set w none) vs = _
          rw [wipe_set (hh w (by simp)), ih vs τ fun a z => hh a (by simp [z])]
      exact this vs vs σ fun a z => z
    · have l34 := l3.trans l4
      refine ht (u.hide p (.lst xs)) G4 H4 as4 M4 env4 σ4 _ _ ⟨c.eE, c.xok.hide hn, sr4, er4⟩ q4 fun b G5 H5 as5 M5 sr5 l5 q5 => ?_
      have l35 := l34.trans l5
      cases b with
      | false =>
        rw [if_neg (by decide)] at q5 ⊢
        exact ⟨G5, as5, M5, acc, xs, sr5, l2.trans l35, Refs.mono (fun _ _ => l35.get) hr, q5⟩
      | true =>
        rw [if_pos rfl] at q5 ⊢
        refine he (u.hide p (.lst xs)) G5 H5 as5 M5 env4 σ4 _ _ ⟨c.eE, c.xok.hide hn, sr5, er4.mono l5⟩ q5 fun v G6 H6 as6 M6 sv sr6 l6 rv q6 => ?_
        have l36 := l35.trans l6
        obtain ⟨k1, k2, k3⟩ := sr6.seek
        cases sv with
        | m k =>
          obtain ⟨z1, z2⟩ := (show acc.length < 16000000 ∧ dLcM wg wt we u.XQ (wipeE env vs) (its.drop (i + 1)) (acc ++ [k]) M6 (fun acc M2 => Qd (.ml acc) M2) from q6)
          obtain ⟨a, e6, rfl⟩ := rv
          refine ⟨xs, k1, by rw [refs_len hr]; exact Nat.lt_of_lt_of_le z1 line16, ?_⟩
          exact ⟨G6, as6, M6, acc ++ [k], xs ++ [.ref a], ((sr6.show_ hn).other k2 k3 hb hn (by rw [k1]; intro _ z; cases z)).hide upd_same k2 k3, l2.trans l36, refs_app (Refs.mono (fun _ _ => l36.get) hr) e6, z2⟩
        | d k => exact (show False from q6).elim
        | ml k => exact (show False from q6).elim
        | scr k => exact (show False from q6).elim
        | dic k => exact (show False from q6).elim
        | v k => exact (show False from q6).elim
        | acc k => exact (show False from q6).elim
  · rintro H2 ⟨G2, as2, M2, acc, xs, sr2, l2, hr, hd⟩
    rw [List.drop_length] at hd
    obtain ⟨k1, k2, k3⟩ := sr2.seek
    exact fin (.ref p) _ H2 as2 M2 (.ml acc) ((sr2.show_ hn).adopt k1 k2 k3 hb hn) ((l1.trans l2).trans ⟨Ex.new k2, [], by simp⟩) ⟨p, xs, rfl, upd_same, hr⟩ hd
end
/-! ### readings by the data alone -/
def tW (K : PySem.W.Frag) (E : XK) (w : DW) : TE := fun σ H Qv => ∃ (u : Wr) (G : Hp) (as : List Addr) (M : Mem) (env : Env) (Q : DK), CS K E u G H as M env σ ∧ w u.XQ env M Q ∧ Fin K u G as Q Qv
def ttW (K : PySem.W.Frag) (E : XK) (w : DTW) : TT := fun σ H Qv => ∃ (u : Wr) (G : Hp) (as : List Addr) (M : Mem) (env : Env) (Q : Bool → Mem → Prop), CS K E u G H as M env σ ∧ w u.XQ env M Q ∧ ∀ b G' H' as' M', SR u G' H' as' M' → Le G as G' as' → Q b M' → Qv b H'
def taW (K : PySem.W.Frag) (E : XK) (w : DAW) : TA := fun σ H Qv => ∃ (u : Wr) (G : Hp) (as : List Addr) (M : Mem) (env : Env) (Q : List S → Mem → Prop), CS K E u G H as M env σ ∧ w u.XQ env M Q ∧ ∀ vs G' H' as' M' ss, SR u G' H' as' M' → Le G as G' as' → SRs K as' G' ss vs → Q ss M' → Qv vs H'
def toW (K : PySem.W.Frag) (E : XK) (w : DOW) : TO := fun σ H Qv => ∃ (u : Wr) (G : Hp) (as : List Addr) (M : Mem) (env : Env) (Q : Option Int → Mem → Prop), CS K E u G H as M env σ ∧ w u.XQ env M Q ∧ ∀ o G' H' as' M', SR u G' H' as' M' → Le G as G' as' → Q o M' → Qv o H'
def tsW (K : PySem.W.Frag) (E : XK) (w : DSw) : TS := fun Dv σ H => ∃ (u : Wr) (G : Hp) (as : List Addr) (M : Mem) (env : Env) (Dn : DEnds), CS K E u G H as M env σ ∧ EndsOk K u G as Dn Dv ∧ w u.XQ Dn env M
def tiW (K : PySem.W.Frag) (E : XK) (w : DIW) : TI := fun σ H Rv => ∃ (u : Wr) (G : Hp) (as : List Addr) (M : Mem) (env : Env) (Q : List S → Mem → Prop), CS K E u G H as M env σ ∧ w u.XQ env M Q ∧
  ∀ J its G' H' as' M', SR u G' H' as' M' → Le G as G' as' → Walk J its.length (fun H => Ex G' H) (YS K as' G' its) → Q its M' → Rv J H'
section
variable {K : PySem.W.Frag} {E : XK}
theorem okW {w : DW} : OkE K E (tW K E w) w := fun u G H as M env σ Q Qv c h f => ⟨u, G, as, M, env, Q, c, h, f⟩
theorem okTW {w : DTW} : OkT K E (ttW K E w) w := fun u G H as M env σ Q Qv c h f => ⟨u, G, as, M, env, Q, c, h, f⟩
theorem okAW {w : DAW} : OkA K E (taW K E w) w := fun u G H as M env σ Q Qv c h f => ⟨u, G, as, M, env, Q, c, h, f⟩
theorem okOW {w : DOW} : OkO K E (toW K E w) w := fun u G H as M env σ Q Qv c h f => ⟨u, G, as, M, env, Q, c, h, f⟩
theorem okSW {w : DSw} : OkS K E (tsW K E w) w := fun u G H as M env σ Dn Dv c e h => ⟨u, G, as, M, env, Dn, c, e, h⟩
theorem okIW {w : DIW} : OkI K E (tiW K E w) w := fun u G H as M env σ Q Rv c h f => ⟨u, G, as, M, env, Q, c, h, f⟩
end
structure DE (X : Cx) (E : XK) (e : Expr) (w : DW) : Prop where
  pe : PE X e (tW X.K E w)
structure DT (X : Cx) (E : XK) (e : Expr) (w : DTW) : Prop where
  pe : PT X e (ttW X.K E w)
structure DTw (X : Cx) (E : XK) (e : Expr) (w : DTW) : Prop where
  pe : PW X e (ttW X.K E w)
structure DTs (X : Cx) (E : XK) (es : List Expr) (w : DTW) : Prop where
  pe : PTs X es (ttW X.K E w)
structure DA (X : Cx) (E : XK) (es : List Expr) (w : DAW) : Prop where
  pe : PA X es (taW X.K E w)
structure DO (X : Cx) (E : XK) (e : Option Expr) (w : DOW) : Prop where
  pe : PO X e (toW X.K E w)
structure DS (X : Cx) (E : XK) (st : Stmt) (w : DSw) : Prop where
  pe : PS X st (tsW X.K E w)
structure DSs (X : Cx) (E : XK) (sts : List Stmt) (w : DSw) : Prop where
  pe : PSs X sts (tsW X.K E w)
structure DI (X : Cx) (E : XK) (tg it : Expr) (w : DIW) : Prop where
  pe : PI X tg it (tiW X.K E w)
structure DG (X : Cx) (E : XK) (tg : Expr) (g : TG) (w : DGW) : Prop where
  pe : PG X tg g
  ok : OkG X.K E g w
structure DGL (X : Cx) (E : XK) (tg : List Expr) (g : TGs) (w : DGs) : Prop where
  pe : PGs X tg g
  ok : OkGs X.K E g w
section
variable {X : Cx} {E : XK}
theorem DE.mk' {e : Expr} {t : TE} {w : DW} (h : PE X e t) (k : OkE X.K E t w) : DE X E e w :=
  ⟨⟨fun pins s σ H Qv I ⟨u, G, as, M, env, Q, c, hw, f⟩ => h.run pins s σ H Qv I (k u G H as M env σ Q Qv c hw f)⟩⟩
theorem DT.mk' {e : Expr} {t : TT} {w : DTW} (h : PT X e t) (k : OkT X.K E t w) : DT X E e w :=
  ⟨⟨fun pins s σ H Qv I ⟨u, G, as, M, env, Q, c, hw, f⟩ => h.run pins s σ H Qv I (k u G H as M env σ Q Qv c hw f)⟩⟩
theorem DTw.mk' {e : Expr} {t : TT} {w : DTW} (h : PW X e t) (k : OkT X.K E t w) : DTw X E e w :=
  ⟨⟨fun wh pins s σ H Qv I ⟨u, G, as, M, env, Q, c, hw, f⟩ => h.run wh pins s σ H Qv I (k u G H as M env σ Q Qv c hw f)⟩⟩
theorem DTs.mk' {e : List Expr} {t : TT} {w : DTW} (h : PTs X e t) (k : OkT X.K E t w) : DTs X E e w :=
  ⟨⟨fun pins s σ H Qv I ⟨u, G, as, M, env, Q, c, hw, f⟩ => h.run pins s σ H Qv I (k u G H as M env σ Q Qv c hw f)⟩⟩
theorem DA.mk' {e : List Expr} {t : TA} {w : DAW} (h : PA X e t) (k : OkA X.K E t w) : DA X E e w :=
  ⟨⟨fun pos pins s σ H Qv I ⟨u, G, as, M, env, Q, c, hw, f⟩ => h.run pos pins s σ H Qv I (k u G H as M env σ Q Qv c hw f)⟩⟩
theorem DO.mk' {e : Option Expr} {t : TO} {w : DOW} (h : PO X e t) (k : OkO X.K E t w) : DO X E e w :=
  ⟨⟨fun pins s σ H Qv I ⟨u, G, as, M, env, Q, c, hw, f⟩ => h.run pins s σ H Qv I (k u G H as M env σ Q Qv c hw f)⟩⟩
theorem DS.mk' {e : Stmt} {t : TS} {w : DSw} (h : PS X e t) (k : OkS X.K E t w) : DS X E e w :=
  ⟨⟨fun pins s σ H Dv I ⟨u, G, as, M, env, Dn, c, eo, hw⟩ => h.run pins s σ H Dv I (k u G H as M env σ Dn Dv c eo hw)⟩⟩
theorem DSs.mk' {e : List Stmt} {t : TS} {w : DSw} (h : PSs X e t) (k : OkS X.K E t w) : DSs X E e w :=
  ⟨⟨fun pins s σ H Dv I ⟨u, G, as, M, env, Dn, c, eo, hw⟩ => h.run pins s σ H Dv I (k u G H as M env σ Dn Dv c eo hw)⟩⟩
theorem DI.mk' {tg e : Expr} {t : TI} {w : DIW} (h : PI X tg e t) (k : OkI X.K E t w) : DI X E tg e w :=
  ⟨⟨fun pins s σ H Rv I ⟨u, G, as, M, env, Q, c, hw, f⟩ => h.run pins s σ H Rv I (k u G H as M env σ Q Rv c hw f)⟩⟩
/-! ### names, constants -/
theorem d_var (i : Nat) {x : Str} {pos : Pos} (hN : X.N[i]? = some x := by rfl) (hv : Vis X.env.scope x := by first | exact Or.inl rfl | exact Or.inr (Or.inl rfl) | exact Or.inr (Or.inr rfl)) (hd : (x == ("__debug__" : Str)) = false := by decide)
    (hcd : (x == ("__classdict__" : Str)) = false := by decide) : DE X E (.Name x pos) (wVar i) := .mk' (pe_var hN hv hd hcd) (okE_var i)
theorem d_int {i : Int} {j pos} : DE X E (.Constant (.int i) j pos) (wC (.int i)) := .mk' pe_int (okE_int i)
theorem d_bl {i : Bool} {j pos} : DE X E (.Constant (.bool i) j pos) (wC (.bl i)) := .mk' pe_bl (okE_bl i)
theorem d_non {j pos} : DE X E (.Constant .none j pos) (wC .non) := .mk' pe_non okE_non
theorem d_str {i : Str} {j pos} : DE X E (.Constant (.str i) j pos) (wC (.str i)) := .mk' pe_str (okE_str i)
/-- a module's constant -/
def MgI (mg : Str → Option Value) (x : Str) (i : Int) : Prop := ∃ t, mg x = some (.int i t)
theorem d_glob {x : Str} {i : Int} {pos : Pos} (hm : MgI X.mg x i) (hg : Gl X x := by rfl) (hd : (x == ("__debug__" : Str)) = false := by decide) : DE X E (.Name x pos) (wC (.int i)) := by
  obtain ⟨t, e⟩ := hm
  exact .mk' (pe_glob (v := .int i) hg e ⟨t, rfl⟩ hd) (okE_int i)
/-! ### operations -/
variable {a b c e : Expr} {wa wb wc we : DW} {pos : Pos}
theorem d_op {op : Operator} {r : R2} {f : DF} (ho : OpR X (binaryOp op) r) (hf : OkR X.K r f) (ha : DE X E a wa) (hb : DE X E b wb) : DE X E (.BinOp a op b pos) (wOp f wa wb) := .mk' (pe_op ho ha.pe hb.pe) (okE_op okW okW hf)
theorem d_add (ha : DE X E a wa) (hb : DE X E b wb) : DE X E (.BinOp a .Add b pos) (wOp fAdd wa wb) := d_op opAdd okR_add ha hb
theorem d_sub (ha : DE X E a wa) (hb : DE X E b wb) : DE X E (.BinOp a .Sub b pos) (wOp fSub wa wb) := d_op op_sub okR_sub ha hb
theorem d_mul (ha : DE X E a wa) (hb : DE X E b wb) : DE X E (.BinOp a .Mult b pos) (wOp fMul wa wb) := d_op op_mul okR_I ha hb
theorem d_div (ha : DE X E a wa) (hb : DE X E b wb) : DE X E (.BinOp a .FloorDiv b pos) (wOp fDiv wa wb) := d_op op_fdiv okR_I ha hb
theorem d_mod (ha : DE X E a wa) (hb : DE X E b wb) : DE X E (.BinOp a .Mod b pos) (wOp fMod wa wb) := d_op op_mod okR_I ha hb
theorem d_pow (ha : DE X E a wa) (hb : DE X E b wb) : DE X E (.BinOp a .Pow b pos) (wOp fPow wa wb) := d_op op_pow okR_I ha hb
theorem d_neg (ha : DE X E a wa) : DE X E (.UnaryOp .USub a pos) (wUn fNeg wa) := .mk' (pe_un un_neg ha.pe) (okE_un okW okU_neg)
theorem d_cmp {op : CmpOp} {r : R2} {f : DF} (ho : OpR X (compareOp op) r) (hf : OkR X.K r f) (ha : DE X E a wa) (hb : DE X E b wb) (hm : behindInMarks op b = false) : DE X E (.Compare a [op] [b] pos) (wOp f wa wb) := .mk' (pe_cmpR ho ha.pe hb.pe hm) (okE_op okW okW hf)
theorem t_cmp {op : CmpOp} {r : R2} {f : DF} (ho : OpR X (compareOp op) r) (hf : OkR X.K r f) (ha : DE X E a wa) (hb : DE X E b wb) (hm : behindInMarks op b = false) : DT X E (.Compare a [op] [b] pos) (wTst (wOp f wa wb)) := .mk' (pt_cmpR ho ha.pe hb.pe hm) (okT_tst (okE_op okW okW hf))
theorem d_lt (ha : DE X E a wa) (hb : DE X E b wb) : DE X E (.Compare a [.Lt] [b] pos) (wOp fLt wa wb) := d_cmp op_lt okR_B ha hb (nomark _)
theorem d_le (ha : DE X E a wa) (hb : DE X E b wb) : DE X E (.Compare a [.LtE] [b] pos) (wOp fLe wa wb) := d_cmp op_le okR_B ha hb (nomark _)
theorem d_gt (ha : DE X E a wa) (hb : DE X E b wb) : DE X E (.Compare a [.Gt] [b] pos) (wOp fGt wa wb) := d_cmp op_gt okR_B ha hb (nomark _)
theorem d_ge (ha : DE X E a wa) (hb : DE X E b wb) : DE X E (.Compare a [.GtE] [b] pos) (wOp fGe wa wb) := d_cmp op_ge okR_B ha hb (nomark _)
theorem d_eq {k : Nat} (hr : Room k X.A) (ha : DE X E a wa) (hb : DE X E b wb) : DE X E (.Compare a [.Eq] [b] pos) (wOp fEq wa wb) := d_cmp (op_eqD hr.units) okR_eq ha hb (nomark _)
theorem d_ne {k : Nat} (hr : Room k X.A) (ha : DE X E a wa) (hb : DE X E b wb) : DE X E (.Compare a [.NotEq] [b] pos) (wOp fNe wa wb) := d_cmp (op_neD hr.units) okR_ne ha hb (nomark _)
theorem d_isN (ha : DE X E a wa) (hb : DE X E b wb) : DE X E (.Compare a [.Is] [b] pos) (wOp fIsN wa wb) := d_cmp op_isN okR_isN ha hb (nomark _)
theorem d_notN (ha : DE X E a wa) (hb : DE X E b wb) : DE X E (.Compare a [.IsNot] [b] pos) (wOp fNotN wa wb) := d_cmp op_notN okR_notN ha hb (nomark _)
theorem d_isB (ha : DE X E a wa) (hb : DE X E b wb) : DE X E (.Compare a [.Is] [b] pos) (wOp fIsB wa wb) := d_cmp op_isBl okR_isB ha hb (nomark _)
theorem d_notB (ha : DE X E a wa) (hb : DE X E b wb) : DE X E (.Compare a [.IsNot] [b] pos) (wOp fNotB wa wb) := d_cmp op_notBl okR_notB ha hb (nomark _)
theorem t_lt (ha : DE X E a wa) (hb : DE X E b wb) : DT X E (.Compare a [.Lt] [b] pos) (wTst (wOp fLt wa wb)) := t_cmp op_lt okR_B ha hb (nomark _)
theorem t_le (ha : DE X E a wa) (hb : DE X E b wb) : DT X E (.Compare a [.LtE] [b] pos) (wTst (wOp fLe wa wb)) := t_cmp op_le okR_B ha hb (nomark _)
theorem t_gt (ha : DE X E a wa) (hb : DE X E b wb) : DT X E (.Compare a [.Gt] [b] pos) (wTst (wOp fGt wa wb)) := t_cmp op_gt okR_B ha hb (nomark _)
theorem t_ge (ha : DE X E a wa) (hb : DE X E b wb) : DT X E (.Compare a [.GtE] [b] pos) (wTst (wOp fGe wa wb)) := t_cmp op_ge okR_B ha hb (nomark _)
theorem t_eq {k : Nat} (hr : Room k X.A) (ha : DE X E a wa) (hb : DE X E b wb) : DT X E (.Compare a [.Eq] [b] pos) (wTst (wOp fEq wa wb)) := t_cmp (op_eqD hr.units) okR_eq ha hb (nomark _)
theorem t_ne {k : Nat} (hr : Room k X.A) (ha : DE X E a wa) (hb : DE X E b wb) : DT X E (.Compare a [.NotEq] [b] pos) (wTst (wOp fNe wa wb)) := t_cmp (op_neD hr.units) okR_ne ha hb (nomark _)
theorem t_isN (ha : DE X E a wa) (hb : DE X E b wb) : DT X E (.Compare a [.Is] [b] pos) (wTst (wOp fIsN wa wb)) := t_cmp op_isN okR_isN ha hb (nomark _)
theorem t_notN (ha : DE X E a wa) (hb : DE X E b wb) : DT X E (.Compare a [.IsNot] [b] pos) (wTst (wOp fNotN wa wb)) := t_cmp op_notN okR_notN ha hb (nomark _)
theorem t_isB (ha : DE X E a wa) (hb : DE X E b wb) : DT X E (.Compare a [.Is] [b] pos) (wTst (wOp fIsB wa wb)) := t_cmp op_isBl okR_isB ha hb (nomark _)
theorem t_notB (ha : DE X E a wa) (hb : DE X E b wb) : DT X E (.Compare a [.IsNot] [b] pos) (wTst (wOp fNotB wa wb)) := t_cmp op_notBl okR_notB ha hb (nomark _)
theorem d_chain {op op' : CmpOp} {r r' : R2} {f f' : DF} (ho : OpR X (compareOp op) r) (ho' : OpR X (compareOp op') r') (hf : OkR X.K r f) (hf' : OkR X.K r' f') (ha : DE X E a wa) (hb : DE X E b wb) (hc : DE X E c wc)
    (hm : lastMarks [op, op'] [b, c] = false := by with_unfolding_all rfl) : DE X E (.Compare a [op, op'] [b, c] pos) (wChain f f' wa wb wc) := .mk' (pe_chain ho ho' ha.pe hb.pe hc.pe hm) (okE_chain hf hf' okW okW okW)
theorem t_chain {op op' : CmpOp} {r r' : R2} {f f' : DF} (ho : OpR X (compareOp op) r) (ho' : OpR X (compareOp op') r') (hf : OkR X.K r f) (hf' : OkR X.K r' f') (ha : DE X E a wa) (hb : DE X E b wb) (hc : DE X E c wc)
    (hm : lastMarks [op, op'] [b, c] = false := by with_unfolding_all rfl) : DT X E (.Compare a [op, op'] [b, c] pos) (wTst (wChain f f' wa wb wc)) := .mk' (pt_chain ho ho' ha.pe hb.pe hc.pe hm) (okT_tst (okE_chain hf hf' okW okW okW))
/-! ### and, or, not, if -/
variable {ta tb : DTW} {rest : List Expr}
theorem t_val (h : DE X E a wa) (he : ∀ whole, isTrue a X.env whole = (do let v ← whole; standAt a.pos; holding [v] (truthy v)) := by intro _; rfl) : DT X E a (wTst wa) := .mk' (pt_val h.pe he) (okT_B okW)
theorem tw_and1 (h : DT X E a ta) : DTw X E (.BoolOp .And [a] pos) ta := .mk' (pw_and1 h.pe) okTW
theorem tw_or1 (h : DT X E a ta) : DTw X E (.BoolOp .Or [a] pos) ta := .mk' (pw_or1 h.pe) okTW
theorem tw_and (ha : DT X E a ta) (hb : DTw X E (.BoolOp .And (b :: rest) pos) tb) : DTw X E (.BoolOp .And (a :: b :: rest) pos) (wAndT ta tb) := .mk' (pw_and ha.pe hb.pe) (okT_and okTW okTW)
theorem tw_or (ha : DT X E a ta) (hb : DTw X E (.BoolOp .Or (b :: rest) pos) tb) : DTw X E (.BoolOp .Or (a :: b :: rest) pos) (wOrT ta tb) := .mk' (pw_or ha.pe hb.pe) (okT_or okTW okTW)
theorem t_w (h : DTw X E a ta) : DT X E a ta := .mk' h.pe.pt okTW
theorem t_not (h : DT X E a ta) : DT X E (.UnaryOp .Not a pos) (wNotT ta) := .mk' (pt_not h.pe) (okT_not okTW)
theorem d_one {op} (h : DE X E a wa) : DE X E (.BoolOp op [a] pos) wa := .mk' (pe_one h.pe) okW
theorem d_and (ha : DE X E a wa) (hb : DE X E (.BoolOp .And (b :: rest) pos) wb) : DE X E (.BoolOp .And (a :: b :: rest) pos) (wAndV wa wb) := .mk' (pe_and ha.pe hb.pe) (okE_and okW okW)
theorem d_or (ha : DE X E a wa) (hb : DE X E (.BoolOp .Or (b :: rest) pos) wb) : DE X E (.BoolOp .Or (a :: b :: rest) pos) (wOrV wa wb) := .mk' (pe_or ha.pe hb.pe) (okE_or okW okW)
theorem d_not (h : DE X E a wa) : DE X E (.UnaryOp .Not a pos) (wNotV wa) := .mk' (pe_not h.pe) (okE_not okW)
theorem d_if (hc : DT X E c ta) (ha : DE X E a wa) (hb : DE X E b wb) : DE X E (.IfExp c a b pos) (wIf ta wa wb) := .mk' (pe_ifExp hc.pe ha.pe hb.pe) (okE_if okTW okW okW)
/-! ### displays, items, slices -/
variable {es : List Expr} {wl : DAW}
theorem a_nil : DA X E [] wNil := .mk' pa_nil okA_nil
theorem a_cons (ha : DE X E e we) (hr : DA X E es wl) (hs : starEach (e :: es) X.env = (false, eval e X.env) :: starEach es X.env := by rfl) : DA X E (e :: es) (wCons we wl) := .mk' (pa_cons ha.pe hr.pe hs) (okA_cons okW okAW)
theorem d_tup {x1} (h : DA X E es wl) : DE X E (.Tuple es x1 pos) (wTup wl) := .mk' (pe_tup h.pe) (okE_tup okAW)
theorem d_lst (h : DA X E es wl) : DE X E (.List es pos) (wLst wl) := .mk' (pe_lst h.pe) (okE_lst okAW)
theorem d_lstO (h : DA X E es wl) : DE X E (.List es pos) (wLstO wl) := .mk' (pe_lst h.pe) (okE_lstO okAW)
theorem d_ix (ha : DE X E a wa) (hb : DE X E b wb) (hs : PlainIx b := by intro _ _; rfl) : DE X E (.Subscript a b pos) (wOp fIx wa wb) := .mk' (pe_ix ixD ha.pe hb.pe hs) (okE_op okW okW okR_ix)
variable {lo hi : Option Expr} {wlo whi : DOW} {p2 : Pos}
theorem o_none : DO X E none wNo := .mk' po_none fun u G H as M env σ Q Qv c h f => f _ G H as M c.sr (Le.refl G as) h
theorem o_some (h : DE X E e we) : DO X E (some e) (wSome we) := .mk' (po_some h.pe) fun u G H as M env σ Q Qv c hw f =>
  ⟨u, G, as, M, env, _, c, hw, fun v G' H' as' M' s sr l r q => by
    split at q
    · rename_i i
      exact ⟨i, rep_int.mp r.d, f _ G' H' as' M' sr l q⟩
    · exact q.elim⟩
theorem d_sl (he : DE X E e we) (hl : DO X E lo wlo) (hh : DO X E hi whi) : DE X E (.Subscript e (.Slice lo hi none p2) pos) (wSl we wlo whi) := .mk' (pe_slice slD he.pe hl.pe hh.pe) (by
  intro u G H as M env σ Q Qv c h fin
  refine ⟨u, G, as, M, env, _, c, h, fun v G1 H1 as1 M1 s sr1 l1 r1 q1 => ?_⟩
  refine ⟨u, G1, as1, M1, env, _, c.step sr1 l1, q1, fun o G2 H2 as2 M2 sr2 l2 q2 => ?_⟩
  refine ⟨u, G2, as2, M2, env, _, (c.step sr1 l1).step sr2 l2, q2, fun o' G3 H3 as3 M3 sr3 l3 q3 => ?_⟩
  exact okSl sr3 (r1.mono (l2.trans l3)) q3 (fin.from ((l1.trans l2).trans l3)))
theorem d_rev {k : Nat} {p1 p2 p3 : Pos} (he : DE X E e we) : DE X E (.Subscript e (.Slice none none (some (.UnaryOp .USub (.Constant (.int 1) k p1) p2)) p3) pos) (wUn fRev we) := .mk' (pe_revL he.pe) (okE_rev okW)
/-! ### calls -/
variable {x : Str} {p : Pos}
theorem d_callB {id : String} {r : List V → Hp → VK → Prop} {f : DFC} (hc : CallR X (.builtin id) r) (hf : OkC X.K r f) (hm : X.mg x = none) (hv : bootBuiltins x = some (.builtin id)) (ha : DA X E (e :: es) wl) (hg : Gl X x := by rfl) (hn : x ≠ "__name__" := by decide) (hdb : (x == ("__debug__" : Str)) = false := by decide)
    (he : starEach (e :: es) X.env = (false, eval e X.env) :: starEach es X.env := by rfl) (hpl : (backTo pos (starEach es X.env)).any (·.1) = false := by rfl) : DE X E (.Call (.Name x p) (e :: es) [] pos) (wCB f wl) := .mk' (pe_callB hc hg hm hv ha.pe hn hdb he hpl) (okE_CB okAW hf)
theorem d_callTy {T : String} {r : List V → Hp → VK → Prop} {f : DFC} (hc : CallR X (.type T) r) (hf : OkC X.K r f) (hm : X.mg x = none) (hv : bootBuiltins x = some (.type T)) (ha : DA X E (e :: es) wl) (hg : Gl X x := by rfl) (hn : x ≠ "__name__" := by decide) (hdb : (x == ("__debug__" : Str)) = false := by decide)
    (he : starEach (e :: es) X.env = (false, eval e X.env) :: starEach es X.env := by rfl) (hpl : (backTo pos (starEach es X.env)).any (·.1) = false := by rfl) : DE X E (.Call (.Name x p) (e :: es) [] pos) (wCB f wl) := .mk' (pe_callTy hc hg hm hv ha.pe hn hdb he hpl) (okE_CB okAW hf)
theorem pe_callR {CX : CXT} {k : Nat} {f : Addr} {sp : Sp} {E' : XK} {t : TA} (F : FnR X.prog X.w X.K X.mg X.base CX k f sp) (hr : Room k X.A) (hk : PySem.W.keepIn X.K (.ref f) = true) (hg : Gl X x) (hm : X.mg x = some (.ref f)) (hx : Passes CX X E') (ha : PA X (e :: es) t)
    (hd : (x == ("__debug__" : Str)) = false := by decide) (he : starEach (e :: es) X.env = (false, eval e X.env) :: starEach es X.env := by rfl) (hpl : (backTo pos (starEach es X.env)).any (·.1) = false := by rfl) : PE X (.Call (.Name x p) (e :: es) [] pos) (fun σ H Q => t σ H fun vs H1 => sp vs H1 Q E') :=
  ⟨fun pins s σ H Q I h => wpAny_Call_Name_kw (ld_glob I hg hm (PySem.W.callWith_K (h₀ := X.base) I.ok.mod.kin hk (thn (ha.run pos pins s σ H _ I h) fun us s1 ⟨vs, H1, I1, r, q⟩ => ⟨I1.kIn, wpAny_call (run_fnR F hr hx I1 r q)⟩) he hpl) hd)⟩
theorem d_call {k : Nat} {f : Addr} {sp : DSpec} (F : FnR X.prog X.w X.K X.mg X.base CX0 k f (spOf X.K sp)) (hr : Room k X.A) (hk : PySem.W.keepIn X.K (.ref f) = true) (hm : X.mg x = some (.ref f)) (ha : DA X E (e :: es) wl) (hg : Gl X x := by rfl)
    (hd : (x == ("__debug__" : Str)) = false := by decide) (he : starEach (e :: es) X.env = (false, eval e X.env) :: starEach es X.env := by rfl) (hpl : (backTo pos (starEach es X.env)).any (·.1) = false := by rfl) : DE X E (.Call (.Name x p) (e :: es) [] pos) (wCall sp wl) :=
  .mk' (pe_callR F hr hk hg hm pass0 ha.pe hd he hpl) (okE_call okAW)
theorem d_fz (h : DE X E e we) : DE X E e (wFz we) := .mk' h.pe (okE_fz okW)
theorem d_isi {T : BT} {n : Str} {p1 p2 : Pos} (hm : X.mg "isinstance" = none) (hn0 : X.mg n = none) (hv : bootBuiltins n = some (.type T.name)) (ha : DE X E e we) (hg : Gl X "isinstance" := by rfl) (hgn : Gl X n := by rfl) (hn : n ≠ "__name__" := by decide) (hdb : (n == ("__debug__" : Str)) = false := by decide)
    (h1 : starEach [e, .Name n p1] X.env = (false, eval e X.env) :: starEach [.Name n p1] X.env := by rfl) (h2 : starEach [.Name n p1] X.env = (false, eval (.Name n p1) X.env) :: starEach [] X.env := by rfl) (hpl : (backTo pos (starEach [.Name n p1] X.env)).any (·.1) = false := by rfl) :
    DE X E (.Call (.Name "isinstance" p2) [e, .Name n p1] [] pos) (fun X env M Q => we X env M fun s M1 => match s with
      | .d d => Q (.d (.bl (isiD d T))) M1
      | _ => False) := .mk' (pe_callB call_isi hg hm (by decide +kernel) (pa_cons ha.pe (pa_cons (pe_bltn (v := .ty T.name) hgn hn0 hv rfl hn hdb) pa_nil h2) h1) (by decide) (by decide) h1 hpl) (okE_isi okW)
/-! ### targets -/
theorem g_name {i : Nat} {x : Str} (hN : X.N.Nodup) (hi : X.N[i]? = some x := by rfl) (hx : Loc X.env.scope x := by first | exact Or.inl rfl | exact Or.inr rfl) (hf : X.fn x = true ∨ X.env.scope.names.lookup x = some .local := by first | exact .inl rfl | exact .inr rfl | assumption) : DG X E (.Name x pos) (gName i) (wgName i) := ⟨pg_name hN hi hx hf, okG_name i⟩
theorem gl_nil : DGL X E [] gNil wgNil := ⟨pgs_nil, okGs_nil⟩
theorem gl_cons {g : TG} {gs : TGs} {w : DGW} {ws : DGs} (h1 : DG X E e g w) (h2 : DGL X E es gs ws) (hs : (assignEach (e :: es) X.env).map (·.2) = assign e X.env :: (assignEach es X.env).map (·.2) := by rfl) : DGL X E (e :: es) (gCons g gs) (wgCons w ws) := ⟨pgs_cons h1.pe h2.pe hs, okGs_cons h1.ok h2.ok⟩
theorem g_tup {k n : Nat} {gs : TGs} {ws : DGs} (hc : X.calm = true) (h : DGL X E es gs ws) (hn : (assignEach es X.env).length = n := by rfl) (hst : (assignEach es X.env).findIdx? (·.1) = none := by rfl) : DG X E (.Tuple es k pos) (gTup X.K n gs) (wgTup n ws) := ⟨pg_tup hc h.pe hn hst, okG_tup h.ok⟩
theorem g_sub (ho : DE X E a wa) (hi : DE X E b wb) (ha : ∀ v, assign (.Subscript a b pos) X.env v = (do
      let ov ← holding [v] (eval a X.env)
      let iv ← holding [v, ov] (eval b X.env)
      standAt pos
      holding [v, ov, iv] (setItem ov iv v)
      release [v, ov, iv] []) := by intro _; rfl) : DG X E (.Subscript a b pos) (gSub (tW X.K E wa) (tW X.K E wb) rSetL) (wgSub wa wb) := ⟨pg_sub ho.pe hi.pe set_list ha, okG_sub okW okW⟩
/-! ### statements -/
variable {st : Stmt} {sts : List Stmt} {w1 w2 : DSw}
theorem s_nil : DSs X E [] wNext := .mk' pss_nil okS_next
theorem s_cons (h1 : DS X E st w1) (h2 : DSs X E sts w2) : DSs X E (st :: sts) (wSeq w1 w2) := .mk' (pss_cons h1.pe h2.pe) (okS_seq okSW okSW)
theorem s_one (h1 : DS X E st w1) : DSs X E [st] w1 := .mk' (pss_one h1.pe) okSW
theorem s_frz (i : Nat) (h : DSs X E sts w1) : DSs X E sts (wFrz i w1) := .mk' h.pe (okS_frz okSW)
theorem s_never : DS X E st wNever := .mk' ps_never okS_never
theorem s_pass : DS X E (.Pass pos) wNext := .mk' ps_pass okS_next
theorem s_brk : DS X E (.Break pos) wBrk := .mk' ps_break okS_brk
theorem s_cnt : DS X E (.Continue pos) wCnt := .mk' ps_continue okS_cnt
theorem s_doc {x : Str} {j : Nat} {p1 p2 : Pos} : DS X E (.Expr (.Constant (.str x) j p1) p2) wNext := .mk' ps_doc okS_next
theorem s_expr (h : DE X E e we) (hs : swapsWith e none pos.line X.env = pure false := by rfl) : DS X E (.Expr e pos) (wDrop we) := .mk' (ps_expr h.pe hs) (okS_drop okW)
theorem s_ret (h : DE X E e we) : DS X E (.Return (some e) pos) (wRet we) := .mk' (ps_ret h.pe) (okS_ret okW)
theorem s_retN : DS X E (.Return none pos) wRetN := .mk' ps_retN okS_retN
theorem s_if {sb : List Stmt} {tc : DTW} (hc : DT X E c tc) (ha : DSs X E sts w1) (hb : DSs X E sb w2) : DS X E (.If c sts sb pos) (wIfS tc w1 w2) := .mk' (ps_if hc.pe ha.pe hb.pe) (okS_if okTW okSW okSW)
theorem s_asg {tg : Expr} {g : TG} {w : DGW} (h : DE X E e we) (hg : DG X E tg g w) (hs : swapsWithSole [tg] e pos.line X.env = pure false := by rfl) (hw : swappedStores [tg] e X.env = pure none := by rfl) (h1 : (assignEach [tg] X.env).map (·.2) = [assign tg X.env] := by rfl) : DS X E (.Assign [tg] e pos) (wAsg we w) := .mk' (ps_asg h.pe hg.pe hs hw h1) (okS_asg okW hg.ok)
theorem s_set {i : Nat} {x : Str} {pos' : Pos} (hN : X.N.Nodup) (h : DE X E e we) (hi : X.N[i]? = some x := by rfl) (hx : Loc X.env.scope x := by first | exact Or.inl rfl | exact Or.inr rfl) (hs : swapsWith e (some (.Name x pos')) pos.line X.env = pure false := by rfl)
    (hf : X.fn x = true ∨ X.env.scope.names.lookup x = some .local := by first | exact .inl rfl | exact .inr rfl | assumption) : DS X E (.Assign [.Name x pos'] e pos) (wAsg we (wgName i)) := .mk' (ps_set hN hi hx h.pe hs hf) (okS_asg okW (okG_name i))
theorem s_for {tg it : Expr} {g : TG} {w : DGW} {wi : DIW} (hp : PassesOwn (model X.prog X.w) X.A X.env X.xe) (hc : X.calm = true) (hi : DI X E tg it wi) (hg : DG X E tg g w) (hb : DSs X E sts w1) (hs : ∀ x, foldedSetIterable it X.env x = pure x := by intro _; rfl) : DS X E (.For tg it sts [] pos) (wFor wi w w1) :=
  .mk' (ps_for hp hc hi.pe hg.pe hb.pe hs) (okS_for okIW hg.ok okSW)
theorem s_while {tc : DTW} (hp : PassesOwn (model X.prog X.w) X.A X.env X.xe) (hc : DT X E c tc) (hb : DSs X E sts w1) : DS X E (.While c sts [] pos) (wWhile tc w1) := .mk' (ps_while hp hc.pe hb.pe) (okS_while okTW okSW)
def wAppend (wo we : DW) : DW := fun X env M Q => wo X env M fun o M1 => match o with
  | .m k => (match M1[k]? with
    | some (.lst _) => we X env M1 fun s M2 => (match s with
      | .d d => (match M2[k]? with
        | some (.lst ds) => ds.length < 16000000 ∧ Q (.d .non) (M2.set k (.lst (ds ++ [d])))
        | _ => False)
      | _ => False)
    | _ => False)
  | _ => False
theorem d_append {apos cpos : Pos} (ho : DE X E a wa) (he : DE X E e we) (hbase : attributeBase a "append" X.env (eval a X.env) = eval a X.env := by rfl)
    (hfew : ((backTo cpos (starEach [e] X.env)).all (fun x => !x.1) && (backToKw cpos (keywordEach [] X.env)).all (fun x => x.1.isSome)
      && decide ([e].length + ([] : List Keyword).length + (if ([] : List Keyword).isEmpty then 0 else 1) < 30)) = true := by rfl)
    (hline : (apos.endLine == cpos.line) = true := by rfl) (hs : starEach [e] X.env = (false, eval e X.env) :: starEach [] X.env := by rfl) (hplain : (backTo cpos (starEach [] X.env)).any (·.1) = false := by rfl) :
    DE X E (.Call (.Attribute a "append" apos) [e] [] cpos) (wAppend wa we) :=
  .mk' (pe_bm PySem.F.plainAttrs_list PySem.F.slot_list_append PySem.F.type_list_append mt_append ho.pe (pa_cons he.pe pa_nil hs) hbase hfew hline hs hplain) (okE_app okW okW)
/-! ### what is walked -/
variable {tg : Expr}
theorem i_lst (h : DE X E e we) : DI X E tg e (wiLst we) := .mk' (pi_list h.pe) (okI_lst okW)
theorem i_tup (h : DE X E e we) : DI X E tg e (wiTup we) := .mk' (pi_tup h.pe) (okI_tup okW)
theorem i_r1 (hm : X.mg "range" = none) (ha : DA X E [a] wl) (hg : Gl X "range" := by rfl) (hs : starEach [a] X.env = [(false, eval a X.env)] := by rfl) : DI X E tg (.Call (.Name "range" p) [a] [] pos) (wiR1 wl) := .mk' (pi_range1 hg hm ha.pe hs) (okI_r1 okAW)
theorem i_r2 (hm : X.mg "range" = none) (ha : DA X E [a, b] wl) (hg : Gl X "range" := by rfl) (hs : starEach [a, b] X.env = [(false, eval a X.env), (false, eval b X.env)] := by rfl) (hs2 : starEach [b] X.env = [(false, eval b X.env)] := by rfl) : DI X E tg (.Call (.Name "range" p) [a, b] [] pos) (wiR2 wl) := .mk' (pi_range2 hg hm ha.pe hs hs2) (okI_r2 okAW)
theorem i_enum {elts : List Expr} {kk : Nat} {tpos : Pos} (hm : X.mg "enumerate" = none) (ha : DA X E [e] wl) (hg : Gl X "enumerate" := by rfl) (hs : starEach [e] X.env = [(false, eval e X.env)] := by rfl) : DI X E (.Tuple elts kk tpos) (.Call (.Name "enumerate" p) [e] [] pos) (wiEnum wl) := .mk' (pi_enum hg hm ha.pe hs) (okI_enum okAW)
theorem i_zip {elts : List Expr} {kk : Nat} {tpos : Pos} (hm : X.mg "zip" = none) (ha : DA X E [a, b] wl) (hg : Gl X "zip" := by rfl) (hs : starEach [a, b] X.env = (false, eval a X.env) :: starEach [b] X.env := by rfl) (hpl : (backTo pos (starEach [b] X.env)).any (·.1) = false := by rfl) : DI X E (.Tuple elts kk tpos) (.Call (.Name "zip" p) [a, b] [] pos) (wiZip wl) := .mk' (RZ.pi_zipA hg hm ha.pe hs hpl) (okI_zip okAW)
/-! ### comprehensions -/
theorem ts_nil : DTs X E [] (fun _ _ M Q => Q true M) := .mk' pts_nil fun u G H as M env σ Q Qv c h f => f true G H as M c.sr (Le.refl G as) h
theorem ts_one {tc : DTW} (h : DT X E c tc) : DTs X E [c] tc := .mk' (pts_one h.pe) okTW
section
variable {elt iter : Expr} {ifs : List Expr} {scope : Scope} {own : List (Str × Nat)} {wi : DIW} {g : TG} {wg : DGW} {wt : DTW}
theorem d_lc (hc : X.calm = true) (hN : X.N.Nodup) (hi : DI X E tg iter wi) (ok : BlkOk X.N X.env.scope scope own) (hw : GW g (own.map (·.2))) (hgo : OkG X.K E g wg)
    (hg : ∀ (s : Shared) (H : Hp) (C : Addr) (cl : List (Str × Addr)) (fp : List Addr), DG (X.blk s H scope (compEnvC scope cl C X.env) fp) E tg g wg) (ht : ∀ (s : Shared) (H : Hp) (C : Addr) (cl : List (Str × Addr)) (fp : List Addr), DTs (X.blk s H scope (compEnvC scope cl C X.env) fp) E ifs wt)
    (he : ∀ (s : Shared) (H : Hp) (C : Addr) (cl : List (Str × Addr)) (fp : List Addr), DE (X.blk s H scope (compEnvC scope cl C X.env) fp) E elt we) (hs : ∀ x, foldedSetIterable iter X.env x = pure x := by intro _; rfl) :
    DE X E (.ListComp elt [⟨tg, iter, ifs, 0⟩] scope pos) (wLc wi wg wt we (own.map (·.2))) :=
  .mk' (pe_lc hc hN hi.pe ok (fun s H C cl fp => (hg s H C cl fp).pe) (fun s H C cl fp => (ht s H C cl fp).pe) (fun s H C cl fp => (he s H C cl fp).pe) hs) (okE_lc okIW hgo hw okTW okW)
theorem d_lcO (hc : X.calm = true) (hN : X.N.Nodup) (hi : DI X E tg iter wi) (ok : BlkOk X.N X.env.scope scope own) (hw : GW g (own.map (·.2))) (hgo : OkG X.K E g wg)
    (hg : ∀ (s : Shared) (H : Hp) (C : Addr) (cl : List (Str × Addr)) (fp : List Addr), DG (X.blk s H scope (compEnvC scope cl C X.env) fp) E tg g wg) (ht : ∀ (s : Shared) (H : Hp) (C : Addr) (cl : List (Str × Addr)) (fp : List Addr), DTs (X.blk s H scope (compEnvC scope cl C X.env) fp) E ifs wt)
    (he : ∀ (s : Shared) (H : Hp) (C : Addr) (cl : List (Str × Addr)) (fp : List Addr), DE (X.blk s H scope (compEnvC scope cl C X.env) fp) E elt we) (hs : ∀ x, foldedSetIterable iter X.env x = pure x := by intro _; rfl) :
    DE X E (.ListComp elt [⟨tg, iter, ifs, 0⟩] scope pos) (wLcO wi wg wt we (own.map (·.2))) :=
  .mk' (pe_lc hc hN hi.pe ok (fun s H C cl fp => (hg s H C cl fp).pe) (fun s H C cl fp => (ht s H C cl fp).pe) (fun s H C cl fp => (he s H C cl fp).pe) hs) (okE_lcO okIW hgo hw okTW okW)
theorem d_lcM (hc : X.calm = true) (hN : X.N.Nodup) (hi : DI X E tg iter wi) (ok : BlkOk X.N X.env.scope scope own) (hw : GW g (own.map (·.2))) (hgo : OkG X.K E g wg)
    (hg : ∀ (s : Shared) (H : Hp) (C : Addr) (cl : List (Str × Addr)) (fp : List Addr), DG (X.blk s H scope (compEnvC scope cl C X.env) fp) E tg g wg) (ht : ∀ (s : Shared) (H : Hp) (C : Addr) (cl : List (Str × Addr)) (fp : List Addr), DTs (X.blk s H scope (compEnvC scope cl C X.env) fp) E ifs wt)
    (he : ∀ (s : Shared) (H : Hp) (C : Addr) (cl : List (Str × Addr)) (fp : List Addr), DE (X.blk s H scope (compEnvC scope cl C X.env) fp) E elt we) (hs : ∀ x, foldedSetIterable iter X.env x = pure x := by intro _; rfl) :
    DE X E (.ListComp elt [⟨tg, iter, ifs, 0⟩] scope pos) (wLcM wi wg wt we (own.map (·.2))) :=
  .mk' (pe_lc hc hN hi.pe ok (fun s H C cl fp => (hg s H C cl fp).pe) (fun s H C cl fp => (ht s H C cl fp).pe) (fun s H C cl fp => (he s H C cl fp).pe) hs) (okE_lcM okIW hgo hw okTW okW)
/-- name = [..]: the comprehension's list goes into slot i within its frame; mk tells which kind of list -/
theorem s_setLcC {wx : DW} {i : Nat} {y : Str} {py spos : Pos} (hc : X.calm = true) (hN : X.N.Nodup) (hy : X.N[i]? = some y) (hyl : X.env.scope.names.lookup y = some .local)
    (hsw : swapsWith (.ListComp elt [⟨tg, iter, ifs, 0⟩] scope pos) (some (.Name y py)) spos.line X.env = pure true) (hi : DI X E tg iter wi) (ok : BlkOk X.N X.env.scope scope own)
    (hg : ∀ (s : Shared) (H : Hp) (C : Addr) (cl : List (Str × Addr)) (fp : List Addr), DG (X.blk s H scope (compEnvC scope cl C X.env) fp) E tg g wg) (ht : ∀ (s : Shared) (H : Hp) (C : Addr) (cl : List (Str × Addr)) (fp : List Addr), DTs (X.blk s H scope (compEnvC scope cl C X.env) fp) E ifs wt)
    (he : ∀ (s : Shared) (H : Hp) (C : Addr) (cl : List (Str × Addr)) (fp : List Addr), DE (X.blk s H scope (compEnvC scope cl C X.env) fp) E elt we) (hk : OkE X.K E (tLc (tiW X.K E wi) g (ttW X.K E wt) (tW X.K E we) (own.map (·.2))) wx) (hs : ∀ x, foldedSetIterable iter X.env x = pure x := by intro _; rfl) :
    DS X E (.Assign [.Name y py] (.ListComp elt [⟨tg, iter, ifs, 0⟩] scope pos) spos) (wAsg wx (wgName i)) :=
  .mk' (ps_setLc hc hN hy hyl hsw hi.pe ok (fun s H C cl fp => (hg s H C cl fp).pe) (fun s H C cl fp => (ht s H C cl fp).pe) (fun s H C cl fp => (he s H C cl fp).pe) hs) (okS_asg hk (okG_name i))
end
end
/-! ### a def -/
def dfin (k : Nat) (Q : DK) : DK := fun s M => match s with
  | .d d => Q (.d d) (M.take k)
  | .scr _ => False
  | .dic _ => False
  | .v _ => False
  | s => Q s M
def dEnds (k : Nat) (Q : DK) : DEnds := { nx := fun _ M => Q (.d .non) (M.take k), rt := dfin k Q, bk := fun _ _ => False, ct := fun _ _ => False }
theorem fin_body {K : PySem.W.Frag} {G H : Hp} {ads : List AD} {vs : List V} {bs : List Addr} {Q : DK} {Qv : VK} {N ps : List Str} {n : Nat} {w : DSw} {E : XK} {t : TS} (ok : OkS K (fun _ _ _ => False) t w)
    (hl : ads.length = ps.length) (hn : N.length = ps.length + n) (e : Ex G H) (nd : bs.Nodup) (th : ∀ a ∈ bs, H a ≠ none) (h : ArgsR K G H ads vs bs) (hw : w (fun _ _ => False) (dEnds (adsMem ads).length Q) (envStart ads n) (adsMem ads))
    (q : ∀ s M' v G' H' cs, Q s M' → SR (wr0 G H bs) G' H' cs M' → Le G bs G' cs → SRp K cs G' s v → Qv v H') : t { nx := fun _ H' => Qv .non H', rt := Qv } (L2.start N vs) H := by
  have hb : bs.length = (adsMem ads).length := h.len.2
  have trim : ∀ {G' H' : Hp} {as' : List Addr} {M' : Mem} {d : D} {v : V}, SR (wr0 G H bs) G' H' as' M' → Le G bs G' as' → Rep G' d v → Q (.d d) (M'.take (adsMem ads).length) → Qv v H' := by
    intro G' H' as' M' d v sr l r z
    have sr2 := sr.trim (adsMem ads).length (Nat.le_of_eq hb)
    refine q _ _ v G' H' _ z sr2 ⟨l.ex, ?_⟩ r
    obtain ⟨t, rfl⟩ := l.pre
    exact ⟨[], by rw [← hb]; simp⟩
  refine ok (wr0 G H bs) G H bs (adsMem ads) (envStart ads n) (L2.start N vs) (dEnds (adsMem ads).length Q) _ ⟨rfl, ⟨fun _ _ _ _ _ _ _ z _ => z, fun z => z.elim⟩, start_sr e nd th h, start_er h hl hn⟩ ⟨?_, ?_, fun _ _ _ _ _ _ _ _ _ z => z, fun _ _ _ _ _ _ _ _ _ z => z⟩ hw
  · intro σ' G' H' as' M' env' sr l er z
    exact trim sr l (rep_non.mpr rfl) z
  · intro v G' H' as' M' s sr l r z
    cases s with
    | d d => exact trim sr l r.d z
    | m k => exact q _ _ v G' H' as' z sr l r
    | ml k => exact q _ _ v G' H' as' z sr l r
    | scr ns => exact z.elim
    | dic ns => exact z.elim
    | v ns => exact z.elim
    | acc k => exact q _ _ v G' H' as' z sr l r
section
variable {P : Program} {w0 : World} {K : PySem.W.Frag} {mg : Str → Option Value} {base : Heap}
/-- THE RULE for a def -/
theorem fn_def {x qual : Str} {st : Stmt} {f : Addr} {fd : FuncData} {N ps : List Str} {k n : Nat} {sp : DSpec} {w : DSw} (F : Fun K x qual st f fd) (S : FnScope N ps (defScope st)) (hb : Binds K fd ps []) (hn : N.length = ps.length + n) (hlen : ∀ ads Q, sp ads Q → ads.length = ps.length)
    (hd : ∀ (cdv : Value) (A : Around) (outer : List PySem.Env) (s : Shared) (H : Hp) (E : XK), Room k (A.deeper (PyProof.Rows.envOfC qual (defScope st) s.heap.objs.size f cdv)) → DSs (cxOf CX0 P w0 K mg base N qual (defScope st) f cdv A outer s H E).nox E0 (defBody st) w)
    (hw : ∀ ads Q, sp ads Q → w (fun _ _ => False) (dEnds (adsMem ads).length Q) (envStart ads n) (adsMem ads)) : FnR P w0 K mg base CX0 (k + 1) f (spOf K sp) := by
  have lenK : ∀ vs H Q E, spOf K sp vs H Q E → vs.length = ps.length := fun vs H Q E ⟨G, ads, bs, Qd, e, nd, th, h, hs, _⟩ => by rw [h.len.1]; exact hlen ads Qd hs
  have ok : FnOk P w0 K mg base CX0 (k + 1) f fd ps (spOf K sp) := by
    refine F.ok S lenK fun cdv A outer s H vs Q E hr hs => ?_
    obtain ⟨G, ads, bs, Qd, e, nd, th, h, hs, q⟩ := hs
    exact ⟨_, (hd cdv A outer s H E hr).pe, fin_body (E := E) okSW (hlen ads Qd hs) hn e nd th h (hw ads Qd hs) q⟩
  refine (ok.raw hb .nil).imp fun vs H Q E h => ?_
  rw [List.append_nil]
  exact h
end
end R
/-! Layer R, part 6: completions: comprehensions run, star parameters, sources of draws, the loop over them, the end. -/
namespace R
open PySem L2 Evl
theorem bt_len : bootBuiltins "len" = some (.builtin "len") := by decide +kernel
theorem bt_sum : bootBuiltins "sum" = some (.builtin "sum") := by decide +kernel
theorem bt_any : bootBuiltins "any" = some (.builtin "any") := by decide +kernel
theorem bt_all : bootBuiltins "all" = some (.builtin "all") := by decide +kernel
theorem bt_abs : bootBuiltins "abs" = some (.builtin "abs") := by decide +kernel
theorem bt_max : bootBuiltins "max" = some (.builtin "max") := by decide +kernel
theorem bt_min : bootBuiltins "min" = some (.builtin "min") := by decide +kernel
def wYes : DTW := fun _ _ M Q => Q true M
def wIsi1 (T : BT) (we : DW) : DW := fun X env M Q => we X env M fun s M1 => match s with
  | .d d => Q (.d (.bl (isiD d T))) M1
  | _ => False
/-- a def as it stands behind the top -/
structure Def (K : PySem.W.Frag) (mg : Str → Option Value) (x : Str) (st : Stmt) (ps : List Str) (f : Addr) (fd : FuncData) : Prop where
  fn : Fun K x x st f fd
  gl : mg x = some (.ref f)
  bd : Binds K fd ps []
/-- the same, with a star parameter behind ps -/
structure DefS (K : PySem.W.Frag) (mg : Str → Option Value) (x : Str) (st : Stmt) (ps : List Str) (pv : Str) (f : Addr) (fd : FuncData) : Prop where
  fn : Fun K x x st f fd
  gl : mg x = some (.ref f)
  bd : ∀ us rest : List Value, us.length = ps.length → bindArgs fd ⟨us ++ rest, []⟩ = (newTuple rest >>= fun t => pure (ps.zip us ++ [(pv, t)]))
/-! ### comprehensions run -/
section
variable {α : Type} {wg : DGW} {wt : DTW} {we : DW} {X : XC} {env : Env} {M : Mem}
theorem dLc_map (xs : List α) (g : α → S) (h : α → D) {acc : List D} {Q : List D → Mem → Prop} (hl : acc.length + xs.length ≤ 16000000) (ht : ∀ x ∈ xs, ∀ k : Option S → Mem → Prop, k (some (.d (h x))) M → turnW wg wt we X env (g x) M k) (q : Q (acc ++ xs.map h) M) :
    dLc wg wt we X env (xs.map g) acc M Q := by
  induction xs generalizing acc with
  | nil => simpa [dLc] using q
  | cons x xs ih =>
    rw [List.map_cons]
    unfold dLc
    refine ht x (by simp) _ ⟨by simp at hl; omega, ih (by simp at hl ⊢; omega) (fun y hy => ht y (by simp [hy])) ?_⟩
    rw [List.append_assoc]; exact q
theorem dLc_dmap (xs : List α) (f : α → D) (h : α → D) {Q : List D → Mem → Prop} (hl : xs.length ≤ 16000000) (ht : ∀ x ∈ xs, ∀ k : Option S → Mem → Prop, k (some (.d (h x))) M → turnW wg wt we X env (.d (f x)) M k) (q : Q (xs.map h) M) :
    dLc wg wt we X env ((xs.map f).map S.d) [] M Q := by
  rw [List.map_map]
  exact dLc_map xs _ h (by simpa using hl) ht q
theorem dLc_filt (xs : List α) (g : α → S) (p : α → Bool) (h : α → D) {acc : List D} {Q : List D → Mem → Prop} (hl : acc.length + xs.length ≤ 16000000) (ht : ∀ x ∈ xs, ∀ k : Option S → Mem → Prop, k (if p x then some (.d (h x)) else none) M → turnW wg wt we X env (g x) M k) (q : Q (acc ++ (xs.filter p).map h) M) :
    dLc wg wt we X env (xs.map g) acc M Q := by
  induction xs generalizing acc with
  | nil => simpa [dLc] using q
  | cons x xs ih =>
    rw [List.map_cons]
    unfold dLc
    refine ht x (by simp) _ ?_
    cases hp : p x with
    | true =>
      rw [List.filter_cons, if_pos hp] at q
      show acc.length < 16000000 ∧ _
      exact ⟨by simp at hl; omega, ih (by simp at hl ⊢; omega) (fun y hy => ht y (by simp [hy])) (by rw [List.append_assoc]; exact q)⟩
    | false =>
      rw [List.filter_cons, if_neg (by rw [hp]; decide)] at q
      show dLc wg wt we X env (xs.map g) acc M Q
      exact ih (by simp at hl ⊢; omega) (fun y hy => ht y (by simp [hy])) q
theorem dLc_dfilt (xs : List α) (f : α → D) (p : α → Bool) (h : α → D) {Q : List D → Mem → Prop} (hl : xs.length ≤ 16000000) (ht : ∀ x ∈ xs, ∀ k : Option S → Mem → Prop, k (if p x then some (.d (h x)) else none) M → turnW wg wt we X env (.d (f x)) M k) (q : Q ((xs.filter p).map h) M) :
    dLc wg wt we X env ((xs.map f).map S.d) [] M Q := by
  rw [List.map_map]
  exact dLc_filt xs _ p h (by simpa using hl) ht q
end
/-- an item of a mapped list -/
theorem map_get {α β : Type} {xs : List α} {g : α → β} {i : Nat} {s : β} (h : (xs.map g)[i]? = some s) : ∃ x, xs[i]? = some x ∧ s = g x := by
  rw [List.getElem?_map] at h
  cases e : xs[i]? with
  | none => rw [e] at h; cases h
  | some x => rw [e] at h; exact ⟨x, rfl, (Option.some.inj h).symm⟩
theorem dmap_get {α : Type} {xs : List α} {f : α → D} {i : Nat} {s : S} (h : ((xs.map f).map S.d)[i]? = some s) : ∃ x, xs[i]? = some x ∧ s = .d (f x) := by
  obtain ⟨d, e, rfl⟩ := map_get h
  obtain ⟨x, e2, rfl⟩ := map_get e
  exact ⟨x, e2, rfl⟩
theorem take_suc {α : Type} {xs : List α} {i : Nat} {x : α} (h : xs[i]? = some x) : xs.take (i + 1) = xs.take i ++ [x] := by
  rw [List.take_add_one, h]; rfl
theorem rng_get {lo : Int} {n i : Nat} {s : S} (h : (rngS lo n)[i]? = some s) : i < n ∧ s = .d (.int (lo + (i : Int))) := by
  obtain ⟨x, e, rfl⟩ := map_get h
  have hi : i < n := by
    have := (List.getElem?_eq_some_iff.mp e).1
    simpa using this
  rw [List.getElem?_eq_getElem (by simpa using hi)] at e
  simp at e
  exact ⟨hi, by rw [← e]⟩
/-! ### star parameters -/
section
variable {P : Program} {w0 : World} {K : PySem.W.Frag} {mg : Str → Option Value} {base : Heap}
/-- ads: the plain arguments, then the tuple of the others -/
def spStar (sp : DSpec) (n : Nat) : DSpec := fun ads Q => ∃ (a b : List AD) (ds : List D), ads = a ++ b ∧ a.length = n ∧ b = ds.map AD.d ∧ ds.length ≤ 16000000 ∧ sp (a ++ [.d (.tup ds)]) Q
theorem args_split {G H : Hp} : ∀ {a b : List AD} {vs : List V} {bs : List Addr}, ArgsR K G H (a ++ b) vs bs → ∃ va vb ba bb, vs = va ++ vb ∧ bs = ba ++ bb ∧ ArgsR K G H a va ba ∧ ArgsR K G H b vb bb
  | [], b, vs, bs, h => ⟨[], vs, [], bs, rfl, rfl, ⟨rfl, rfl⟩, h⟩
  | .d d :: r, b, vs, bs, h => by
    obtain ⟨v, vs', rfl, h1, h2⟩ := h
    obtain ⟨va, vb, ba, bb, rfl, rfl, h3, h4⟩ := args_split h2
    exact ⟨v :: va, vb, ba, bb, rfl, rfl, ⟨v, va, rfl, h1, h3⟩, h4⟩
  | .mo o :: r, b, vs, bs, h => by
    obtain ⟨a, vs', bs', rfl, rfl, h1, h2⟩ := h
    obtain ⟨va, vb, ba, bb, rfl, rfl, h3, h4⟩ := args_split h2
    exact ⟨.ref a :: va, vb, a :: ba, bb, rfl, rfl, ⟨a, va, ba, rfl, rfl, h1, h3⟩, h4⟩
  | .scr ns :: r, b, vs, bs, h => by
    obtain ⟨p, vs', rfl, h1, h2⟩ := h
    obtain ⟨va, vb, ba, bb, rfl, rfl, h3, h4⟩ := args_split h2
    exact ⟨.ref p :: va, vb, ba, bb, rfl, rfl, ⟨p, va, rfl, h1, h3⟩, h4⟩
  | .acc ds :: r, b, vs, bs, h => by
    obtain ⟨C, a, dx, l, vs', bs', hC, rfl, rfl, hG, h1, h2⟩ := h
    obtain ⟨va, vb, ba, bb, rfl, rfl, h3, h4⟩ := args_split h2
    exact ⟨.ref a :: va, vb, l :: ba, bb, rfl, rfl, ⟨C, a, dx, l, va, ba, hC, rfl, rfl, hG, h1, h3⟩, h4⟩
theorem args_join {G H : Hp} : ∀ {a b : List AD} {va vb : List V} {ba bb : List Addr}, ArgsR K G H a va ba → ArgsR K G H b vb bb → ArgsR K G H (a ++ b) (va ++ vb) (ba ++ bb)
  | [], b, _, vb, _, bb, h, h' => by obtain ⟨rfl, rfl⟩ := h; exact h'
  | .d d :: r, b, _, vb, _, bb, h, h' => by
    obtain ⟨v, vs', rfl, h1, h2⟩ := h
    exact ⟨v, _, rfl, h1, args_join h2 h'⟩
  | .mo o :: r, b, _, vb, _, bb, h, h' => by
    obtain ⟨a, vs', bs', rfl, rfl, h1, h2⟩ := h
    exact ⟨a, _, _, rfl, rfl, h1, args_join h2 h'⟩
  | .scr ns :: r, b, _, vb, _, bb, h, h' => by
    obtain ⟨p, vs', rfl, h1, h2⟩ := h
    exact ⟨p, _, rfl, h1, args_join h2 h'⟩
  | .acc ds :: r, b, _, vb, _, bb, h, h' => by
    obtain ⟨C, a, dx, l, vs', bs', hC, rfl, rfl, hG, h1, h2⟩ := h
    exact ⟨C, a, dx, l, _, _, hC, rfl, rfl, hG, h1, args_join h2 h'⟩
theorem args_datas {G H : Hp} : ∀ {ds : List D} {vs : List V} {bs : List Addr}, ArgsR K G H (ds.map AD.d) vs bs → bs = [] ∧ Reps G ds vs
  | [], _, _, h => by obtain ⟨rfl, rfl⟩ := h; exact ⟨rfl, reps_nil.mpr rfl⟩
  | d :: ds, _, _, h => by
    obtain ⟨v, vs', rfl, h1, h2⟩ := h
    obtain ⟨e, h3⟩ := args_datas h2
    exact ⟨e, reps_cons.mpr ⟨v, vs', rfl, h1, h3⟩⟩
theorem args_laid {G H : Hp} {p : Addr} {o : HO} (e : Ex G H) (hp : H p = none) : ∀ {a : List AD} {va : List V} {ba : List Addr}, ArgsR K G H a va ba → (∀ x ∈ ba, H x ≠ none) → ArgsR K (upd G p o) (upd H p o) a va ba
  | [], _, _, h, _ => h
  | .d d :: r, _, _, h, t => by
    obtain ⟨v, vs', rfl, h1, h2⟩ := h
    exact ⟨v, vs', rfl, h1.mono (Ex.new (fresh_back e hp)), args_laid e hp h2 t⟩
  | .mo m :: r, _, _, h, t => by
    obtain ⟨a, vs', bs', rfl, rfl, h1, h2⟩ := h
    have q : a ≠ p := ne_addr (t a (by simp)) hp
    exact ⟨a, vs', bs', rfl, rfl, fun u => (h1 u).stay (Ex.new (fresh_back e hp)) (fun z => by rw [upd_ne q]; exact z) fun w z => by rw [upd_ne q]; exact z, args_laid e hp h2 fun x hx => t x (by simp [hx])⟩
  | .scr ns :: r, _, _, h, t => by
    obtain ⟨x, vs', rfl, h1, h2⟩ := h
    exact ⟨x, vs', rfl, ex_l (Ex.new (fresh_back e hp)) h1, args_laid e hp h2 t⟩
  | .acc ds :: r, _, _, h, t => by
    obtain ⟨C, a, dx, l, vs', bs', hC, rfl, rfl, hG, h1, h2⟩ := h
    have q : l ≠ p := ne_addr (t l (by simp)) hp
    exact ⟨C, a, dx, l, vs', bs', hC, rfl, rfl, Ex.new (fresh_back e hp) _ _ hG, fun u => (h1 u).stay (Ex.new (fresh_back e hp)) (fun z => by rw [upd_ne q]; exact z) fun w z => by rw [upd_ne q]; exact z, args_laid e hp h2 fun x hx => t x (by simp [hx])⟩
theorem fn_defS {x qual : Str} {st : Stmt} {f : Addr} {fd : FuncData} {N ps : List Str} {pv : Str} {k n : Nat} {sp : DSpec} {w : DSw} (F : Fun K x qual st f fd) (S : FnScope N (ps ++ [pv]) (defScope st)) (hb : ∀ us rest : List Value, us.length = ps.length → bindArgs fd ⟨us ++ rest, []⟩ = (newTuple rest >>= fun t => pure (ps.zip us ++ [(pv, t)])))
    (hn : N.length = (ps ++ [pv]).length + n) (hlen : ∀ ads Q, sp ads Q → ads.length = (ps ++ [pv]).length)
    (hd : ∀ (cdv : Value) (A : Around) (outer : List PySem.Env) (s : Shared) (H : Hp) (E : XK), Room k (A.deeper (PyProof.Rows.envOfC qual (defScope st) s.heap.objs.size f cdv)) → DSs (cxOf CX0 P w0 K mg base N qual (defScope st) f cdv A outer s H E).nox E0 (defBody st) w)
    (hw : ∀ ads Q, sp ads Q → w (fun _ _ => False) (dEnds (adsMem ads).length Q) (envStart ads n) (adsMem ads)) : FnR P w0 K mg base CX0 (k + 1) f (spOf K (spStar sp ps.length)) := by
  obtain ⟨oc, od, kV, doc, pm, an, cdv, ct, osl, rfl, lk, hcd⟩ := F.ex
  refine (StX.fn_star (sp := fun vs H Q _ => spOf K sp vs H Q fun _ _ _ => False) lk hcd S StX.cxUp_none hb fun A outer s H vs Q E hr hs => ?_).imp fun vs H Q E h => ?_
  · obtain ⟨G, ads, bs, Qd, e, nd, th, h, hs, q⟩ := hs
    exact ⟨_, (hd cdv A outer s H E hr).pe.nox, fin_body (E := E) okSW (hlen ads Qd hs) hn e nd th h (hw ads Qd hs) q⟩
  · obtain ⟨G, ads, bs, Qd, e, nd, th, h, ⟨a, b, ds, rfl, hl, rfl, hz, hs⟩, q⟩ := h
    obtain ⟨va, vb, ba, bb, rfl, rfl, h1, h2⟩ := args_split h
    obtain ⟨rfl, h3⟩ := args_datas h2
    rw [List.append_nil] at nd th q
    refine ⟨va, vb, rfl, h1.len.1.trans hl, by rw [h3.len]; exact Nat.le_trans hz line16, fun p hp => ?_⟩
    have ex : Ex G (upd G p (.tup vb)) := Ex.new (fresh_back e hp)
    have eH : Ex (upd G p (.tup vb)) (upd H p (.tup vb)) := fun x o hx => by
      by_cases hxp : x = p
      · subst hxp; rw [upd_same] at hx ⊢; exact hx
      · rw [upd_ne hxp] at hx ⊢; exact e x o hx
    refine ⟨upd G p (.tup vb), a ++ [.d (.tup ds)], ba, Qd, eH, nd, fun x hx => ?_, ?_, hs, fun s M' v G' H' cs z sr l r => q s M' v G' H' cs z ?_ ⟨ex.trans l.ex, l.pre⟩ r⟩
    · rw [upd_ne (ne_addr (th x hx) hp)]; exact th x hx
    · have := args_join (args_laid (o := .tup vb) e hp h1 th) (show ArgsR K (upd G p (.tup vb)) (upd H p (.tup vb)) [.d (.tup ds)] [.ref p] [] from ⟨_, [], rfl, rep_tup.mpr ⟨p, vb, rfl, upd_same, h3.mono ex⟩, rfl, rfl⟩)
      rw [List.append_nil] at this
      exact this
    · have hG : G p = none := fresh_back e hp
      refine ⟨sr.gh, ex.trans sr.g0, sr.nd, sr.len, fun i c o h4 h5 => ?_, sr.there, fun c o h4 h5 => sr.fr c o (by show upd H p (.tup vb) c = some o; rw [upd_ne (ne_of_none h4 hp)]; exact h4) h5, fun c h4 => sr.th c (by show upd H p (.tup vb) c ≠ none; rw [upd_ne (ne_addr h4 hp)]; exact h4), fun c h4 h5 => sr.nf c (by show upd H p (.tup vb) c ≠ none; rw [upd_ne (ne_addr h4 hp)]; exact h4) (by show upd G p (.tup vb) c = none; rw [upd_ne (ne_addr h4 hp)]; exact h5), fun c h4 => ?_, sr.pre, fun c o h4 => (by cases h4), fun t ht => (by cases ht)⟩
      · have z := sr.ms i c o h4 h5
        cases o with
        | lst es =>
          refine ⟨z.1, ?_, z.2.2⟩
          have y : upd H p (.tup vb) c = none := z.2.1
          by_cases hc : c = p
          · subst hc; rw [upd_same] at y; cases y
          · rw [upd_ne hc] at y; exact y
        | ext es => exact z
        | bag n => exact z
        | dead => trivial
        | raw o =>
          refine ⟨z.1, ?_, z.2.2⟩
          have y : upd H p (.tup vb) c = none := z.2.1
          by_cases hc : c = p
          · subst hc; rw [upd_same] at y; cases y
          · rw [upd_ne hc] at y; exact y
        | toks ts =>
          refine ⟨z.1, ?_, z.2.2⟩
          have y : upd H p (.tup vb) c = none := z.2.1
          by_cases hc : c = p
          · subst hc; rw [upd_same] at y; cases y
          · rw [upd_ne hc] at y; exact y
      · rcases sr.wr c h4 with y | y
        · have y' : upd H p (.tup vb) c = none := y
          by_cases hc : c = p
          · subst hc; rw [upd_same] at y'; cases y'
          · rw [upd_ne hc] at y'; exact .inl y'
        · exact .inr y
end
/-! ### sources of draws -/
/-- as a list of three ints -/
def Bag3 (n : Nat) (ds : List D) : Prop := ∃ x y z : Int, ds = [.int x, .int y, .int z] ∧ 0 ≤ x ∧ 0 ≤ y ∧ y < 2305843009213693951 ∧ 0 ≤ z ∧ z ≤ n
theorem bag_ext {u : Wr} {G H : Hp} {n : Nat} {a : Addr} (h : MR u G H (.bag n) a) : ∃ ds, Bag3 n ds ∧ ∀ u', MR u' G H (.ext ds) a := by
  obtain ⟨hg, x, y, z, e, h1⟩ := h
  exact ⟨[.int x, .int y, .int z], ⟨x, y, z, rfl, h1⟩, fun u' => ⟨hg, _, e, (reps_ints (ns := [x, y, z])).mpr rfl⟩⟩
theorem ext_bag {u : Wr} {G H : Hp} {n : Nat} {a : Addr} {ds : List D} (b : Bag3 n ds) (h : MR u G H (.ext ds) a) : MR u G H (.bag n) a := by
  obtain ⟨x, y, z, rfl, h1⟩ := b
  obtain ⟨hg, xs, e, hr⟩ := h
  have := (reps_ints (ns := [x, y, z])).mp hr
  subst this
  exact ⟨hg, x, y, z, e, h1⟩
theorem lst_bag {u : Wr} {G H : Hp} {n : Nat} {a : Addr} {ds : List D} (b : Bag3 n ds) (h : MR u G H (.lst ds) a) : MR u G H (.bag n) a := by
  obtain ⟨hg, _, r⟩ := h
  exact ext_bag b ⟨hg, r⟩
section
variable {P : Program} {w0 : World} {K : PySem.W.Frag} {mg : Str → Option Value} {base : Heap} {k : Nat} {f : Addr}
/-- a def that makes a source of draws: told as a list, meant as a source -/
theorem fn_mkbag {spR : DSpec} {spB : DSpec} (F : FnR P w0 K mg base CX0 k f (spOf K spR)) (h : ∀ ads Q, spB ads Q → spR ads fun s M' => ∃ n ds, s = .m 0 ∧ M' = [.lst ds] ∧ Bag3 n ds ∧ Q (.m 0) [.bag n]) : FnR P w0 K mg base CX0 k f (spOf K spB) := by
  refine F.imp fun vs H Q E ⟨G, ads, bs, Qd, e, nd, th, ha, hs, q⟩ => ⟨G, ads, bs, _, e, nd, th, ha, h ads Qd hs, ?_⟩
  rintro s M' v G' H' cs ⟨n, ds, rfl, rfl, b, z⟩ sr l r
  obtain ⟨a, h1, h2⟩ := sr.at_ (i := 0) (o := .lst ds) rfl
  exact q _ _ v G' H' cs z (sr.retell (i := 0) (mo := .bag n) h1 (lst_bag b h2)) l r
/-- a def that draws: told of a list handed in, meant of a source; the other arguments are data -/
theorem fn_drawbag {spR : DSpec} {spB : DSpec} (F : FnR P w0 K mg base CX0 k f (spOf K spR))
    (h : ∀ ads Q, spB ads Q → ∃ (n : Nat) (ds : List D), ads = .mo (.bag n) :: ds.map AD.d ∧ ∀ es, Bag3 n es → spR (.mo (.ext es) :: ds.map AD.d) fun s M' => ∃ n' es' d, s = .d d ∧ M' = [.ext es'] ∧ Bag3 n' es' ∧ Q (.d d) [.bag n']) : FnR P w0 K mg base CX0 k f (spOf K spB) := by
  refine F.imp fun vs H Q E ⟨G, ads, bs, Qd, e, nd, th, ha, hs, q⟩ => ?_
  obtain ⟨n, ds, rfl, h1⟩ := h ads Qd hs
  obtain ⟨a, vs', bs', rfl, rfl, hm, h2⟩ := ha
  obtain ⟨es, b, hx⟩ := bag_ext (hm (wr0 G H []))
  refine ⟨G, .mo (.ext es) :: ds.map AD.d, a :: bs', _, e, nd, th, ⟨a, vs', bs', rfl, rfl, hx, h2⟩, h1 es b, ?_⟩
  rintro s M' v G' H' cs ⟨n', es', d, rfl, rfl, b', z⟩ sr l r
  obtain ⟨c, h3, h4⟩ := sr.at_ (i := 0) (o := .ext es') rfl
  exact q _ _ v G' H' cs z (sr.retell (i := 0) (mo := .bag n') h3 (ext_bag b' h4)) l r
end
/-! ### the loop over the sources -/
def clearS : Option S → Option S
  | some (.d d) => some (.d d)
  | some (.scr ns) => some (.scr ns)
  | _ => none
def clearM (env : Env) : Env := env.map clearS
def wForB (w : DW) (i : Nat) (b : DSw) : DSw := fun X Dn env M => M = [] ∧ w X env [] fun s M1 => match s with
  | .ml is => ∃ (P : Env → Prop) (n : Nat), is.Nodup ∧ (∀ (j k : Nat), is[j]? = some k → M1[k]? = some (.bag n)) ∧ P (clearM env) ∧
    (∀ env, P env → b X { nx := fun env' _ => P (clearM env'), ct := fun env' _ => P (clearM env'), bk := fun env' _ => Dn.nx (clearM env') [], rt := fun s _ => (match s with
      | .d d => Dn.rt (.d d) []
      | _ => False) } (env.set i (some (.m 0))) [.bag n]) ∧ ∀ env, P env → Dn.nx env []
  | _ => False
section
variable {K : PySem.W.Frag} {E : XK}
theorem ER.clearAll {as as' : List Addr} {G : Hp} {env : Env} {σ : L2.St} (h : ER K as G env σ) : ER K as' G (clearM env) σ := by
  refine ⟨by unfold clearM; rw [List.length_map]; exact h.len, fun i s e => ?_⟩
  unfold clearM at e
  rw [List.getElem?_map] at e
  cases q : env[i]? with
  | none => rw [q] at e; cases e
  | some t =>
    rw [q] at e
    have e' : clearS t = some s := Option.some.inj e
    cases t with
    | none => cases e'
    | some t =>
      cases t with
      | d d => cases e'; exact h.get i _ q
      | scr ns => cases e'; exact h.get i _ q
      | m j => cases e'
      | ml j => cases e'
      | dic j => cases e'
      | v j => cases e'
      | acc j => cases e'
theorem okS_forB {te : TE} {w : DW} {i : Nat} {tb : TS} {b : DSw} (hi : OkE K E te w) (hb : OkS K E tb b) : OkS K E (tFor (iList K te) (gName i) tb) (wForB w i b) := by
  intro u G H as M env σ Dn Dv c e h
  classical
  obtain ⟨rfl, h⟩ := h
  have has : as = [] := List.length_eq_zero_iff.mp (by rw [c.sr.len]; rfl)
  subst has
  refine hi u G H [] [] env σ _ _ c h fun v G1 H1 as1 M1 s sr1 l1 r q1 => ?_
  split at q1
  · rename_i is
    obtain ⟨P, n, nd, hm, p0, ps, pd⟩ := q1
    obtain ⟨p, xs, rfl, hp, hx⟩ := r
    have hu0 : u.as0 = [] := by
      obtain ⟨t, e0⟩ := c.sr.pre
      cases q : u.as0 with
      | nil => rfl
      | cons a l => rw [q] at e0; cases e0
    -- the addresses, one behind another
    have hget : ∀ (j : Nat) (x : V), xs[j]? = some x → ∃ k a, is[j]? = some k ∧ as1[k]? = some a ∧ x = .ref a := fun j x ex => refs_get hx ex
    let hid : Nat → Hp := fun j a => if (∃ t : Nat, j ≤ t ∧ xs[t]? = some (V.ref a)) then H1 a else u.hid a
    have hidIn : ∀ (j t : Nat) (a : Addr), j ≤ t → xs[t]? = some (V.ref a) → hid j a = H1 a := fun j t a h1 h2 => by show (if _ then _ else _) = _; exact if_pos ⟨t, h1, h2⟩
    have mem1 : ∀ (t : Nat) (a : Addr), xs[t]? = some (V.ref a) → a ∈ as1 ∧ MR u G1 H1 (.bag n) a := fun t a ex => by
      obtain ⟨k, a', e1, e2, e3⟩ := hget t _ ex
      cases e3
      exact ⟨sr1.mem e2, sr1.ms k a _ e2 (hm t k e1)⟩
    have uq : ∀ (t t' : Nat) (a : Addr), xs[t]? = some (V.ref a) → xs[t']? = some (V.ref a) → t = t' := fun t t' a h1 h2 => by
      obtain ⟨k, a1, e1, e2, e3⟩ := hget t _ h1
      obtain ⟨k', a2, e1', e2', e3'⟩ := hget t' _ h2
      cases e3
      cases e3'
      have ek := sr1.inj e2 e2'
      subst ek
      exact nd_ix nd e1 e1'
    have tbH : ∀ t ∈ u.T, t.1 ∉ as1 ∧ (u.B t.1 = none ∨ u.W t.1) ∧ u.hid t.1 = none ∧ ∀ j, hid j t.1 = none := fun t ht => by
      obtain ⟨_, t2, t3, t4⟩ := sr1.tb t ht
      refine ⟨t2, t3, t4, fun j => ?_⟩
      show (if _ then _ else _) = _
      rw [if_neg (fun ⟨z, _, ez⟩ => t2 (mem1 z t.1 ez).1)]
      exact t4
    let uB : Nat → Wr := fun j => { u with hid := hid j }
    have srU : ∀ {j : Nat} {G' H' : Hp} {as' : List Addr} {M' : Mem}, SR (uB j) G' H' as' M' → (∀ a o, u.hid a = some o → a ∉ as1) → SR u G' H' as' M' := fun {j G' H' as' M'} sr hh => by
      refine ⟨sr.gh, sr.g0, sr.nd, sr.len, fun k a o h1 h2 => ?_, sr.there, sr.fr, sr.th, sr.nf, sr.wr, sr.pre, fun a o h1 => sr.hd a o ?_, fun t ht => ⟨(sr.tb t ht).1, (sr.tb t ht).2.1, (tbH t ht).2.1, (tbH t ht).2.2.1⟩⟩
      · have z := sr.ms k a o h1 h2
        cases o <;> exact z
      · show hid j a = some o
        have : ¬ ∃ t, j ≤ t ∧ xs[t]? = some (V.ref a) := fun ⟨t, _, ex⟩ => hh a o h1 (mem1 t a ex).1
        show (if _ then _ else _) = _
        rw [if_neg this]; exact h1
    have hh : ∀ a o, u.hid a = some o → a ∉ as1 := fun a o h1 => (sr1.hd a o h1).2.2
    have start : SR (uB 0) G1 H1 [] [] := by
      refine ⟨sr1.gh, sr1.g0, List.nodup_nil, rfl, fun k a o h1 => (by simp at h1), fun a h1 => (by cases h1), sr1.fr, sr1.th, sr1.nf, fun a h1 => (by cases h1), ⟨[], by show ([] : List Addr) = u.as0 ++ []; rw [hu0]; rfl⟩, fun a o h1 => ?_, fun t ht => ⟨(sr1.tb t ht).1, by simp, (tbH t ht).2.1, (tbH t ht).2.2.2 0⟩⟩
      have h1' : (if (∃ t, 0 ≤ t ∧ xs[t]? = some (V.ref a)) then H1 a else u.hid a) = some o := h1
      split at h1'
      · rename_i hc
        obtain ⟨t, _, ex⟩ := hc
        exact ⟨h1', (mem1 t a ex).2.1, by simp⟩
      · obtain ⟨k1, k2, _⟩ := sr1.hd a o h1'
        exact ⟨k1, k2, by simp⟩
    refine ⟨p, rfl, ⟨xs, SqL.of (sr1.gh _ _ hp)⟩, ?_⟩
    refine for_it (walk_list (K := K) (a := p) (xs := xs)) (fun j σ H => ∃ G2 env2, SR (uB j) G2 H [] [] ∧ Ex G1 G2 ∧ ER K [] G2 env2 σ ∧ P env2) ⟨G1, _, start, Ex.refl _, (c.er.mono l1).clearAll, p0⟩ (fun j σ H _ ⟨G2, env2, sr2, l2, _, _⟩ => SqL.of ((l2.trans sr2.gh) _ _ hp)) ?_ ?_
    · rintro j x σ2 H2 H3 hlt ⟨G2, env2, sr2, l2, er2, pj⟩ ⟨rfl, ex⟩
      obtain ⟨k, a, e1, e2, rfl⟩ := hget j x ex
      obtain ⟨hs1, hs2, _⟩ := sr2.hd a _ (show hid j a = some _ from (hidIn j j a (Nat.le_refl _) ex).trans (mem1 j a ex).2.2.choose_spec.choose_spec.choose_spec.1)
      have hbag : ∀ u', MR u' G2 H3 (.bag n) a := fun u' => ⟨hs2, _, _, _, hs1, (mem1 j a ex).2.2.choose_spec.choose_spec.choose_spec.2⟩
      have hne : H3 a ≠ none := by rw [hs1]; simp
      have sr3 : SR (uB (j + 1)) G2 H3 [a] [.bag n] := by
        refine ⟨sr2.gh, sr2.g0, by simp, rfl, fun k' a' o h1 h2 => ?_, fun a' h1 => ?_, sr2.fr, sr2.th, sr2.nf, fun a' h1 => ?_, ⟨[a], by show [a] = u.as0 ++ [a]; rw [hu0]; rfl⟩, fun a' o h1 => ?_, fun t ht => ⟨(sr2.tb t ht).1, fun z => (tbH t ht).1 ((List.mem_singleton.mp z) ▸ (mem1 j a ex).1), (tbH t ht).2.1, (tbH t ht).2.2.2 (j + 1)⟩⟩
        · cases k' with
          | zero => simp at h1 h2; subst h1 h2; exact hbag _
          | succ m => simp at h1
        · have : a' = a := by simpa using h1
          subst this; exact hne
        · have : a' = a := by simpa using h1
          subst this
          exact sr1.wr a' (mem1 j a' ex).1
        · have h1' : (if (∃ t, j + 1 ≤ t ∧ xs[t]? = some (V.ref a')) then H1 a' else u.hid a') = some o := h1
          split at h1'
          · rename_i hc
            obtain ⟨t, ht, ext⟩ := hc
            obtain ⟨z1, z2, _⟩ := sr2.hd a' o (show hid j a' = some o from (hidIn j t a' (by omega) ext).trans h1')
            refine ⟨z1, z2, fun z => ?_⟩
            have : a' = a := by simpa using z
            subst this
            have := uq t j a' ext ex
            omega
          · rename_i hc
            have hc2 : ¬ ∃ t, j ≤ t ∧ xs[t]? = some (V.ref a') := fun ⟨t, ht, ext⟩ => hh a' o h1' (mem1 t a' ext).1
            obtain ⟨z1, z2, _⟩ := sr2.hd a' o (show hid j a' = some o from by show (if _ then _ else _) = _; rw [if_neg hc2]; exact h1')
            refine ⟨z1, z2, fun z => ?_⟩
            have : a' = a := by simpa using z
            subst this
            exact hh a' o h1' (mem1 j a' ex).1
      have er3 : ER K [a] G2 (env2.set i (some (.m 0))) (σ2.set i (some (.ref a))) := by
        have q : ER K [a] G2 env2 σ2 := ⟨er2.len, fun t s et => by
          obtain ⟨v, w1, w2⟩ := er2.get t s et
          exact ⟨v, w1, w2.mono ⟨Ex.refl _, [a], rfl⟩⟩⟩
        exact q.set i ⟨a, rfl, rfl⟩
      have xk : XOk K (uB (j + 1)) := ⟨fun x cls G H as M sr q => c.xok.1 x cls G H as M (srU sr hh) q, c.xok.2⟩
      have down : ∀ {G' H' : Hp} {as' : List Addr} {M' : Mem}, SR (uB (j + 1)) G' H' as' M' → SR (uB (j + 1)) G' H' [] [] := fun {G' H' as' M'} sr => by
        have z := sr.trim 0 (by show u.as0.length ≤ 0; rw [hu0]; exact Nat.le_refl _)
        rw [List.take_zero, List.take_zero] at z
        exact z
      refine hb (uB (j + 1)) G2 H3 [a] [.bag n] _ _ { nx := fun env' _ => P (clearM env'), ct := fun env' _ => P (clearM env'), bk := fun env' _ => Dn.nx (clearM env') [], rt := fun s _ => (match s with
        | .d d => Dn.rt (.d d) []
        | _ => False) } _ ⟨c.eE, xk, sr3, er3⟩ ⟨?_, ?_, ?_, ?_⟩ (ps env2 pj)
      · exact fun σ' G' H' as' M' env' sr' l' er' q' => ⟨G', _, down sr', l2.trans l'.ex, er'.clearAll, q'⟩
      · intro v' G' H' as' M' s' sr' l' r' q'
        cases s' with
        | d d => exact e.rt v' G' H' [] [] (.d d) (srU (down sr') hh) ⟨(l1.ex.trans l2).trans l'.ex, [], rfl⟩ r' q'
        | m k => exact q'.elim
        | ml k => exact q'.elim
        | scr k => exact q'.elim
        | dic k => exact q'.elim
        | v k => exact q'.elim
        | acc k => exact q'.elim
      · exact fun σ' G' H' as' M' env' sr' l' er' q' => e.nx σ' G' H' [] [] _ (srU (down sr') hh) ⟨(l1.ex.trans l2).trans l'.ex, [], rfl⟩ er'.clearAll q'
      · exact fun σ' G' H' as' M' env' sr' l' er' q' => ⟨G', _, down sr', l2.trans l'.ex, er'.clearAll, q'⟩
    · rintro σ2 H2 ⟨G2, env2, sr2, l2, er2, pj⟩
      exact e.nx σ2 G2 H2 [] [] env2 (srU sr2 hh) ⟨l1.ex.trans l2, [], rfl⟩ er2 (pd env2 pj)
  · exact q1.elim
end
section
variable {X : Cx} {E : XK}
theorem s_forB {x : Str} {it : Expr} {sts : List Stmt} {we : DW} {w1 : DSw} {i : Nat} {p1 pos : Pos} (hp : PassesOwn (model X.prog X.w) X.A X.env X.xe) (hc : X.calm = true) (hN : X.N.Nodup) (hi : DE X E it we) (hb : DSs X E sts w1) (hx : X.N[i]? = some x := by rfl) (hl : Loc X.env.scope x := by first | exact Or.inl rfl | exact Or.inr rfl)
    (hf : X.fn x = true ∨ X.env.scope.names.lookup x = some .local := by first | exact .inl rfl | exact .inr rfl | assumption) (hs : ∀ x, foldedSetIterable it X.env x = pure x := by intro _; rfl) : DS X E (.For (.Name x p1) it sts [] pos) (wForB we i w1) :=
  .mk' (ps_for hp hc (pi_list hi.pe) (pg_name hN hx hl hf) hb.pe hs) (okS_forB okW okSW)
theorem s_par {i j : Nat} {x y : Str} {a b : Expr} {wl : DAW} {px py pt pos : Pos} {kt k2 pt2} (hN : X.N.Nodup) (ha : DA X E [a, b] wl) (hc : X.calm = true := by rfl) (hi : X.N[i]? = some x := by rfl) (hj : X.N[j]? = some y := by rfl) (hij : i ≠ j := by decide)
    (hx : X.env.scope.names.lookup x = some .local := by rfl) (hy : X.env.scope.names.lookup y = some .local := by rfl) (hw : swappedStores [.Tuple [.Name x px, .Name y py] kt pt] (.Tuple [a, b] k2 pt2) X.env = pure (some [x, y]) := by rfl)
    (hs : swapsWithSole [.Tuple [.Name x px, .Name y py] kt pt] (.Tuple [a, b] k2 pt2) pos.line X.env = pure false := by rfl) : DS X E (.Assign [.Tuple [.Name x px, .Name y py] kt pt] (.Tuple [a, b] k2 pt2) pos) (wPar i j wl) := .mk' (ps_par hc hN hi hj hij hx hy ha.pe hw hs) (okS_par okAW)
theorem s_par3 {i j l : Nat} {x y z : Str} {a b c : Expr} {wl : DAW} {px py pz pt pos : Pos} {kt k2 pt2} (hN : X.N.Nodup) (ha : DA X E [a, b, c] wl) (hc : X.calm = true := by rfl) (hi : X.N[i]? = some x := by rfl) (hj : X.N[j]? = some y := by rfl) (hl : X.N[l]? = some z := by rfl) (hij : i ≠ j := by decide) (hil : i ≠ l := by decide) (hjl : j ≠ l := by decide)
    (hx : X.env.scope.names.lookup x = some .local := by rfl) (hy : X.env.scope.names.lookup y = some .local := by rfl) (hz : X.env.scope.names.lookup z = some .local := by rfl) (hw : swappedStores [.Tuple [.Name x px, .Name y py, .Name z pz] kt pt] (.Tuple [a, b, c] k2 pt2) X.env = pure (some [x, y, z]) := by rfl)
    (hs : swapsWithSole [.Tuple [.Name x px, .Name y py, .Name z pz] kt pt] (.Tuple [a, b, c] k2 pt2) pos.line X.env = pure false := by rfl) : DS X E (.Assign [.Tuple [.Name x px, .Name y py, .Name z pz] kt pt] (.Tuple [a, b, c] k2 pt2) pos) (wPar3 i j l wl) := .mk' (ps_par3 hc hN hi hj hl hij hil hjl hx hy hz ha.pe hw hs) (okS_par3 okAW)
end
end R
/-! Layer R, part 7: the program's first functions and the law's helpers, over data. -/
namespace R
open PySem L2 Evl
abbrev XF : XC := fun _ _ => False
/-- a def's body w keeps sp -/
abbrev Keeps (w : DSw) (n : Nat) (sp : DSpec) : Prop := ∀ ads Q, sp ads Q → w XF (dEnds (adsMem ads).length Q) (envStart ads n) (adsMem ads)
theorem nod0 : ([] : List Nat).Nodup := List.nodup_nil
theorem nod1 {i : Nat} : [i].Nodup := by simp
structure Plan where
  fee : Int
  data : Int
  cap : Int
  price : Int
def Plan.D (p : Plan) : R.D := .tup [.int p.fee, .int p.data, .int p.cap, .int p.price]
structure Plan.Ok (p : Plan) : Prop where
  f0 : 0 ≤ p.fee
  f1 : p.fee ≤ 10000
  d0 : 0 ≤ p.data
  d1 : p.data ≤ 1000
  c0 : 0 ≤ p.cap
  c1 : p.cap ≤ 10000
  p0 : 0 ≤ p.price
  p1 : p.price ≤ 100
/-- what a month shows -/
structure Row where
  cost : Int
  kept : Int
  lost : Int
  further : Int
def Row.D (r : Row) : R.D := .tup [.int r.cost, .int r.kept, .int r.lost, .int r.further]
def usD (us : List Int) : D := .tup (us.map D.int)
structure UsOk (us : List Int) : Prop where
  len : us.length ≤ 36
  all : ∀ u ∈ us, 0 ≤ u ∧ u ≤ 1000000
/-! ### checks -/
def inR (d : D) (lo hi : Int) : Bool := match d with
  | .int v => decide (lo ≤ v) && decide (v ≤ hi)
  | _ => false
def isPlanD (d : D) : Bool := match d with
  | .tup [a, b, c, e] => inR a 0 10000 && (inR b 0 1000 && (inR c 0 10000 && inR e 0 100))
  | _ => false
def isUsageD (d : D) : Bool := match d with
  | .tup ds => decide (ds.length ≤ 36) && ds.all fun x => inR x 0 1000000
  | _ => false
theorem inR_int {v lo hi : Int} (h : lo ≤ v) (h' : v ≤ hi) : inR (.int v) lo hi = true := by simp [inR, h, h']
theorem plan_ok {p : Plan} (h : p.Ok) : isPlanD p.D = true := by
  show (inR (.int p.fee) 0 10000 && (inR (.int p.data) 0 1000 && (inR (.int p.cap) 0 10000 && inR (.int p.price) 0 100))) = true
  rw [inR_int h.f0 h.f1, inR_int h.d0 h.d1, inR_int h.c0 h.c1, inR_int h.p0 h.p1]; rfl
theorem usage_ok {us : List Int} (h : UsOk us) : isUsageD (usD us) = true := by
  show (decide ((us.map D.int).length ≤ 36) && (us.map D.int).all fun x => inR x 0 1000000) = true
  rw [List.length_map, decide_eq_true h.len, Bool.true_and, List.all_eq_true]
  intro d hd
  obtain ⟨u, hu, rfl⟩ := List.mem_map.mp hd
  exact inR_int (h.all u hu).1 (h.all u hu).2
def sp_in_range : DSpec := fun ads Q => ∃ d lo hi, ads = [.d d, .d (.int lo), .d (.int hi)] ∧ Q (.d (.bl (inR d lo hi))) []
theorem l_in_range : ∀ ads Q, sp_in_range ads Q → ads.length = 3 := by rintro _ _ ⟨_, _, _, rfl, _⟩; rfl
def w_in_range : DSw := (wRet (wAndV (wIsi1 .int (wVar 0)) (wAndV (wNotV (wIsi1 .bool (wVar 0))) (wChain fLe fLe (wVar 1) (wVar 0) (wVar 2)))))
theorem v_in_range : Keeps w_in_range 0 sp_in_range := by
  rintro ads Q ⟨d, lo, hi, rfl, q⟩
  cases d with
  | int v =>
    revert q
    show Q (.d (.bl (decide (lo ≤ v) && decide (v ≤ hi)))) [] → (if decide (lo ≤ v) = true then Q (.d (.bl (decide (v ≤ hi)))) [] else Q (.d (.bl false)) [])
    cases decide (lo ≤ v) <;> exact fun q => q
  | bl v => exact q
  | non => exact q
  | str v => exact q
  | tup v => exact q
  | lst v => exact q
def sp_is_plan : DSpec := fun ads Q => ∃ d, ads = [.d d] ∧ Q (.d (.bl (isPlanD d))) []
theorem l_is_plan : ∀ ads Q, sp_is_plan ads Q → ads.length = 1 := by rintro _ _ ⟨_, rfl, _⟩; rfl
def w_is_plan : DSw := (wSeq (wIfS (wOrT (wNotT (wTst (wIsi1 .tuple (wVar 0)))) (wTst (wOp fNe (wCB fLen (wCons (wVar 0) wNil)) (wC (.int 4))))) (wRet (wC (.bl false))) wNext) (wSeq (wAsg (wTup (wCons (wC (.int 10000)) (wCons (wC (.int 1000)) (wCons (wC (.int 10000)) (wCons (wC (.int 100)) wNil))))) (wgName 1)) (wRet (wCB fAll (wCons (wLc (wiZip (wCons (wVar 0) (wCons (wVar 1) wNil))) (wgTup 2 (wgCons (wgName 2) (wgCons (wgName 3) wgNil))) wYes (wCall sp_in_range (wCons (wVar 2) (wCons (wC (.int 0)) (wCons (wVar 3) wNil)))) [2, 3]) wNil)))))
theorem v_is_plan : Keeps w_is_plan 3 sp_is_plan := by
  rintro ads Q ⟨d, rfl, q⟩
  cases d with
  | tup ds =>
    refine ⟨trivial, trivial, ite2 (fun h => ?_) (fun h => ?_)⟩
    · have e : isPlanD (.tup ds) = false := by
        unfold isPlanD
        split
        · rename_i e; cases e; exact Bool.noConfusion (show false = true from h)
        · rfl
      rw [e] at q
      exact q
    · obtain ⟨a, b, c, e, rfl⟩ : ∃ a b c e, ds = [a, b, c, e] := by
        have hl : ds.length = 4 := by
          have h' : ¬ (!((ds.length : Int) == 4)) = true := h
          simp at h'
          omega
        match ds, hl with
        | [a, b, c, e], _ => exact ⟨a, b, c, e, rfl⟩
      refine ⟨rfl, rfl, nod0, a, 0, 10000, rfl, by decide, rfl, nod0, b, 0, 1000, rfl, (by show 1 < 16000000; decide), rfl, nod0, c, 0, 10000, rfl, (by show 2 < 16000000; decide), rfl, nod0, e, 0, 100, rfl, (by show 3 < 16000000; decide), [inR a 0 10000, inR b 0 1000, inR c 0 10000, inR e 0 100], rfl, ?_⟩
      have e2 : [inR a 0 10000, inR b 0 1000, inR c 0 10000, inR e 0 100].all id = isPlanD (.tup [a, b, c, e]) := by simp [isPlanD]
      rw [e2]
      exact q
  | int v => exact q
  | bl v => exact q
  | non => exact q
  | str v => exact q
  | lst v => exact q
def sp_is_usage : DSpec := fun ads Q => ∃ d, ads = [.d d] ∧ Q (.d (.bl (isUsageD d))) []
theorem l_is_usage : ∀ ads Q, sp_is_usage ads Q → ads.length = 1 := by rintro _ _ ⟨_, rfl, _⟩; rfl
def w_is_usage : DSw := (wSeq (wIfS (wOrT (wNotT (wTst (wIsi1 .tuple (wVar 0)))) (wTst (wOp fGt (wCB fLen (wCons (wVar 0) wNil)) (wC (.int 36))))) (wRet (wC (.bl false))) wNext) (wRet (wCB fAll (wCons (wLc (wiTup (wVar 0)) (wgName 1) wYes (wCall sp_in_range (wCons (wVar 1) (wCons (wC (.int 0)) (wCons (wC (.int 1000000)) wNil)))) [1]) wNil))))
theorem v_is_usage : Keeps w_is_usage 1 sp_is_usage := by
  rintro ads Q ⟨d, rfl, q⟩
  cases d with
  | tup ds =>
    refine ite2 (fun h => ?_) (fun h => ?_)
    · have e : isUsageD (.tup ds) = false := by
        have h' : (36 : Int) < (ds.length : Int) := of_decide_eq_true h
        show (decide (ds.length ≤ 36) && _) = false
        rw [decide_eq_false (by omega)]; rfl
      rw [e] at q
      exact q
    · have hl : ds.length ≤ 36 := by
        have h' : ¬ (36 : Int) < (ds.length : Int) := fun z => h (decide_eq_true z)
        omega
      refine dLc_map ds S.d (fun d => .bl (inR d 0 1000000)) (by show 0 + ds.length ≤ 16000000; omega) (fun d _ k hk => ⟨nod0, d, 0, 1000000, rfl, hk⟩) ⟨ds.map fun d => inR d 0 1000000, by rw [List.map_map]; rfl, ?_⟩
      have e : (ds.map fun d => inR d 0 1000000).all id = isUsageD (.tup ds) := by
        show _ = (decide (ds.length ≤ 36) && ds.all fun x => inR x 0 1000000)
        rw [decide_eq_true hl, Bool.true_and, List.all_map]; rfl
      rw [e]
      exact q
  | int v => exact q
  | bl v => exact q
  | non => exact q
  | str v => exact q
  | lst v => exact q
/-- of what is a plan, a usage -/
def sp_check_plan : DSpec := fun ads Q => ∃ p : Plan, ads = [.d p.D] ∧ p.Ok ∧ Q (.d .non) []
theorem l_check_plan : ∀ ads Q, sp_check_plan ads Q → ads.length = 1 := by rintro _ _ ⟨_, rfl, _⟩; rfl
def w_check_plan : DSw := (wIfS (wNotT (wTst (wCall sp_is_plan (wCons (wVar 0) wNil)))) wNever wNext)
theorem v_check_plan : Keeps w_check_plan 0 sp_check_plan := by
  rintro ads Q ⟨p, rfl, ok, q⟩
  refine ⟨nod0, p.D, rfl, ?_⟩
  rw [plan_ok ok]
  exact q
def sp_check_usage : DSpec := fun ads Q => ∃ us, ads = [.d (usD us)] ∧ UsOk us ∧ Q (.d .non) []
theorem l_check_usage : ∀ ads Q, sp_check_usage ads Q → ads.length = 1 := by rintro _ _ ⟨_, rfl, _⟩; rfl
def w_check_usage : DSw := (wIfS (wNotT (wTst (wCall sp_is_usage (wCons (wVar 0) wNil)))) wNever wNext)
theorem v_check_usage : Keeps w_check_usage 0 sp_check_usage := by
  rintro ads Q ⟨us, rfl, ok, q⟩
  refine ⟨nod0, usD us, rfl, ?_⟩
  rw [usage_ok ok]
  exact q
/-! ### months -/
def monthM (p : Plan) (kept units : Int) : Row :=
  let further := max 0 (units - kept - p.data)
  let rest := kept + p.data - units + further
  ⟨p.fee + p.price * further, min p.cap rest, max 0 (rest - p.cap), further⟩
def sp_month : DSpec := fun ads Q => ∃ (p : Plan) (kept units : Int), ads = [.d p.D, .d (.int kept), .d (.int units)] ∧ p.Ok ∧ Q (.d (monthM p kept units).D) []
theorem l_month : ∀ ads Q, sp_month ads Q → ads.length = 3 := by rintro _ _ ⟨_, _, _, rfl, _⟩; rfl
def w_month : DSw := (wSeq (wAsg (wVar 0) (wgTup 4 (wgCons (wgName 5) (wgCons (wgName 6) (wgCons (wgName 7) (wgCons (wgName 8) wgNil)))))) (wSeq (wAsg (wCB fMax2 (wCons (wC (.int 0)) (wCons (wOp fSub (wOp fSub (wVar 2) (wVar 1)) (wVar 6)) wNil))) (wgName 3)) (wSeq (wAsg (wOp fAdd (wOp fSub (wOp fAdd (wVar 1) (wVar 6)) (wVar 2)) (wVar 3)) (wgName 4)) (wRet (wTup (wCons (wOp fAdd (wVar 5) (wOp fMul (wVar 8) (wVar 3))) (wCons (wCB fMin2 (wCons (wVar 7) (wCons (wVar 4) wNil))) (wCons (wCB fMax2 (wCons (wC (.int 0)) (wCons (wOp fSub (wVar 4) (wVar 7)) wNil))) (wCons (wVar 3) wNil)))))))))
theorem v_month : Keeps w_month 6 sp_month := by
  rintro ads Q ⟨p, k, u, rfl, ok, q⟩
  refine ⟨rfl, .inl ⟨?_, ?_⟩, rfl, q⟩
  · have := ok.p0; show -(2 ^ 64) < p.price; omega
  · have := ok.p1; show p.price < 2 ^ 64; omega
def playM (p : Plan) : List Int → Int → List Row
  | [], _ => []
  | u :: us, k => monthM p k u :: playM p us (monthM p k u).kept
def kAfter (p : Plan) : List Int → Int → Int
  | [], k => k
  | u :: us, k => kAfter p us (monthM p k u).kept
theorem playM_snoc (p : Plan) : ∀ (us : List Int) (u k : Int), playM p (us ++ [u]) k = playM p us k ++ [monthM p (kAfter p us k) u]
  | [], u, k => rfl
  | v :: us, u, k => by
    show monthM p k v :: playM p (us ++ [u]) _ = _
    rw [playM_snoc p us u]; rfl
theorem kAfter_snoc (p : Plan) : ∀ (us : List Int) (u k : Int), kAfter p (us ++ [u]) k = (monthM p (kAfter p us k) u).kept
  | [], u, k => rfl
  | v :: us, u, k => by
    show kAfter p (us ++ [u]) _ = _
    rw [kAfter_snoc p us u]; rfl
theorem playM_len (p : Plan) : ∀ (us : List Int) (k : Int), (playM p us k).length = us.length
  | [], _ => rfl
  | v :: us, k => by
    show (playM p us _).length + 1 = _
    rw [playM_len p us]; rfl
def sp_played : DSpec := fun ads Q => ∃ (p : Plan) (us : List Int) (k : Int), ads = [.d p.D, .d (usD us), .d (.int k)] ∧ p.Ok ∧ us.length ≤ 100000 ∧ Q (.m 0) [.lst ((playM p us k).map Row.D)]
theorem l_played : ∀ ads Q, sp_played ads Q → ads.length = 3 := by rintro _ _ ⟨_, _, _, rfl, _⟩; rfl
def w_played : DSw := (wSeq (wAsg (wLstO wNil) (wgName 3)) (wSeq (wFor (wiTup (wVar 1)) (wgName 4) (wSeq (wDrop (wAppend (wVar 3) (wCall sp_month (wCons (wVar 0) (wCons (wVar 2) (wCons (wVar 4) wNil)))))) (wAsg (wOp fIx (wOp fIx (wVar 3) (wUn fNeg (wC (.int 1)))) (wC (.int 1))) (wgName 2)))) (wRet (wVar 3))))
theorem v_played : Keeps w_played 2 sp_played := by
  rintro ads Q ⟨p, us, k, rfl, ok, hl, q⟩
  refine ⟨rfl, fun i env M => ∃ x, env = [some (.d p.D), some (.d (usD us)), some (.d (.int (kAfter p (us.take i) k))), some (.m 0), x] ∧ M = [.lst ((playM p (us.take i) k).map Row.D)], ⟨none, rfl, rfl⟩, ?_, ?_⟩
  · rintro i s env M hs ⟨x, rfl, rfl⟩
    obtain ⟨u, hu, rfl⟩ := dmap_get hs
    have e1 := take_suc hu
    refine ⟨nod0, p, _, u, rfl, ok, ?_⟩
    refine ⟨?_, atQ_some (atI_last _ _) ?_⟩
    · rw [List.length_map, playM_len, List.length_take]; omega
    · refine ⟨some (.d (.int u)), ?_, ?_⟩
      · rw [e1, kAfter_snoc]; rfl
      · rw [e1, playM_snoc, List.map_append]; rfl
  · rintro env M ⟨x, rfl, rfl⟩
    rw [List.length_map, List.length_map, List.take_length]
    exact q
def costM (p : Plan) (us : List Int) : Int := ((playM p us 0).map Row.cost).sum
def sp_cost_of : DSpec := fun ads Q => ∃ (p : Plan) (us : List Int), ads = [.d p.D, .d (usD us)] ∧ p.Ok ∧ us.length ≤ 100000 ∧ Q (.d (.int (costM p us))) []
theorem l_cost_of : ∀ ads Q, sp_cost_of ads Q → ads.length = 2 := by rintro _ _ ⟨_, _, rfl, _⟩; rfl
def w_cost_of : DSw := (wRet (wCB fSum (wCons (wLc (wiLst (wFz (wCall sp_played (wCons (wVar 0) (wCons (wVar 1) (wCons (wC (.int 0)) wNil)))))) (wgName 2) wYes (wOp fIx (wVar 2) (wC (.int 0))) [2]) wNil)))
theorem v_cost_of : Keeps w_cost_of 1 sp_cost_of := by
  rintro ads Q ⟨p, us, rfl, ok, hl, q⟩
  refine ⟨nod0, p, us, 0, rfl, ok, hl, Nat.zero_le _, ?_⟩
  refine dLc_dmap (playM p us 0) Row.D (fun r => .int r.cost) (by rw [playM_len]; omega) (fun r _ k hk => hk) ?_
  exact ⟨(playM p us 0).map Row.cost, by rw [List.map_map]; rfl, q⟩
def sp_total_cost : DSpec := fun ads Q => ∃ (p : Plan) (uss : List (List Int)), ads = [.d p.D, .d (.tup (uss.map usD))] ∧ p.Ok ∧ (∀ us ∈ uss, UsOk us) ∧ uss.length ≤ 1000 ∧ Q (.d (.int (uss.map (costM p)).sum)) []
theorem l_total_cost : ∀ ads Q, sp_total_cost ads Q → ads.length = 2 := by rintro _ _ ⟨_, _, rfl, _⟩; rfl
def w_total_cost : DSw := (wSeq (wDrop (wCall sp_check_plan (wCons (wVar 0) wNil))) (wSeq (wFor (wiTup (wVar 1)) (wgName 2) (wDrop (wCall sp_check_usage (wCons (wVar 2) wNil)))) (wRet (wCB fSum (wCons (wLc (wiTup (wVar 1)) (wgName 2) wYes (wCall sp_cost_of (wCons (wVar 0) (wCons (wVar 2) wNil))) [2]) wNil)))))
theorem v_total_cost : Keeps w_total_cost 1 sp_total_cost := by
  rintro ads Q ⟨p, uss, rfl, ok, hu, hl, q⟩
  refine ⟨nod0, p, rfl, ok, fun i env M => ∃ x, env = [some (.d p.D), some (.d (.tup (uss.map usD))), x] ∧ M = [], ⟨none, rfl, rfl⟩, ?_, ?_⟩
  · rintro i s env M hs ⟨x, rfl, rfl⟩
    obtain ⟨us, hm, rfl⟩ := dmap_get hs
    exact ⟨nod0, us, rfl, hu us (List.mem_of_getElem? hm), _, rfl, rfl⟩
  · rintro env M ⟨x, rfl, rfl⟩
    refine dLc_dmap uss usD (fun us => .int (costM p us)) (by omega) (fun us hm k hk => ⟨nod0, p, us, rfl, ok, by have := (hu us hm).len; omega, hk⟩) ?_
    exact ⟨uss.map (costM p), by rw [List.map_map]; rfl, q⟩
theorem kept_list (p : Plan) : ∀ (us : List Int) (k : Int), ∃ l, D.int k :: (playM p us k).map (fun r => D.int r.kept) = l ++ [.int (kAfter p us k)]
  | [], k => ⟨[], rfl⟩
  | u :: us, k => by
    obtain ⟨l, e⟩ := kept_list p us (monthM p k u).kept
    refine ⟨.int k :: l, ?_⟩
    show D.int k :: (D.int (monthM p k u).kept :: (playM p us _).map _) = _
    rw [e]; rfl
def sp_kept_after : DSpec := fun ads Q => ∃ (p : Plan) (us : List Int), ads = [.d p.D, .d (usD us)] ∧ p.Ok ∧ UsOk us ∧ Q (.d (.int (kAfter p us 0))) []
theorem l_kept_after : ∀ ads Q, sp_kept_after ads Q → ads.length = 2 := by rintro _ _ ⟨_, _, rfl, _⟩; rfl
def w_kept_after : DSw := (wSeq (wDrop (wCall sp_check_plan (wCons (wVar 0) wNil))) (wSeq (wDrop (wCall sp_check_usage (wCons (wVar 1) wNil))) (wRet (wOp fIx (wOp fAdd (wLst (wCons (wC (.int 0)) wNil)) (wLc (wiLst (wFz (wCall sp_played (wCons (wVar 0) (wCons (wVar 1) (wCons (wC (.int 0)) wNil)))))) (wgName 2) wYes (wOp fIx (wVar 2) (wC (.int 1))) [2])) (wUn fNeg (wC (.int 1)))))))
theorem v_kept_after : Keeps w_kept_after 1 sp_kept_after := by
  rintro ads Q ⟨p, us, rfl, ok, hu, q⟩
  have hl := hu.len
  refine ⟨nod0, p, rfl, ok, nod0, us, rfl, hu, rfl, nod0, p, us, 0, rfl, ok, by omega, Nat.zero_le _, ?_⟩
  refine dLc_dmap (playM p us 0) Row.D (fun r => .int r.kept) (by rw [playM_len]; omega) (fun r _ k hk => hk) ?_
  obtain ⟨l, e⟩ := kept_list p us 0
  refine ⟨by rw [List.length_map, playM_len]; show 1 + us.length ≤ 16000000; omega, atQ_some (a := .int (kAfter p us 0)) ?_ ?_⟩
  · show atI (D.int 0 :: (playM p us 0).map (fun r => D.int r.kept)) (-1) = _
    rw [e]
    exact atI_last _ _
  · exact q
def lostM (p : Plan) (us : List Int) : Int := ((playM p us 0).map Row.lost).sum
def sp_lost_units : DSpec := fun ads Q => ∃ (p : Plan) (us : List Int), ads = [.d p.D, .d (usD us)] ∧ p.Ok ∧ UsOk us ∧ Q (.d (.int (lostM p us))) []
theorem l_lost_units : ∀ ads Q, sp_lost_units ads Q → ads.length = 2 := by rintro _ _ ⟨_, _, rfl, _⟩; rfl
def w_lost_units : DSw := (wSeq (wDrop (wCall sp_check_plan (wCons (wVar 0) wNil))) (wSeq (wDrop (wCall sp_check_usage (wCons (wVar 1) wNil))) (wRet (wCB fSum (wCons (wLc (wiLst (wFz (wCall sp_played (wCons (wVar 0) (wCons (wVar 1) (wCons (wC (.int 0)) wNil)))))) (wgName 2) wYes (wOp fIx (wVar 2) (wC (.int 2))) [2]) wNil)))))
theorem v_lost_units : Keeps w_lost_units 1 sp_lost_units := by
  rintro ads Q ⟨p, us, rfl, ok, hu, q⟩
  have hl := hu.len
  refine ⟨nod0, p, rfl, ok, nod0, us, rfl, hu, nod0, p, us, 0, rfl, ok, by omega, Nat.zero_le _, ?_⟩
  refine dLc_dmap (playM p us 0) Row.D (fun r => .int r.lost) (by rw [playM_len]; omega) (fun r _ k hk => hk) ?_
  exact ⟨(playM p us 0).map Row.lost, by rw [List.map_map]; rfl, q⟩
end R
/-! Layer R, part 8: draws. -/
namespace R
open PySem L2 Evl
abbrev pM : Int := 2305843009213693951
def sp_well_raw : DSpec := fun ads Q => ∃ c t : Int, ads = [.d (.int c), .d (.int t)] ∧ ∀ x y : Int, 0 ≤ x → 0 ≤ y → y < 2305843009213693951 → Q (.m 0) [.lst [.int x, .int y, .int t]]
theorem l_well_raw : ∀ ads Q, sp_well_raw ads Q → ads.length = 2 := by rintro _ _ ⟨_, _, rfl, _⟩; rfl
def w_law_well : DSw := (wSeq (wIfS (wTst (wOp fGe (wVar 0) (wOp fPow (wC (.int 10)) (wC (.int 18))))) (wRet (wLstO (wCons (wOp fSub (wVar 0) (wOp fPow (wC (.int 10)) (wC (.int 18)))) (wCons (wOp fMod (wVar 0) (wC (.int 2305843009213693951))) (wCons (wVar 1) wNil))))) wNext) (wRet (wLstO (wCons (wC (.int 0)) (wCons (wOp fMod (wVar 0) (wC (.int 2305843009213693951))) (wCons (wVar 1) wNil))))))
theorem v_law_well : Keeps w_law_well 0 sp_well_raw := by
  rintro ads Q ⟨c, t, rfl, q⟩
  have h1 : 0 ≤ c % 2305843009213693951 := Int.emod_nonneg _ (by decide)
  have h2 : c % 2305843009213693951 < 2305843009213693951 := Int.emod_lt_of_pos _ (by decide)
  refine ⟨⟨by decide, by decide, by decide⟩, ite2 (fun h => ?_) (fun h => ?_)⟩
  · refine ⟨⟨by decide, by decide, by decide⟩, (by show (0 : Int) < 2305843009213693951; decide), rfl, ?_⟩
    have h' : (10 : Int) ^ (18 : Int).toNat ≤ c := of_decide_eq_true h
    exact q (c - 10 ^ (18 : Int).toNat) _ (by omega) h1 h2
  · exact ⟨(by show (0 : Int) < 2305843009213693951; decide), rfl, q 0 _ (Int.le_refl 0) h1 h2⟩
def sp_law_well : DSpec := fun ads Q => ∃ (c t : Int) (n : Nat), ads = [.d (.int c), .d (.int t)] ∧ 0 ≤ t ∧ t ≤ n ∧ Q (.m 0) [.bag n]
theorem l_law_well : ∀ ads Q, sp_law_well ads Q → ads.length = 2 := by rintro _ _ ⟨_, _, _, rfl, _⟩; rfl
theorem wells {ads : List AD} {Q : DK} (h : sp_law_well ads Q) : sp_well_raw ads fun s M' => ∃ n ds, s = .m 0 ∧ M' = [.lst ds] ∧ Bag3 n ds ∧ Q (.m 0) [.bag n] := by
  obtain ⟨c, t, n, rfl, h0, h1, q⟩ := h
  exact ⟨c, t, rfl, fun x y hx hy hy2 => ⟨n, _, rfl, rfl, ⟨x, y, t, rfl, hx, hy, hy2, h0, h1⟩, q⟩⟩
theorem mod_lo (x : Int) : -(2 ^ 64) < x % 2305843009213693951 := by omega
theorem mod_hi (x : Int) : x % 2305843009213693951 < 2 ^ 64 := by omega
theorem mod_ab (x : Int) : (x % 2305843009213693951).natAbs < 2 ^ 64 := by omega
def sp_take_raw : DSpec := fun ads Q => ∃ x y z m : Int, ads = [.mo (.ext [.int x, .int y, .int z]), .d (.int m)] ∧ (0 ≤ x ∧ 0 ≤ y ∧ y < 2305843009213693951 ∧ 0 ≤ z ∧ z < 2 ^ 62) ∧ 0 < m ∧ m < 1073741824 ∧
  ∀ r x' y' z' : Int, 0 ≤ r → r < m → 0 ≤ x' → 0 ≤ y' → y' < 2305843009213693951 → 0 ≤ z' → z' ≤ z + 1 → Q (.d (.int r)) [.ext [.int x', .int y', .int z']]
theorem l_take_raw : ∀ ads Q, sp_take_raw ads Q → ads.length = 2 := by rintro _ _ ⟨_, _, _, _, rfl, _⟩; rfl
def w_law_take : DSw := (wSeq (wIfS (wTst (wOp fGt (wOp fIx (wVar 0) (wC (.int 0))) (wC (.int 0)))) (wSeq (wAsg (wOp fMod (wOp fIx (wVar 0) (wC (.int 0))) (wVar 1)) (wgName 4)) (wSeq (wAsg (wOp fDiv (wOp fIx (wVar 0) (wC (.int 0))) (wVar 1)) (wgSub (wVar 0) (wC (.int 0)))) (wRet (wVar 4)))) wNext) (wSeq (wAsg (wOp fAdd (wOp fIx (wVar 0) (wC (.int 2))) (wC (.int 1))) (wgSub (wVar 0) (wC (.int 2)))) (wSeq (wAsg (wC (.int 2305843009213693951)) (wgName 2)) (wSeq (wAsg (wOp fMod (wOp fAdd (wOp fIx (wVar 0) (wC (.int 1))) (wOp fMul (wC (.int 1000003)) (wOp fIx (wVar 0) (wC (.int 2))))) (wVar 2)) (wgName 3)) (wSeq (wAsg (wOp fMod (wOp fAdd (wOp fAdd (wOp fMul (wVar 3) (wVar 3)) (wOp fMul (wC (.int 7919)) (wOp fPow (wOp fIx (wVar 0) (wC (.int 2))) (wC (.int 2))))) (wC (.int 5))) (wVar 2)) (wgName 3)) (wRet (wOp fMod (wOp fDiv (wOp fMod (wOp fPow (wVar 3) (wC (.int 3))) (wVar 2)) (wC (.int 13))) (wVar 1))))))))
theorem v_law_take : Keeps w_law_take 3 sp_take_raw := by
  rintro ads Q ⟨x, y, z, m, rfl, ⟨hx, hy, hy2, hz, hz2⟩, hm, hm2, q⟩
  refine ite2 (fun h => ?_) (fun h => ?_)
  · refine ⟨hm, ⟨hm, hm2⟩, ?_⟩
    exact q (x % m) (x / m) y z (Int.emod_nonneg _ (by omega)) (Int.emod_lt_of_pos _ hm) (Int.ediv_nonneg hx (by omega)) hy hy2 hz (by omega)
  · have hp : (0 : Int) < 2305843009213693951 := by decide
    refine ⟨.inl ⟨by decide, by decide⟩, hp, .inl ⟨mod_lo _, mod_hi _⟩, ⟨by decide, by decide, by show (z + 1).natAbs < 2 ^ 64; omega⟩, .inl ⟨by decide, by decide⟩, hp, ⟨by decide, by decide, mod_ab _⟩, hp, ⟨by decide, by decide⟩, hm, ?_⟩
    exact q _ x y (z + 1) (Int.emod_nonneg _ (by omega)) (Int.emod_lt_of_pos _ hm) hx hy hy2 (by omega) (by omega)
def sp_law_take : DSpec := fun ads Q => ∃ (n : Nat) (m : Int), ads = [.mo (.bag n), .d (.int m)] ∧ n < 2 ^ 61 ∧ 0 < m ∧ m < 1073741824 ∧ ∀ r : Int, 0 ≤ r → r < m → Q (.d (.int r)) [.bag (n + 1)]
theorem l_law_take : ∀ ads Q, sp_law_take ads Q → ads.length = 2 := by rintro _ _ ⟨_, _, rfl, _⟩; rfl
theorem takes {ads : List AD} {Q : DK} (h : sp_law_take ads Q) : ∃ (n : Nat) (ds : List D), ads = .mo (.bag n) :: ds.map AD.d ∧ ∀ es, Bag3 n es → sp_take_raw (.mo (.ext es) :: ds.map AD.d) fun s M' => ∃ n' es' d, s = .d d ∧ M' = [.ext es'] ∧ Bag3 n' es' ∧ Q (.d d) [.bag n'] := by
  obtain ⟨n, m, rfl, hn, hm, hm2, q⟩ := h
  refine ⟨n, [.int m], rfl, ?_⟩
  rintro es ⟨x, y, z, rfl, hx, hy, hy2, hz, hz2⟩
  refine ⟨x, y, z, m, rfl, ⟨hx, hy, hy2, hz, by omega⟩, hm, hm2, fun r x' y' z' h0 h1 h2 h3 h4 h5 h6 => ⟨n + 1, _, .int r, rfl, rfl, ⟨x', y', z', rfl, h2, h3, h4, h5, by omega⟩, q r h0 h1⟩⟩
/-- the sources of a script -/
def sp_law_bags : DSpec := fun ads Q => ∃ (ns : List Int) (m : Int), ads = [.scr ns, .d (.int m)] ∧ ns.length ≤ 63 ∧ ∀ k : Nat, Q (.ml (List.range k)) (List.replicate k (.bag 70000))
theorem l_law_bags : ∀ ads Q, sp_law_bags ads Q → ads.length = 2 := by rintro _ _ ⟨_, _, rfl, _⟩; rfl
def w_law_bags : DSw := (wRet (wLcM (wiEnum (wCons (wOp fAdd (wSl (wVar 0) wNo (wSome (wVar 1))) (wLst (wCons (wC (.int 0)) wNil))) wNil)) (wgTup 2 (wgCons (wgName 2) (wgCons (wgName 3) wgNil))) wYes (wCall sp_law_well (wCons (wVar 3) (wCons (wOp fMul (wC (.int 977)) (wVar 2)) wNil))) [2, 3]))
theorem cutG_len {α : Type} (xs : List α) (lo hi : Option Int) : (cutG xs lo hi).length ≤ xs.length := by
  unfold cutG
  rw [List.length_take, List.length_drop]
  omega
theorem bags_run (env : Env) {Q : List Nat → Mem → Prop} (q : ∀ k : Nat, Q (List.range k) (List.replicate k (.bag 70000))) : ∀ (cs : List Int) (j : Nat), j + cs.length ≤ 64 →
    dLcM (wgTup 2 (wgCons (wgName 2) (wgCons (wgName 3) wgNil))) wYes (wCall sp_law_well (wCons (wVar 3) (wCons (wOp fMul (wC (.int 977)) (wVar 2)) wNil))) XF [env.getD 0 none, env.getD 1 none, none, none] (enumS (j : Int) (cs.map D.int)) (List.range j) (List.replicate j (.bag 70000)) Q
  | [], j, _ => by
    show Q _ _
    exact q j
  | c :: cs, j, h => by
    have hj : j + 1 + cs.length ≤ 64 := by rw [List.length_cons] at h; omega
    refine ⟨rfl, .inl ⟨by decide, by decide⟩, nod0, c, 977 * (j : Int), 70000, rfl, by omega, by omega, ?_, ?_⟩
    · rw [List.length_range]; omega
    · have ih := bags_run env q cs (j + 1) hj
      rw [List.range_succ, List.replicate_succ'] at ih
      show dLcM _ _ _ _ _ (enumS ((j : Int) + 1) (cs.map D.int)) (List.range j ++ [(List.replicate j (MO.bag 70000)).length + 0]) (List.replicate j (.bag 70000) ++ [.bag 70000]) Q
      rw [List.length_replicate, Nat.add_zero]
      exact ih
theorem v_law_bags : Keeps w_law_bags 2 sp_law_bags := by
  rintro ads Q ⟨ns, m, rfl, hl, q⟩
  have h1 := cutG_len ns none (some m)
  refine ⟨rfl, by rw [List.length_map]; show _ + 1 ≤ 16000000; omega, ?_⟩
  show dLcM _ _ _ _ _ (enumS (0 : Int) ((cutG ns none (some m)).map D.int ++ [D.int 0])) [] [] _
  have e : (cutG ns none (some m)).map D.int ++ [D.int 0] = (cutG ns none (some m) ++ [0]).map D.int := by rw [List.map_append]; rfl
  rw [e]
  exact bags_run [some (.scr ns), some (.d (.int m))] q (cutG ns none (some m) ++ [0]) 0 (by rw [List.length_append]; show 0 + (_ + 1) ≤ 64; omega)
/-- a drawn plan -/
def sp_law_plan : DSpec := fun ads Q => ∃ n : Nat, ads = [.mo (.bag n)] ∧ n < 2 ^ 60 ∧ ∀ p : Plan, p.Ok → Q (.d p.D) [.bag (n + 5)]
theorem l_law_plan : ∀ ads Q, sp_law_plan ads Q → ads.length = 1 := by rintro _ _ ⟨_, rfl, _⟩; rfl
def w_law_plan : DSw := (wSeq (wAsg (wCall sp_law_take (wCons (wVar 0) (wCons (wC (.int 4)) wNil))) (wgName 1)) (wSeq (wPar 2 3 (wCons (wCall sp_law_take (wCons (wVar 0) (wCons (wOp fIx (wLst (wCons (wC (.int 20)) (wCons (wC (.int 10001)) wNil))) (wOp fDiv (wVar 1) (wC (.int 3)))) wNil))) (wCons (wCall sp_law_take (wCons (wVar 0) (wCons (wOp fIx (wLst (wCons (wC (.int 5)) (wCons (wC (.int 12)) (wCons (wC (.int 4)) (wCons (wC (.int 1001)) wNil))))) (wVar 1)) wNil))) wNil))) (wRet (wTup (wCons (wVar 2) (wCons (wVar 3) (wCons (wCall sp_law_take (wCons (wVar 0) (wCons (wOp fIx (wLst (wCons (wC (.int 1)) (wCons (wC (.int 20)) (wCons (wC (.int 9)) (wCons (wC (.int 10001)) wNil))))) (wVar 1)) wNil))) (wCons (wCall sp_law_take (wCons (wVar 0) (wCons (wOp fIx (wLst (wCons (wC (.int 4)) (wCons (wC (.int 3)) (wCons (wC (.int 2)) (wCons (wC (.int 101)) wNil))))) (wVar 1)) wNil))) wNil))))))))
theorem v_law_plan : Keeps w_law_plan 3 sp_law_plan := by
  rintro ads Q ⟨n, rfl, hn, q⟩
  refine ⟨nod1, n, 4, rfl, by omega, by decide, by decide, fun r h0 h1 => ?_⟩
  have h : r = 0 ∨ r = 1 ∨ r = 2 ∨ r = 3 := by omega
  rcases h with rfl | rfl | rfl | rfl
  · refine ⟨rfl, ⟨by decide, by decide⟩, nod1, n + 1, 20, rfl, by omega, by decide, by decide, fun a a0 a1 => ?_⟩
    refine ⟨rfl, nod1, n + 2, 5, rfl, by omega, by decide, by decide, fun b b0 b1 => ?_⟩
    refine ⟨rfl, nod1, n + 3, 1, rfl, by omega, by decide, by decide, fun c c0 c1 => ?_⟩
    refine ⟨rfl, nod1, n + 4, 4, rfl, by omega, by decide, by decide, fun d d0 d1 => ?_⟩
    exact ⟨rfl, q ⟨a, b, c, d⟩ ⟨a0, by show a ≤ 10000; omega, b0, by show b ≤ 1000; omega, c0, by show c ≤ 10000; omega, d0, by show d ≤ 100; omega⟩⟩
  · refine ⟨rfl, ⟨by decide, by decide⟩, nod1, n + 1, 20, rfl, by omega, by decide, by decide, fun a a0 a1 => ?_⟩
    refine ⟨rfl, nod1, n + 2, 12, rfl, by omega, by decide, by decide, fun b b0 b1 => ?_⟩
    refine ⟨rfl, nod1, n + 3, 20, rfl, by omega, by decide, by decide, fun c c0 c1 => ?_⟩
    refine ⟨rfl, nod1, n + 4, 3, rfl, by omega, by decide, by decide, fun d d0 d1 => ?_⟩
    exact ⟨rfl, q ⟨a, b, c, d⟩ ⟨a0, by show a ≤ 10000; omega, b0, by show b ≤ 1000; omega, c0, by show c ≤ 10000; omega, d0, by show d ≤ 100; omega⟩⟩
  · refine ⟨rfl, ⟨by decide, by decide⟩, nod1, n + 1, 20, rfl, by omega, by decide, by decide, fun a a0 a1 => ?_⟩
    refine ⟨rfl, nod1, n + 2, 4, rfl, by omega, by decide, by decide, fun b b0 b1 => ?_⟩
    refine ⟨rfl, nod1, n + 3, 9, rfl, by omega, by decide, by decide, fun c c0 c1 => ?_⟩
    refine ⟨rfl, nod1, n + 4, 2, rfl, by omega, by decide, by decide, fun d d0 d1 => ?_⟩
    exact ⟨rfl, q ⟨a, b, c, d⟩ ⟨a0, by show a ≤ 10000; omega, b0, by show b ≤ 1000; omega, c0, by show c ≤ 10000; omega, d0, by show d ≤ 100; omega⟩⟩
  · refine ⟨rfl, ⟨by decide, by decide⟩, nod1, n + 1, 10001, rfl, by omega, by decide, by decide, fun a a0 a1 => ?_⟩
    refine ⟨rfl, nod1, n + 2, 1001, rfl, by omega, by decide, by decide, fun b b0 b1 => ?_⟩
    refine ⟨rfl, nod1, n + 3, 10001, rfl, by omega, by decide, by decide, fun c c0 c1 => ?_⟩
    refine ⟨rfl, nod1, n + 4, 101, rfl, by omega, by decide, by decide, fun d d0 d1 => ?_⟩
    exact ⟨rfl, q ⟨a, b, c, d⟩ ⟨a0, by show a ≤ 10000; omega, b0, by show b ≤ 1000; omega, c0, by show c ≤ 10000; omega, d0, by show d ≤ 100; omega⟩⟩
/-- a drawn usage: at most `most` months, each below 20000 -/
def sp_law_usage : DSpec := fun ads Q => ∃ (n : Nat) (most : Int) (p : Plan), ads = [.mo (.bag n), .d (.int most), .d p.D] ∧ n < 2 ^ 60 ∧ 0 ≤ most ∧ most ≤ 1000 ∧ p.Ok ∧
  ∀ (us : List Int) (n' : Nat), (us.length : Int) ≤ most → (∀ u ∈ us, 0 ≤ u ∧ u ≤ 20000) → n' ≤ n + 5000 → Q (.d (usD us)) [.bag n']
theorem l_law_usage : ∀ ads Q, sp_law_usage ads Q → ads.length = 3 := by rintro _ _ ⟨_, _, _, rfl, _⟩; rfl
def w_law_usage : DSw := (wSeq (wAsg (wTup wNil) (wgName 3)) (wSeq (wFor (wiR1 (wCons (wCall sp_law_take (wCons (wVar 0) (wCons (wOp fAdd (wVar 1) (wC (.int 1))) wNil))) wNil)) (wgName 4) (wSeq (wAsg (wCB fMax2 (wCons (wC (.int 0)) (wCons (wOp fSub (wOp fAdd (wOp fIx (wVar 2) (wC (.int 1))) (wCall sp_law_take (wCons (wVar 0) (wCons (wC (.int 5)) wNil)))) (wC (.int 2))) wNil))) (wgName 5)) (wSeq (wAsg (wLst (wCons (wC (.int 0)) (wCons (wVar 5) (wCons (wCall sp_law_take (wCons (wVar 0) (wCons (wOp fAdd (wOp fMul (wC (.int 3)) (wOp fIx (wVar 2) (wC (.int 1)))) (wC (.int 3))) wNil))) (wCons (wCall sp_law_take (wCons (wVar 0) (wCons (wOp fAdd (wOp fAdd (wOp fIx (wVar 2) (wC (.int 1))) (wOp fIx (wVar 2) (wC (.int 2)))) (wC (.int 4))) wNil))) wNil))))) (wgName 6)) (wAsg (wOp fAdd (wVar 3) (wTup (wCons (wOp fIx (wVar 6) (wCall sp_law_take (wCons (wVar 0) (wCons (wC (.int 4)) wNil)))) wNil))) (wgName 3))))) (wRet (wVar 3))))
theorem v_law_usage : Keeps w_law_usage 4 sp_law_usage := by
  rintro ads Q ⟨n, most, p, rfl, hn, hm0, hm1, ok, q⟩
  have hd0 := ok.d0
  have hd1 := ok.d1
  have hc0 := ok.c0
  have hc1 := ok.c1
  refine ⟨rfl, nod1, n, most + 1, rfl, by omega, by omega, by omega, fun k k0 k1 => ?_⟩
  refine ⟨⟨by omega, by omega⟩, fun i env M => ∃ (us : List Int) (x y z : Option S) (n' : Nat), env = [some (.m 0), some (.d (.int most)), some (.d p.D), some (.d (usD us)), x, y, z] ∧ M = [.bag n'] ∧ us.length = i ∧ (∀ u ∈ us, 0 ≤ u ∧ u ≤ 20000) ∧ n' ≤ n + 1 + 4 * i, ⟨[], none, none, none, n + 1, rfl, rfl, rfl, by simp, by omega⟩, ?_, ?_⟩
  · rintro i s env M hs ⟨us, x, y, z, n', rfl, rfl, hl, hu, hn'⟩
    obtain ⟨hi, rfl⟩ := rng_get hs
    have hi2 : (i : Int) < most + 1 := by omega
    refine ⟨nod1, n', 5, rfl, by omega, by decide, by decide, fun a a0 a1 => ?_⟩
    refine ⟨.inl ⟨by decide, by decide⟩, nod1, n' + 1, 3 * p.data + 3, rfl, by omega, by omega, by omega, fun b b0 b1 => ?_⟩
    refine ⟨nod1, n' + 2, p.data + p.cap + 4, rfl, by omega, by omega, by omega, fun c c0 c1 => ?_⟩
    refine ⟨rfl, nod1, n' + 3, 4, rfl, by omega, by decide, by decide, fun d d0 d1 => ?_⟩
    have fin : ∀ v : Int, 0 ≤ v → v ≤ 20000 → atI [D.int 0, D.int (max 0 (p.data + a - 2)), D.int b, D.int c] d = some (.int v) → atQ (atI [D.int 0, D.int (max 0 (p.data + a - 2)), D.int b, D.int c] d) fun e => Nat.ble 1 1000 = true ∧ (us.map D.int).length + 1 ≤ 16000000 ∧
        ∃ (us' : List Int) (x y z : Option S) (n'' : Nat), [some (S.m 0), some (.d (.int most)), some (.d p.D), some (.d (.tup (us.map D.int ++ [e]))), some (.d (.int (0 + (i : Int)))), some (.d (.int (max 0 (p.data + a - 2)))), some (.d (.lst [D.int 0, D.int (max 0 (p.data + a - 2)), D.int b, D.int c]))] = [some (.m 0), some (.d (.int most)), some (.d p.D), some (.d (usD us')), x, y, z] ∧ [MO.bag (n' + 4)] = [.bag n''] ∧ us'.length = i + 1 ∧ (∀ u ∈ us', 0 ≤ u ∧ u ≤ 20000) ∧ n'' ≤ n + 1 + 4 * (i + 1) := by
      intro v v0 v1 e
      refine atQ_some e ⟨rfl, by rw [List.length_map]; omega, us ++ [v], _, _, _, n' + 4, by unfold usD; rw [List.map_append]; rfl, rfl, by rw [List.length_append, hl]; rfl, ?_, by omega⟩
      intro u hu'
      rcases List.mem_append.mp hu' with h | h
      · exact hu u h
      · have : u = v := by simpa using h
        subst this
        exact ⟨v0, v1⟩
    have h : d = 0 ∨ d = 1 ∨ d = 2 ∨ d = 3 := by omega
    rcases h with rfl | rfl | rfl | rfl
    · exact fin 0 (by decide) (by decide) rfl
    · exact fin _ (by omega) (by omega) rfl
    · exact fin b b0 (by omega) rfl
    · exact fin c c0 (by omega) rfl
  · rintro env M ⟨us, x, y, z, n', rfl, rfl, hl, hu, hn'⟩
    rw [rngS_len] at hl hn'
    exact q us n' (by omega) hu (by omega)
end R
/-! Layer R, part 9: the end of a law. -/
namespace R
open PySem L2 Evl
section
variable {P : Program} {w0 : World} {K : PySem.W.Frag} {mg : Str → Option Value} {base : Heap}
theorem fn_defOk {x qual : Str} {st : Stmt} {f : Addr} {fd : FuncData} {N ps : List Str} {k n : Nat} {sp : DSpec} {w : DSw} (F : Fun K x qual st f fd) (S : FnScope N ps (defScope st)) (hn : N.length = ps.length + n) (hlen : ∀ ads Q, sp ads Q → ads.length = ps.length)
    (hd : ∀ (cdv : Value) (A : Around) (outer : List PySem.Env) (s : Shared) (H : Hp) (E : XK), Room k (A.deeper (PyProof.Rows.envOfC qual (defScope st) s.heap.objs.size f cdv)) → DSs (cxOf CX0 P w0 K mg base N qual (defScope st) f cdv A outer s H E).nox E0 (defBody st) w)
    (hw : Keeps w n sp) : FnOk P w0 K mg base CX0 (k + 1) f fd ps (spOf K sp) := by
  have lenK : ∀ vs H Q E, spOf K sp vs H Q E → vs.length = ps.length := fun vs H Q E ⟨G, ads, bs, Qd, e, nd, th, h, hs, _⟩ => by rw [h.len.1]; exact hlen ads Qd hs
  refine F.ok S lenK fun cdv A outer s H vs Q E hr hs => ?_
  obtain ⟨G, ads, bs, Qd, e, nd, th, h, hs, q⟩ := hs
  exact ⟨_, (hd cdv A outer s H E hr).pe, fin_body (E := E) okSW (hlen ads Qd hs) hn e nd th h (hw ads Qd hs) q⟩
end
theorem defS1 {K : PySem.W.Frag} {mg : Str → Option Value} {x p1 pv : Str} {st : Stmt} {f : Addr} {fd : FuncData} (F : Fun K x x st f fd) (gl : mg x = some (.ref f)) (h0 : ∀ a, bindArgs fd ⟨[a], []⟩ = (newTuple [] >>= fun t => pure [(p1, a), (pv, t)])) (h1 : ∀ a r rs, bindArgs fd ⟨a :: r :: rs, []⟩ = (newTuple (r :: rs) >>= fun t => pure [(p1, a), (pv, t)])) :
    DefS K mg x st [p1] pv f fd := ⟨F, gl, StX.bind_star1 (B := fun us => bindArgs fd ⟨us, []⟩) h0 h1⟩
/-- a law's own promise -/
def sp_law : DSpec := fun ads Q => ∃ ns : List Int, ads = [.scr ns] ∧ ns.length ≤ 63 ∧ Q (.d (.bl true)) []
theorem l_law : ∀ ads Q, sp_law ads Q → ads.length = 1 := by
  rintro _ _ ⟨_, rfl, _⟩
  rfl
theorem mgi_of {lv : List (Str × PySem.W.WData)} {mg : Str → Option Value} {h : Heap} {x : Str} {i : Int} (L : PySem.W.LooseAre lv mg h) (m : (x, PySem.W.WData.int i) ∈ lv) : MgI mg x i := by
  obtain ⟨v, e, r⟩ := L.val _ m
  cases r with
  | int j t => exact ⟨t, e⟩
theorem mgi_ns {K : PySem.W.Frag} {h : Heap} {mg : Str → Option Value} {x : Str} {i : Int} {t : Tok} (X : K.In h) (G : h.Ns mainGlobals mg) (e : PySem.W.nsIn K mainGlobals x = some (some (.int i t))) : MgI mg x i := ⟨t, PySem.W.mg_of X G e⟩
theorem walk_R {l : PySem.W.OpenLaw} {k : Nat} {q : Program} {loose : List Str} {XP : (Str → Option Value) → Heap → Prop} {YP : World → Heap → Prop} {d : DefRec} {K : Params → PySem.W.Frag} {x : Str}
    (hn : l.most = some 63) (hdf : d.params.defaults = []) (hr : Room k callerA) (hY : ∀ (w : World) (h : Heap), YP w h → (K w.params).In h)
    (F : ∀ (w : World) (mg : Str → Option Value) (fa : Addr) (h : Heap), (K w.params).In h → h.Ns mainGlobals mg → mg d.name = some (.ref fa) → XP mg h →
      ∃ fd : FuncData, (∀ (s : Shared) (u : Value), BindsTo s fd ⟨[u], []⟩ [(x, u)]) ∧ ∀ base : Heap, FnOk l.prog w (K w.params) mg base CX0 k fa fd [x] (spOf (K w.params) sp_law)) :
    PySem.W.WalkO q loose XP YP l.row.toRowW d [] (fun f vs => PySem.call f vs) := by
  refine Att.attach_call hn hdf fun w s0 s1 mg mb fa o pm cd doc a vs ns G Y ho hd hcd hmg hobj hints hlen hg => ?_
  obtain ⟨fd, hb, hF⟩ := F w mg fa _ (hY w _ Y) G.T.g hmg G.X
  have hz : ns.length ≤ sizeLine := Nat.le_trans hlen (by rw [PySem.sizeLine_eq]; decide)
  refine law_call (hY w _ Y) G.T.g G.T.b G.T.builtins G.T.nolimit hg hobj hints hz hr (fun base _ _ => hF base) hb (fun H hO hS => ?_) fun H e s' z => z
  refine ⟨H, [.scr ns], [], fun s _ => s = .d (.bl true), Ex.refl H, List.nodup_nil, (fun _ z => by cases z), ⟨a, [], rfl, hS, rfl, rfl⟩, ⟨ns, rfl, hlen, rfl⟩, ?_⟩
  rintro s M' v G' H' cs rfl sr l r
  exact rep_bl.mp r.d
end R
namespace R
open PySem L2 Evl
def fuM (d k u : Int) : Int := max 0 (u - k - d)
def nxM (d c k u : Int) : Int := min c (k + d - u + max 0 (u - k - d))
def furs (d c : Int) : List Int → Int → Int
  | [], _ => 0
  | u :: us, k => fuM d k u + furs d c us (nxM d c k u)
def kps (d c : Int) : List Int → Int → Int
  | [], k => k
  | u :: us, k => kps d c us (nxM d c k u)
def losts (d c : Int) : List Int → Int → Int
  | [], _ => 0
  | u :: us, k => max 0 (k + d - u + max 0 (u - k - d) - c) + losts d c us (nxM d c k u)
theorem kAfter_eq (p : Plan) : ∀ (us : List Int) (k : Int), kAfter p us k = kps p.data p.cap us k
  | [], _ => rfl
  | u :: us, k => kAfter_eq p us _
theorem cost_eq (p : Plan) : ∀ (us : List Int) (k : Int), ((playM p us k).map Row.cost).sum = p.fee * us.length + p.price * furs p.data p.cap us k
  | [], _ => by simp [playM, furs]
  | u :: us, k => by
    show (p.fee + p.price * fuM p.data k u) + ((playM p us (nxM p.data p.cap k u)).map Row.cost).sum = _
    rw [cost_eq p us]
    show _ = p.fee * ((us.length + 1 : Nat) : Int) + p.price * (fuM p.data k u + furs p.data p.cap us (nxM p.data p.cap k u))
    rw [Int.natCast_add, Int.mul_add, Int.mul_add]
    omega
theorem costM_eq (p : Plan) (us : List Int) : costM p us = p.fee * us.length + p.price * furs p.data p.cap us 0 := cost_eq p us 0
theorem lost_eq (p : Plan) : ∀ (us : List Int) (k : Int), ((playM p us k).map Row.lost).sum = losts p.data p.cap us k
  | [], _ => rfl
  | u :: us, k => by
    show _ + ((playM p us (nxM p.data p.cap k u)).map Row.lost).sum = _
    rw [lost_eq p us]; rfl
theorem lostM_eq (p : Plan) (us : List Int) : lostM p us = losts p.data p.cap us 0 := lost_eq p us 0
theorem kps_nonneg (d c : Int) (hc : 0 ≤ c) : ∀ (us : List Int) (k : Int), 0 ≤ k → 0 ≤ kps d c us k
  | [], _, h => h
  | u :: us, k, h => kps_nonneg d c hc us (nxM d c k u) (by unfold nxM; omega)
/-! ### nothing is kept -/
theorem nx_zero (d u : Int) (k : Int) : nxM d 0 k u = 0 := by unfold nxM; omega
theorem furs_zero (d : Int) : ∀ us : List Int, furs d 0 us 0 = (us.map fun u => max 0 (u - d)).sum
  | [] => rfl
  | u :: us => by
    show fuM d 0 u + furs d 0 us (nxM d 0 0 u) = max 0 (u - d) + (us.map _).sum
    rw [nx_zero, furs_zero d us]
    unfold fuM
    omega
theorem kps_zero (d : Int) : ∀ us : List Int, kps d 0 us 0 = 0
  | [] => rfl
  | u :: us => by
    show kps d 0 us (nxM d 0 0 u) = 0
    rw [nx_zero, kps_zero d us]
/-! ### all is kept -/
def leadS (d : Int) (s : Int × Int) (u : Int) : Int × Int := (s.1 + u - d, max s.2 (s.1 + u - d))
theorem furs_big (d c : Int) (hd : 0 ≤ d) : ∀ (us : List Int) (k L B : Int), (∀ u ∈ us, 0 ≤ u) → 0 ≤ k → k = B - L → k + d * us.length ≤ c →
    B + furs d c us k = (us.foldl (leadS d) (L, B)).2 ∧ kps d c us k = (us.foldl (leadS d) (L, B)).2 - (us.foldl (leadS d) (L, B)).1 ∧ losts d c us k = 0
  | [], k, L, B, _, _, h, _ => ⟨by show B + 0 = B; omega, h, rfl⟩
  | u :: us, k, L, B, hu, hk, h, hc => by
    have h0 := hu u (by simp)
    have hl : d * ((us.length + 1 : Nat) : Int) = d * us.length + d := by rw [Int.natCast_add, Int.mul_add]; omega
    have hm : 0 ≤ d * (us.length : Int) := Int.mul_nonneg hd (by omega)
    have hc' : k + (d * us.length + d) ≤ c := by rw [← hl]; exact hc
    have e : nxM d c k u = max B (L + u - d) - (L + u - d) := by unfold nxM; omega
    obtain ⟨h1, h2, h3⟩ := furs_big d c hd us (nxM d c k u) (L + u - d) (max B (L + u - d)) (fun v hv => hu v (by simp [hv])) (by rw [e]; omega) e (by unfold nxM; omega)
    refine ⟨?_, h2, ?_⟩
    · show B + (fuM d k u + furs d c us (nxM d c k u)) = ((us.foldl (leadS d) (L + u - d, max B (L + u - d)))).2
      rw [← h1]
      unfold fuM
      omega
    · show max 0 (k + d - u + max 0 (u - k - d) - c) + losts d c us (nxM d c k u) = 0
      rw [h3]
      omega
/-! ### a greater cap -/
theorem furs_mono (d : Int) {c c' : Int} (hc : c ≤ c') : ∀ (us : List Int) (k k' : Int), k ≤ k' → furs d c' us k' ≤ furs d c us k
  | [], _, _, _ => Int.le_refl _
  | u :: us, k, k', h => by
    show fuM d k' u + furs d c' us (nxM d c' k' u) ≤ fuM d k u + furs d c us (nxM d c k u)
    have := furs_mono d hc us (nxM d c k u) (nxM d c' k' u) (by unfold nxM; omega)
    unfold fuM
    omega
theorem furs_suc (d c : Int) (hc : 0 ≤ c) : ∀ (us : List Int) (k k' : Int), k ≤ k' → k' ≤ k + 1 → 2 * (furs d c us k - furs d (c + 1) us k') ≤ us.length + (k' - k)
  | [], k, k', h, h' => by
    show 2 * ((0 : Int) - 0) ≤ ((0 : Nat) : Int) + (k' - k)
    omega
  | u :: us, k, k', h, h' => by
    show 2 * (fuM d k u + furs d c us (nxM d c k u) - (fuM d k' u + furs d (c + 1) us (nxM d (c + 1) k' u))) ≤ ((us.length + 1 : Nat) : Int) + (k' - k)
    have := furs_suc d c hc us (nxM d c k u) (nxM d (c + 1) k' u) (by unfold nxM; omega) (by unfold nxM; omega)
    have e : 2 * (fuM d k u - fuM d k' u) + (nxM d (c + 1) k' u - nxM d c k u) ≤ 1 + (k' - k) := by unfold fuM nxM; omega
    omega
/-! ### small steps -/
theorem if_t {c : Bool} {A B : Prop} (h : c = true) (q : A) : if c = true then A else B := by rw [if_pos h]; exact q
theorem if_f {c : Bool} {A B : Prop} (h : c = false) (q : B) : if c = true then A else B := by rw [if_neg (by rw [h]; decide)]; exact q
theorem and1 {c : Bool} {X A B : Prop} (h : c = true → B → X) (q : B) : if c = true then X else (if false = true then A else B) := ite2 (fun z => h z q) (fun _ => if_f rfl q)
theorem ifd {p : Prop} [Decidable p] {A B : Prop} (h1 : p → A) (h2 : ¬ p → B) : if decide p = true then A else B := ite2 (fun z => h1 (of_decide_eq_true z)) (fun z => h2 fun w => z (decide_eq_true w))
theorem if_ne {a b : Int} {A B : Prop} (h : a = b) (q : B) : if (!(a == b)) = true then A else B := if_f (by rw [h]; simp) q
theorem if_eq {a b : Int} {A B : Prop} (h : a = b) (q : A) : if (a == b) = true then A else B := if_t (by rw [h]; simp) q
theorem call_cost {p : Plan} {us : List Int} {Q : DK} (ok : p.Ok) (hu : UsOk us) (q : Q (.d (.int (costM p us))) []) : spStar sp_total_cost 1 [.d p.D, .d (usD us)] Q := by
  refine ⟨[.d p.D], [.d (usD us)], [usD us], rfl, rfl, rfl, (by show 1 ≤ 16000000; decide), p, [us], rfl, ok, fun v hv => ?_, (by show 1 ≤ 1000; decide), ?_⟩
  · have : v = us := by simpa using hv
    rw [this]; exact hu
  · have e : ([us].map (costM p)).sum = costM p us := by simp
    rw [e]; exact q
theorem call_kept {p : Plan} {us : List Int} {Q : DK} (ok : p.Ok) (hu : UsOk us) (q : Q (.d (.int (kps p.data p.cap us 0))) []) : sp_kept_after [.d p.D, .d (usD us)] Q := ⟨p, us, rfl, ok, hu, by rw [kAfter_eq]; exact q⟩
theorem call_lost {p : Plan} {us : List Int} {Q : DK} (ok : p.Ok) (hu : UsOk us) (q : Q (.d (.int (losts p.data p.cap us 0))) []) : sp_lost_units [.d p.D, .d (usD us)] Q := ⟨p, us, rfl, ok, hu, by rw [lostM_eq]; exact q⟩
theorem us_ok {us : List Int} {m : Int} (hl : (us.length : Int) ≤ m) (hm : m ≤ 36) (h : ∀ u ∈ us, 0 ≤ u ∧ u ≤ 20000) : UsOk us := ⟨by omega, fun u hu => ⟨(h u hu).1, by have := (h u hu).2; omega⟩⟩
/-! ### the loop of a law over its sources -/
theorem re_rng (k : Nat) : (List.range k).map (reN 0 []) = List.range k := by
  have : reN 0 [] = id := by
    funext j
    show 0 + (j - 0) = j
    omega
  rw [this, List.map_id]
theorem bags_loop {m : Int} {b : DSw} {env : Env} {Dn : DEnds} {ns : List Int} (P : Env → Prop) (h0 : env[0]? = some (some (.scr ns))) (hns : ns.length ≤ 63) (p0 : P (clearM env))
    (hb : ∀ env, P env → b XF { nx := fun env' _ => P (clearM env'), ct := fun env' _ => P (clearM env'), bk := fun env' _ => Dn.nx (clearM env') [], rt := fun s _ => (match s with
      | .d d => Dn.rt (.d d) []
      | _ => False) } (env.set 1 (some (.m 0))) [.bag 70000]) (hd : ∀ env, P env → Dn.nx env []) : wForB (wCall sp_law_bags (wCons (wVar 0) (wCons (wC (.int m)) wNil))) 1 b XF Dn env [] := by
  refine ⟨rfl, ?_⟩
  unfold wCall
  show wVar 0 XF env [] _
  unfold wVar
  rw [h0]
  refine ⟨nod0, ns, m, rfl, hns, fun kk => ⟨P, 70000, ?_, fun j k h => ?_, p0, hb, hd⟩⟩
  · show ((List.range kk).map (reN 0 [])).Nodup
    rw [re_rng]
    exact List.nodup_range
  · have h' : ((List.range kk).map (reN 0 []))[j]? = some k := h
    rw [re_rng] at h'
    have hk : k < kk := List.mem_range.mp (List.mem_of_getElem? h')
    show (List.replicate kk (MO.bag 70000))[k]? = _
    rw [List.getElem?_replicate, if_pos hk]
end R
/-! Layer R, part 11: when a plan is never dearer: plain arithmetic. -/
namespace R
open PySem L2 Evl
def poolM (p : Plan) (n : Int) : Int := min (p.cap + p.data) (n * p.data)
def showsM (a b : Plan) (n : Int) : Prop := n * (b.fee - a.fee) < a.price * (poolM b n - poolM a n)
instance (a b : Plan) (n : Int) : Decidable (showsM a b n) := Int.decLt _ _
def ND (a b : Plan) : Prop := a.fee ≤ b.fee ∧ a.price ≤ b.price ∧ ∀ n : Int, 1 ≤ n → ¬ showsM a b n
theorem mul_le {P x y : Int} (hP : 0 ≤ P) (h : x ≤ y) : P * x ≤ P * y := Int.mul_le_mul_of_nonneg_left h hP
/-- furs are at least 0 -/
theorem furs_nonneg (d c : Int) : ∀ (us : List Int) (k : Int), 0 ≤ furs d c us k
  | [], _ => Int.le_refl 0
  | u :: us, k => by
    show 0 ≤ fuM d k u + furs d c us (nxM d c k u)
    have := furs_nonneg d c us (nxM d c k u)
    unfold fuM
    omega
section
variable {dA cA dB cB P S : Int}
theorem nd_run (hcA : 0 ≤ cA) (hdA : 0 ≤ dA) (hcB : 0 ≤ cB) (hdB : 0 ≤ dB) (hP : 0 ≤ P) (hS : 0 ≤ S) (H : ∀ n : Int, 1 ≤ n → P * (min (cB + dB) (n * dB) - min (cA + dA) (n * dA)) ≤ n * S) :
    ∀ (us : List Int) (kA kB X m j e : Int), (∀ u ∈ us, 0 ≤ u) → 0 ≤ kA → kA ≤ cA → 0 ≤ kB → kB ≤ cB → 0 ≤ m → 0 ≤ j → 0 ≤ e → kB ≤ e + j * dB → P * X + P * e ≤ m * S → P * X + P * max 0 (kB + dB - kA - dA) ≤ (m + j + 1) * S →
      P * (X + furs dA cA us kA - furs dB cB us kB) ≤ (m + j + us.length) * S
  | [], kA, kB, X, m, j, e, _, _, _, _, _, hm, hj, he, _, h1, _ => by
    show P * (X + 0 - 0) ≤ (m + j + ((0 : Nat) : Int)) * S
    have a1 : 0 ≤ P * e := Int.mul_nonneg hP he
    have a2 : 0 ≤ j * S := Int.mul_nonneg hj hS
    have e1 : X + 0 - 0 = X := by omega
    have e2 : m + j + ((0 : Nat) : Int) = m + j := by omega
    rw [e1, e2, Int.add_mul]
    omega
  | u :: us, kA, kB, X, m, j, e, hu, hA, hA', hB, hB', hm, hj, he, hk, h1, h2 => by
    have hu0 := hu u (by simp)
    have hus : ∀ v ∈ us, 0 ≤ v := fun v hv => hu v (by simp [hv])
    have g1 : P * max 0 (dB - dA) ≤ S := by
      have z := H 1 (by decide)
      have e1 : min (cB + dB) (1 * dB) - min (cA + dA) (1 * dA) = dB - dA := by omega
      rw [e1, Int.one_mul] at z
      rcases Int.le_total (dB - dA) 0 with h | h
      · rw [Int.max_eq_left h, Int.mul_zero]; exact hS
      · rw [Int.max_eq_right h]; exact z
    have kA0 : 0 ≤ nxM dA cA kA u := by unfold nxM; omega
    have kA1 : nxM dA cA kA u ≤ cA := by unfold nxM; omega
    have kB0 : 0 ≤ nxM dB cB kB u := by unfold nxM; omega
    have kB1 : nxM dB cB kB u ≤ cB := by unfold nxM; omega
    have fin : ∀ m' j' e' : Int, m' + j' = m + j + 1 → 0 ≤ m' → 0 ≤ j' → 0 ≤ e' → nxM dB cB kB u ≤ e' + j' * dB → P * (X + fuM dA kA u - fuM dB kB u) + P * e' ≤ m' * S → P * (X + fuM dA kA u - fuM dB kB u) + P * max 0 (nxM dB cB kB u + dB - nxM dA cA kA u - dA) ≤ (m' + j' + 1) * S →
        P * (X + (fuM dA kA u + furs dA cA us (nxM dA cA kA u)) - (fuM dB kB u + furs dB cB us (nxM dB cB kB u))) ≤ (m + j + ((us.length + 1 : Nat) : Int)) * S := by
      intro m' j' e' q1 q2 q3 q4 q5 q6 q7
      have z := nd_run hcA hdA hcB hdB hP hS H us _ _ _ m' j' e' hus kA0 kA1 kB0 kB1 q2 q3 q4 q5 q6 q7
      have e1 : X + (fuM dA kA u + furs dA cA us (nxM dA cA kA u)) - (fuM dB kB u + furs dB cB us (nxM dB cB kB u)) = X + fuM dA kA u - fuM dB kB u + furs dA cA us (nxM dA cA kA u) - furs dB cB us (nxM dB cB kB u) := by omega
      have e2 : m + j + ((us.length + 1 : Nat) : Int) = m' + j' + (us.length : Int) := by omega
      rw [e1, e2]
      exact z
    show P * (X + (fuM dA kA u + furs dA cA us (nxM dA cA kA u)) - (fuM dB kB u + furs dB cB us (nxM dB cB kB u))) ≤ (m + j + ((us.length + 1 : Nat) : Int)) * S
    have hd : P * max 0 (nxM dB cB kB u + dB - nxM dA cA kA u - dA) ≤ P * max 0 (nxM dB cB kB u - nxM dA cA kA u) + S := by
      have z := mul_le hP (show max 0 (nxM dB cB kB u + dB - nxM dA cA kA u - dA) ≤ max 0 (nxM dB cB kB u - nxM dA cA kA u) + max 0 (dB - dA) by omega)
      rw [Int.mul_add] at z
      omega
    by_cases hp : 0 < u - kA - dA
    · have kz : nxM dA cA kA u = 0 := by unfold nxM; omega
      have z : P * (X + fuM dA kA u - fuM dB kB u) + P * nxM dB cB kB u ≤ (m + j + 1) * S := by
        have w := mul_le hP (show X + fuM dA kA u - fuM dB kB u + nxM dB cB kB u ≤ X + max 0 (kB + dB - kA - dA) by unfold fuM nxM; omega)
        rw [Int.mul_add, Int.mul_add] at w
        omega
      refine fin (m + j + 1) 0 (nxM dB cB kB u) (by omega) (by omega) (by omega) kB0 (by omega) z ?_
      rw [kz] at hd ⊢
      rw [show max 0 (nxM dB cB kB u - 0) = nxM dB cB kB u by omega] at hd
      have e3 : (m + j + 1 + 0 + 1) * S = (m + j + 1) * S + S := by rw [Int.add_zero, Int.add_mul (m + j + 1) 1 S, Int.one_mul]
      rw [e3]
      omega
    · have hX : P * (X + fuM dA kA u - fuM dB kB u) ≤ P * X := mul_le hP (by unfold fuM; omega)
      have hkB : nxM dB cB kB u ≤ e + (j + 1) * dB := by
        rw [Int.add_mul, Int.one_mul]
        unfold nxM
        omega
      refine fin m (j + 1) e (by omega) hm (by omega) he hkB (by omega) ?_
      by_cases ho : kA + dA - u ≤ cA
      · have w := mul_le hP (show max 0 (nxM dB cB kB u - nxM dA cA kA u) ≤ max 0 (kB + dB - kA - dA) by unfold nxM; omega)
        have e3 : (m + (j + 1) + 1) * S = (m + j + 1) * S + S := by rw [show m + (j + 1) + 1 = m + j + 1 + 1 by omega, Int.add_mul (m + j + 1) 1 S, Int.one_mul]
        rw [e3]
        omega
      · have kc : nxM dA cA kA u = cA := by unfold nxM; omega
        have z := H (j + 2) (by omega)
        have e4 : (j + 2) * dB = (j + 1) * dB + dB := by rw [show j + 2 = j + 1 + 1 by omega, Int.add_mul (j + 1) 1 dB, Int.one_mul]
        have w := mul_le hP (show nxM dB cB kB u + dB - cA - dA ≤ e + (min (cB + dB) ((j + 2) * dB) - min (cA + dA) ((j + 2) * dA)) by omega)
        rw [Int.mul_add P e] at w
        have e3 : (m + (j + 1) + 1) * S = m * S + (j + 2) * S := by rw [← Int.add_mul]; congr 1; omega
        have p0 : 0 ≤ P * e := Int.mul_nonneg hP he
        have p1 : 0 ≤ (j + 2) * S := Int.mul_nonneg (by omega) hS
        rw [e3, kc]
        rcases Int.le_total (nxM dB cB kB u + dB - cA - dA) 0 with h | h
        · rw [Int.max_eq_left h, Int.mul_zero]
          omega
        · rw [Int.max_eq_right h]
          omega
end
/-- the condition is enough, for usages of any length -/
theorem nd_cost {a b : Plan} (oa : 0 ≤ a.cap ∧ 0 ≤ a.data ∧ 0 ≤ a.price) (ob : 0 ≤ b.cap ∧ 0 ≤ b.data) (h : ND a b) (us : List Int) (hu : ∀ u ∈ us, 0 ≤ u) : costM a us ≤ costM b us := by
  obtain ⟨h1, h2, h3⟩ := h
  have H : ∀ n : Int, 1 ≤ n → a.price * (min (b.cap + b.data) (n * b.data) - min (a.cap + a.data) (n * a.data)) ≤ n * (b.fee - a.fee) := fun n hn => Int.not_lt.mp (h3 n hn)
  have z := nd_run oa.1 oa.2.1 ob.1 ob.2 oa.2.2 (show 0 ≤ b.fee - a.fee by omega) H us 0 0 0 0 0 0 hu (Int.le_refl 0) oa.1 (Int.le_refl 0) ob.1 (Int.le_refl 0) (Int.le_refl 0) (Int.le_refl 0) (by omega) (by simp) (by
    have w := H 1 (by decide)
    have e1 : min (b.cap + b.data) (1 * b.data) - min (a.cap + a.data) (1 * a.data) = b.data - a.data := by omega
    rw [e1] at w
    rcases Int.le_total (b.data - a.data) 0 with h | h
    · rw [Int.max_eq_left (by omega)]; simp; omega
    · rw [Int.max_eq_right (by omega)]
      have e2 : 0 + b.data - 0 - a.data = b.data - a.data := by omega
      rw [e2, Int.mul_zero, Int.zero_add]
      exact w)
  rw [costM_eq, costM_eq]
  have p0 := furs_nonneg b.data b.cap us 0
  have p1 : 0 ≤ (b.price - a.price) * furs b.data b.cap us 0 := Int.mul_nonneg (by omega) p0
  rw [Int.sub_mul] at p1
  rw [Int.mul_sub, Int.mul_add, Int.mul_zero, Int.zero_add, Int.zero_add] at z
  have e2 : (0 + (us.length : Int)) * (b.fee - a.fee) = b.fee * us.length - a.fee * us.length := by rw [Int.zero_add, Int.mul_sub, Int.mul_comm, Int.mul_comm _ a.fee]
  have e2' : (us.length : Int) * (b.fee - a.fee) = b.fee * us.length - a.fee * us.length := by rw [Int.mul_sub, Int.mul_comm, Int.mul_comm _ a.fee]
  omega
/-! ### which numbers of months are enough -/
def lastM (b : Plan) : Int := (b.cap + b.data) / b.data
def cntsM (b : Plan) : List Int := if b.data = 0 then [1] else [1, lastM b, lastM b + 1]
def ndB (a b : Plan) : Bool := if b.fee < a.fee ∨ b.price < a.price then false else !((cntsM b).map fun n => decide (showsM a b n)).any id
theorem shows_all {a b : Plan} (oa : 0 ≤ a.cap ∧ 0 ≤ a.data ∧ 0 ≤ a.price) (ob : 0 ≤ b.cap ∧ 0 ≤ b.data) (hf : a.fee ≤ b.fee) (h : ∀ n ∈ cntsM b, ¬ showsM a b n) : ∀ n : Int, 1 ≤ n → ¬ showsM a b n := by
  obtain ⟨ca, da, pa⟩ := oa
  obtain ⟨cb, db⟩ := ob
  intro n hn
  have hS : 0 ≤ b.fee - a.fee := by omega
  have nS : 0 ≤ n * (b.fee - a.fee) := Int.mul_nonneg (by omega) hS
  unfold showsM
  rw [Int.not_lt]
  by_cases hd : b.data = 0
  · have nA : 0 ≤ n * a.data := Int.mul_nonneg (by omega) da
    have e : poolM b n - poolM a n ≤ 0 := by
      unfold poolM
      rw [hd, Int.mul_zero]
      omega
    have := mul_le pa e
    rw [Int.mul_zero] at this
    omega
  · have hd0 : 0 < b.data := by omega
    unfold cntsM at h
    rw [if_neg hd] at h
    have h1 := h 1 (by simp)
    have h2 := h (lastM b) (by simp)
    have h3 := h (lastM b + 1) (by simp)
    unfold showsM at h1 h2 h3
    rw [Int.not_lt] at h1 h2 h3
    have q1 : lastM b * b.data ≤ b.cap + b.data := Int.ediv_mul_le _ (by omega)
    have q2 : b.cap + b.data < (lastM b + 1) * b.data := by
      have := Int.lt_ediv_add_one_mul_self (b.cap + b.data) hd0
      exact this
    have q0 : 1 ≤ lastM b := by
      unfold lastM
      have := Int.ediv_le_ediv hd0 (show b.data ≤ b.cap + b.data by omega)
      rw [Int.ediv_self (by omega)] at this
      exact this
    by_cases hq : n ≤ lastM b
    · have n1 : n * b.data ≤ lastM b * b.data := Int.mul_le_mul_of_nonneg_right hq (by omega)
      have pb : poolM b n = n * b.data := by unfold poolM; omega
      have pq : poolM b (lastM b) = lastM b * b.data := by unfold poolM; omega
      rw [pb]
      rw [pq] at h2
      by_cases hA : n * a.data ≤ a.cap + a.data
      · have pA : poolM a n = n * a.data := by unfold poolM; omega
        have e1 : poolM b 1 - poolM a 1 = b.data - a.data := by unfold poolM; omega
        rw [e1, Int.one_mul] at h1
        rw [pA]
        have e2 : a.price * (n * b.data - n * a.data) = n * (a.price * (b.data - a.data)) := by rw [← Int.mul_sub, Int.mul_left_comm]
        rw [e2]
        exact mul_le (by omega) h1
      · have n2 : n * a.data ≤ lastM b * a.data := Int.mul_le_mul_of_nonneg_right hq da
        have pA : poolM a n = a.cap + a.data := by unfold poolM; omega
        have pQ : poolM a (lastM b) = a.cap + a.data := by unfold poolM; omega
        rw [pA]
        rw [pQ] at h2
        rw [Int.mul_sub, Int.mul_left_comm] at h2 ⊢
        have hx : n * (a.price * b.data - (b.fee - a.fee)) ≤ a.price * (a.cap + a.data) := by
          rcases Int.le_total 0 (a.price * b.data - (b.fee - a.fee)) with z | z
          · have w := Int.mul_le_mul_of_nonneg_right hq z
            rw [Int.mul_sub (lastM b)] at w
            omega
          · have w : n * (a.price * b.data - (b.fee - a.fee)) ≤ 0 := Int.mul_nonpos_of_nonneg_of_nonpos (by omega) z
            have w2 : 0 ≤ a.price * (a.cap + a.data) := Int.mul_nonneg pa (by omega)
            omega
        rw [Int.mul_sub n] at hx
        omega
    · have n1 : (lastM b + 1) * b.data ≤ n * b.data := Int.mul_le_mul_of_nonneg_right (by omega) (by omega)
      have n2 : (lastM b + 1) * a.data ≤ n * a.data := Int.mul_le_mul_of_nonneg_right (by omega) da
      have w := mul_le pa (show poolM b n - poolM a n ≤ poolM b (lastM b + 1) - poolM a (lastM b + 1) by unfold poolM; omega)
      have w2 : (lastM b + 1) * (b.fee - a.fee) ≤ n * (b.fee - a.fee) := Int.mul_le_mul_of_nonneg_right (by omega) hS
      omega
theorem cnts_pos {b : Plan} (ob : 0 ≤ b.cap ∧ 0 ≤ b.data) : ∀ n ∈ cntsM b, 1 ≤ n ∧ n ≤ b.cap + 2 := by
  intro n hn
  unfold cntsM at hn
  by_cases hd : b.data = 0
  · rw [if_pos hd] at hn
    have : n = 1 := by simpa using hn
    omega
  · rw [if_neg hd] at hn
    have hd0 : 0 < b.data := by omega
    have q0 : 1 ≤ lastM b := by
      unfold lastM
      have := Int.ediv_le_ediv hd0 (show b.data ≤ b.cap + b.data by omega)
      rw [Int.ediv_self (by omega)] at this
      exact this
    have q1 : lastM b ≤ b.cap + 1 := by
      unfold lastM
      rw [Int.add_ediv_of_dvd_right (Int.dvd_refl _), Int.ediv_self (by omega)]
      have := Int.ediv_le_self b.data ob.1
      omega
    have : n = 1 ∨ n = lastM b ∨ n = lastM b + 1 := by simpa using hn
    omega
theorem nd_iff {a b : Plan} (oa : a.Ok) (ob : b.Ok) : ndB a b = true ↔ ND a b := by
  unfold ndB
  by_cases hw : b.fee < a.fee ∨ b.price < a.price
  · rw [if_pos hw]
    exact ⟨fun h => Bool.noConfusion h, fun h => by obtain ⟨h1, h2, _⟩ := h; omega⟩
  · rw [if_neg hw]
    have hf : a.fee ≤ b.fee := by omega
    have hp : a.price ≤ b.price := by omega
    refine ⟨fun h => ⟨hf, hp, shows_all ⟨oa.c0, oa.d0, oa.p0⟩ ⟨ob.c0, ob.d0⟩ hf fun n hn hs => ?_⟩, fun ⟨_, _, h⟩ => ?_⟩
    · have : ((cntsM b).map fun n => decide (showsM a b n)).any id = true := by
        rw [List.any_map, List.any_eq_true]
        exact ⟨n, hn, by simpa using hs⟩
      rw [this] at h
      cases h
    · have : ((cntsM b).map fun n => decide (showsM a b n)).any id = false := by
        rw [List.any_map, List.any_eq_false]
        intro n hn
        simpa using h n (cnts_pos ⟨ob.c0, ob.d0⟩ n hn).1
      rw [this]; rfl
theorem nd_false {a b : Plan} (oa : a.Ok) (ob : b.Ok) (h : ¬ ND a b) : ndB a b = false := by
  cases q : ndB a b with
  | true => exact absurd ((nd_iff oa ob).mp q) h
  | false => rfl
theorem nd_true {a b : Plan} (oa : a.Ok) (ob : b.Ok) (h : ND a b) : ndB a b = true := (nd_iff oa ob).mpr h
/-! ### the fewest months -/
def Few (a b : Plan) (n : Int) : Prop := 1 ≤ n ∧ (∀ k : Int, 1 ≤ k → k < n → a.fee ≤ b.fee ∧ a.price ≤ b.price ∧ ¬ showsM a b k) ∧ (a.fee ≤ b.fee → a.price ≤ b.price → showsM a b n)
theorem few_uniq {a b : Plan} {m n : Int} (hm : Few a b m) (hn : Few a b n) : m = n := by
  obtain ⟨m1, m2, m3⟩ := hm
  obtain ⟨n1, n2, n3⟩ := hn
  rcases Int.lt_trichotomy m n with h | h | h
  · obtain ⟨q1, q2, q3⟩ := n2 m m1 h
    exact absurd (m3 q1 q2) q3
  · exact h
  · obtain ⟨q1, q2, q3⟩ := m2 n n1 h
    exact absurd (n3 q1 q2) q3
theorem few_not {a b : Plan} {n : Int} (h : Few a b n) : ¬ ND a b := fun ⟨h1, h2, h3⟩ => h3 n h.1 (h.2.2 h1 h2)
theorem least_int (p : Int → Prop) [DecidablePred p] : ∀ (k : Nat), (∃ n : Int, 1 ≤ n ∧ n ≤ k ∧ p n) → ∃ n : Int, 1 ≤ n ∧ n ≤ k ∧ p n ∧ ∀ j : Int, 1 ≤ j → j < n → ¬ p j
  | 0, ⟨n, h1, h2, _⟩ => by omega
  | k + 1, ⟨n, h1, h2, h3⟩ => by
    by_cases h : ∃ n : Int, 1 ≤ n ∧ n ≤ k ∧ p n
    · obtain ⟨m, m1, m2, m3, m4⟩ := least_int p k h
      exact ⟨m, m1, by omega, m3, m4⟩
    · refine ⟨n, h1, h2, h3, fun j j1 j2 j3 => h ⟨j, j1, by omega, j3⟩⟩
theorem few_ex {a b : Plan} (oa : a.Ok) (ob : b.Ok) (h : ¬ ND a b) : ∃ n : Int, Few a b n ∧ n ≤ b.cap + 2 := by
  have c0 := ob.c0
  by_cases hw : b.fee < a.fee ∨ b.price < a.price
  · exact ⟨1, ⟨by decide, fun k h1 h2 => by omega, fun h1 h2 => by omega⟩, by omega⟩
  · have hf : a.fee ≤ b.fee := by omega
    have hp : a.price ≤ b.price := by omega
    have : ∃ n ∈ cntsM b, showsM a b n := by
      apply Classical.byContradiction
      intro hne
      exact h ⟨hf, hp, shows_all ⟨oa.c0, oa.d0, oa.p0⟩ ⟨ob.c0, ob.d0⟩ hf fun n hn hs => hne ⟨n, hn, hs⟩⟩
    obtain ⟨n, hn, hs⟩ := this
    have hb := cnts_pos ⟨ob.c0, ob.d0⟩ n hn
    obtain ⟨m, m1, m2, m3, m4⟩ := least_int (showsM a b) n.toNat ⟨n, hb.1, by omega, hs⟩
    exact ⟨m, ⟨m1, fun k k1 k2 => ⟨hf, hp, m4 k k1 k2⟩, fun _ _ => m3⟩, by omega⟩
theorem few_le {a b : Plan} (oa : a.Ok) (ob : b.Ok) {n : Int} (h : Few a b n) : n ≤ b.cap + 2 := by
  obtain ⟨m, hm, hl⟩ := few_ex oa ob (few_not h)
  rw [few_uniq h hm]; exact hl
/-! ### idle months ahead of one -/
theorem idle_kps (d c : Int) (hd : 0 ≤ d) (hc : 0 ≤ c) : ∀ (j : Nat) (us : List Int) (k : Int), 0 ≤ k → k ≤ c → furs d c (List.replicate j 0 ++ us) k = furs d c us (min c (k + j * d)) ∧ kps d c (List.replicate j 0 ++ us) k = kps d c us (min c (k + j * d)) ∧ losts d c (List.replicate j 0 ++ us) k = max 0 (k + j * d - c) + losts d c us (min c (k + j * d))
  | 0, us, k, h0, h1 => by
    have e : min c (k + ((0 : Nat) : Int) * d) = k := by rw [show ((0 : Nat) : Int) = 0 from rfl, Int.zero_mul]; omega
    have e2 : max 0 (k + ((0 : Nat) : Int) * d - c) = 0 := by rw [show ((0 : Nat) : Int) = 0 from rfl, Int.zero_mul]; omega
    rw [e, e2, Int.zero_add]
    exact ⟨rfl, rfl, rfl⟩
  | j + 1, us, k, h0, h1 => by
    have hj : 0 ≤ (j : Int) * d := Int.mul_nonneg (by omega) hd
    have e0 : ((j + 1 : Nat) : Int) * d = j * d + d := by rw [Int.natCast_add, Int.add_mul]; omega
    have ek : nxM d c k 0 = min c (k + d) := by unfold nxM; omega
    obtain ⟨z1, z2, z3⟩ := idle_kps d c hd hc j us (nxM d c k 0) (by rw [ek]; omega) (by rw [ek]; omega)
    have e : min c (nxM d c k 0 + j * d) = min c (k + ((j + 1 : Nat) : Int) * d) := by rw [e0, ek]; omega
    rw [e] at z1 z2 z3
    refine ⟨?_, z2, ?_⟩
    · show fuM d k 0 + furs d c (List.replicate j 0 ++ us) (nxM d c k 0) = _
      rw [z1]
      unfold fuM
      omega
    · show max 0 (k + d - 0 + max 0 (0 - k - d) - c) + losts d c (List.replicate j 0 ++ us) (nxM d c k 0) = _
      rw [z3, e0, ek]
      omega
/-- n months, all but the last idle -/
def teller (n : Nat) (u : Int) : List Int := List.replicate n 0 ++ [u]
theorem teller_furs {p : Plan} (o : 0 ≤ p.cap ∧ 0 ≤ p.data) (n : Nat) (u : Int) : furs p.data p.cap (teller n u) 0 = max 0 (u - poolM p ((n : Int) + 1)) := by
  unfold teller
  rw [(idle_kps p.data p.cap o.2 o.1 n [u] 0 (Int.le_refl 0) o.1).1]
  show max 0 (u - min p.cap (0 + n * p.data) - p.data) + 0 = _
  have e0 : ((n : Int) + 1) * p.data = n * p.data + p.data := by rw [Int.add_mul]; omega
  unfold poolM
  rw [e0]
  omega
theorem teller_kps {p : Plan} (o : 0 ≤ p.cap ∧ 0 ≤ p.data) (n : Nat) (u : Int) (h : poolM p ((n : Int) + 1) ≤ u) : kps p.data p.cap (teller n u) 0 = 0 := by
  unfold teller
  rw [(idle_kps p.data p.cap o.2 o.1 n [u] 0 (Int.le_refl 0) o.1).2.1]
  show min p.cap (min p.cap (0 + n * p.data) + p.data - u + max 0 (u - min p.cap (0 + n * p.data) - p.data)) = 0
  have e0 : ((n : Int) + 1) * p.data = n * p.data + p.data := by rw [Int.add_mul]; omega
  unfold poolM at h
  rw [e0] at h
  omega
theorem teller_cost {p : Plan} (o : 0 ≤ p.cap ∧ 0 ≤ p.data) (n : Nat) (u : Int) : costM p (teller n u) = p.fee * ((n : Int) + 1) + p.price * max 0 (u - poolM p ((n : Int) + 1)) := by
  rw [costM_eq, teller_furs o]
  unfold teller
  rw [List.length_append, List.length_replicate]
  rfl
/-- the condition is needed -/
theorem teller_shows {a b : Plan} (oa : a.Ok) (ob : b.Ok) (n : Nat) (h : showsM a b ((n : Int) + 1)) : costM b (teller n (poolM b ((n : Int) + 1))) < costM a (teller n (poolM b ((n : Int) + 1))) := by
  rw [teller_cost ⟨oa.c0, oa.d0⟩, teller_cost ⟨ob.c0, ob.d0⟩, Int.sub_self, Int.max_self, Int.mul_zero, Int.add_zero]
  unfold showsM at h
  have z := mul_le oa.p0 (show poolM b ((n : Int) + 1) - poolM a ((n : Int) + 1) ≤ max 0 (poolM b ((n : Int) + 1) - poolM a ((n : Int) + 1)) by omega)
  rw [Int.mul_sub, Int.mul_comm _ b.fee, Int.mul_comm _ a.fee] at h
  omega
/-! ### orders of plans -/
theorem pool_mono {p q : Plan} (hd : p.data ≤ q.data) (hc : p.cap ≤ q.cap) {n : Int} (hn : 0 ≤ n) : poolM p n ≤ poolM q n := by
  have := Int.mul_le_mul_of_nonneg_left hd hn
  unfold poolM
  omega
theorem nd_trans {a b c : Plan} (oa : a.Ok) (ob : b.Ok) (oc : c.Ok) (h : ND a b) (h' : ND b c) : ND a c := by
  obtain ⟨h1, h2, h3⟩ := h
  obtain ⟨k1, k2, k3⟩ := h'
  refine ⟨by omega, by omega, fun n hn => ?_⟩
  have z1 := h3 n hn
  have z2 := k3 n hn
  unfold showsM at z1 z2 ⊢
  rw [Int.not_lt] at z1 z2 ⊢
  have e : n * (c.fee - a.fee) = n * (b.fee - a.fee) + n * (c.fee - b.fee) := by rw [← Int.mul_add]; congr 1; omega
  have e2 : a.price * (poolM c n - poolM a n) = a.price * (poolM b n - poolM a n) + a.price * (poolM c n - poolM b n) := by rw [← Int.mul_add]; congr 1; omega
  have z3 : a.price * (poolM c n - poolM b n) ≤ n * (c.fee - b.fee) := by
    rcases Int.le_total 0 (poolM c n - poolM b n) with h | h
    · have := Int.mul_le_mul_of_nonneg_right h2 h
      omega
    · have w1 : a.price * (poolM c n - poolM b n) ≤ 0 := Int.mul_nonpos_of_nonneg_of_nonpos oa.p0 h
      have w2 : 0 ≤ n * (c.fee - b.fee) := Int.mul_nonneg (by omega) (by omega)
      omega
  omega
/-- p is as q or better in each part -/
structure Bet (p q : Plan) : Prop where
  f : p.fee ≤ q.fee
  d : q.data ≤ p.data
  c : q.cap ≤ p.cap
  p : p.price ≤ q.price
theorem Bet.rfl (p : Plan) : Bet p p := ⟨Int.le_refl _, Int.le_refl _, Int.le_refl _, Int.le_refl _⟩
theorem Bet.nd {p q : Plan} (h : Bet p q) (op : 0 ≤ p.price) : ND p q := by
  refine ⟨h.f, h.p, fun n hn => ?_⟩
  unfold showsM
  rw [Int.not_lt]
  have z := pool_mono h.d h.c (n := n) (by omega)
  have w1 : p.price * (poolM q n - poolM p n) ≤ 0 := Int.mul_nonpos_of_nonneg_of_nonpos op (by omega)
  have w2 : 0 ≤ n * (q.fee - p.fee) := Int.mul_nonneg (by omega) (by have := h.f; omega)
  omega
theorem Bet.few {p q r : Plan} (h : Bet p q) (op : p.Ok) (oq : q.Ok) (or : r.Ok) {m n : Int} (hq : Few q r m) (hp : Few p r n) : m ≤ n := by
  rcases Int.lt_or_le n m with z | z
  · obtain ⟨q1, q2, q3⟩ := hq.2.1 n hp.1 z
    have s := hp.2.2 (by have := h.f; omega) (by have := h.p; omega)
    have hn := hp.1
    have z1 := pool_mono h.d h.c (n := n) (by omega)
    unfold showsM at s q3
    rw [Int.not_lt] at q3
    have w2 : n * (r.fee - q.fee) ≤ n * (r.fee - p.fee) := mul_le (by omega) (by have := h.f; omega)
    have w0 : 0 ≤ n * (r.fee - q.fee) := Int.mul_nonneg (by omega) (by omega)
    have w3 := mul_le op.p0 (show poolM r n - poolM p n ≤ poolM r n - poolM q n by omega)
    rcases Int.le_total 0 (poolM r n - poolM q n) with h' | h'
    · have := Int.mul_le_mul_of_nonneg_right h.p h'
      omega
    · have := Int.mul_nonpos_of_nonneg_of_nonpos op.p0 h'
      omega
  · exact z
end R
/-! Layer R, part 12: comparing plans. -/
namespace R
open PySem L2 Evl
theorem Plan.Ok.a {p : Plan} (h : p.Ok) : 0 ≤ p.cap ∧ 0 ≤ p.data ∧ 0 ≤ p.price := ⟨h.c0, h.d0, h.p0⟩
theorem Plan.Ok.b {p : Plan} (h : p.Ok) : 0 ≤ p.cap ∧ 0 ≤ p.data := ⟨h.c0, h.d0⟩
theorem Plan.Ok.dm {p : Plan} (h : p.Ok) : -(2 ^ 64) < p.data ∧ p.data < 2 ^ 64 := by have := h.d0; have := h.d1; omega
theorem Plan.Ok.pm {p : Plan} (h : p.Ok) : -(2 ^ 64) < p.price ∧ p.price < 2 ^ 64 := by have := h.p0; have := h.p1; omega
theorem Plan.Ok.fm {p q : Plan} (h : p.Ok) (h' : q.Ok) : -(2 ^ 64) < q.fee - p.fee ∧ q.fee - p.fee < 2 ^ 64 := by have := h.f0; have := h.f1; have := h'.f0; have := h'.f1; omega
/-- what a search for the fewest months answers -/
def FewD (a b : Plan) (d : D) : Prop := (ND a b ∧ d = .non) ∨ ∃ n, Few a b n ∧ d = .int n
def sp_gathered : DSpec := fun ads Q => ∃ (p : Plan) (n : Int), ads = [.d p.D, .d (.int n)] ∧ p.Ok ∧ Q (.d (.int (poolM p n))) []
theorem l_gathered : ∀ ads Q, sp_gathered ads Q → ads.length = 2 := by rintro _ _ ⟨_, _, rfl, _⟩; rfl
def w_gathered : DSw := (wRet (wCB fMin2 (wCons (wOp fAdd (wOp fIx (wVar 0) (wC (.int 2))) (wOp fIx (wVar 0) (wC (.int 1)))) (wCons (wOp fMul (wVar 1) (wOp fIx (wVar 0) (wC (.int 1)))) wNil))))
theorem v_gathered : Keeps w_gathered 0 sp_gathered := by
  rintro ads Q ⟨p, n, rfl, ok, q⟩
  exact ⟨.inr ok.dm, q⟩
def sp_shows : DSpec := fun ads Q => ∃ (a b : Plan) (n : Int), ads = [.d a.D, .d b.D, .d (.int n)] ∧ a.Ok ∧ b.Ok ∧ Q (.d (.bl (decide (showsM a b n)))) []
theorem l_shows : ∀ ads Q, sp_shows ads Q → ads.length = 3 := by rintro _ _ ⟨_, _, _, rfl, _⟩; rfl
def w_shows : DSw := (wSeq (wAsg (wOp fSub (wCall sp_gathered (wCons (wVar 1) (wCons (wVar 2) wNil))) (wCall sp_gathered (wCons (wVar 0) (wCons (wVar 2) wNil)))) (wgName 3)) (wRet (wOp fLt (wOp fMul (wVar 2) (wOp fSub (wOp fIx (wVar 1) (wC (.int 0))) (wOp fIx (wVar 0) (wC (.int 0))))) (wOp fMul (wOp fIx (wVar 0) (wC (.int 3))) (wVar 3)))))
theorem v_shows : Keeps w_shows 1 sp_shows := by
  rintro ads Q ⟨a, b, n, rfl, oa, ob, q⟩
  exact ⟨nod0, b, n, rfl, ob, nod0, a, n, rfl, oa, .inr (oa.fm ob), .inl oa.pm, q⟩
def sp_counts_of : DSpec := fun ads Q => ∃ p : Plan, ads = [.d p.D] ∧ p.Ok ∧ Q (.d (.lst ((cntsM p).map D.int))) []
theorem l_counts_of : ∀ ads Q, sp_counts_of ads Q → ads.length = 1 := by rintro _ _ ⟨_, rfl, _⟩; rfl
def w_counts_of : DSw := (wSeq (wIfS (wTst (wOp fEq (wOp fIx (wVar 0) (wC (.int 1))) (wC (.int 0)))) (wRet (wLst (wCons (wC (.int 1)) wNil))) wNext) (wSeq (wAsg (wOp fDiv (wOp fAdd (wOp fIx (wVar 0) (wC (.int 2))) (wOp fIx (wVar 0) (wC (.int 1)))) (wOp fIx (wVar 0) (wC (.int 1)))) (wgName 1)) (wRet (wLst (wCons (wC (.int 1)) (wCons (wVar 1) (wCons (wOp fAdd (wVar 1) (wC (.int 1))) wNil)))))))
theorem v_counts_of : Keeps w_counts_of 1 sp_counts_of := by
  rintro ads Q ⟨p, rfl, ok, q⟩
  have h0 := ok.d0
  have h1 := ok.d1
  refine ⟨trivial, trivial, ite2 (fun h => ?_) (fun h => ?_)⟩
  · have e : p.data = 0 := by simpa using (show (p.data == 0) = true from h)
    unfold cntsM at q
    rw [if_pos e] at q
    exact ⟨rfl, q⟩
  · have e : p.data ≠ 0 := fun z => h (show (p.data == 0) = true by rw [z]; rfl)
    unfold cntsM at q
    rw [if_neg e] at q
    exact ⟨⟨by omega, by omega⟩, rfl, q⟩
def sp_at_most : DSpec := fun ads Q => ∃ a b : Plan, ads = [.d a.D, .d b.D] ∧ a.Ok ∧ b.Ok ∧ Q (.d (.bl (ndB a b))) []
theorem l_at_most : ∀ ads Q, sp_at_most ads Q → ads.length = 2 := by rintro _ _ ⟨_, _, rfl, _⟩; rfl
def w_at_most : DSw := (wSeq (wIfS (wOrT (wTst (wOp fGt (wOp fIx (wVar 0) (wC (.int 0))) (wOp fIx (wVar 1) (wC (.int 0))))) (wTst (wOp fGt (wOp fIx (wVar 0) (wC (.int 3))) (wOp fIx (wVar 1) (wC (.int 3)))))) (wRet (wC (.bl false))) wNext) (wRet (wNotV (wCB fAny (wCons (wLc (wiLst (wCall sp_counts_of (wCons (wVar 1) wNil))) (wgName 2) wYes (wCall sp_shows (wCons (wVar 0) (wCons (wVar 1) (wCons (wVar 2) wNil)))) [2]) wNil)))))
theorem v_at_most : Keeps w_at_most 1 sp_at_most := by
  rintro ads Q ⟨a, b, rfl, oa, ob, q⟩
  have worse : b.fee < a.fee ∨ b.price < a.price → Q (.d (.bl false)) [] := fun h => by
    unfold ndB at q
    rw [if_pos h] at q
    exact q
  refine ite2 (fun h => worse (.inl (of_decide_eq_true h))) (fun h => ite2 (fun h' => worse (.inr (of_decide_eq_true h'))) (fun h' => ?_))
  have hn : ¬ (b.fee < a.fee ∨ b.price < a.price) := fun z => z.elim (fun z => h (decide_eq_true z)) fun z => h' (decide_eq_true z)
  unfold ndB at q
  rw [if_neg hn] at q
  refine ⟨nod0, b, rfl, ob, ?_⟩
  refine dLc_dmap (cntsM b) D.int (fun n => .bl (decide (showsM a b n))) ?_ (fun n _ k hk => ⟨nod0, a, b, n, rfl, oa, ob, hk⟩) ?_
  · unfold cntsM
    split
    · show 1 ≤ 16000000; decide
    · show 3 ≤ 16000000; decide
  · exact ⟨(cntsM b).map fun n => decide (showsM a b n), by rw [List.map_map]; rfl, q⟩
def sp_never_dearer : DSpec := fun ads Q => ∃ a b : Plan, ads = [.d a.D, .d b.D] ∧ a.Ok ∧ b.Ok ∧ Q (.d (.bl (ndB a b))) []
theorem l_never_dearer : ∀ ads Q, sp_never_dearer ads Q → ads.length = 2 := by rintro _ _ ⟨_, _, rfl, _⟩; rfl
def w_never_dearer : DSw := (wSeq (wDrop (wCall sp_check_plan (wCons (wVar 0) wNil))) (wSeq (wDrop (wCall sp_check_plan (wCons (wVar 1) wNil))) (wRet (wCall sp_at_most (wCons (wVar 0) (wCons (wVar 1) wNil))))))
theorem v_never_dearer : Keeps w_never_dearer 0 sp_never_dearer := by
  rintro ads Q ⟨a, b, rfl, oa, ob, q⟩
  exact ⟨nod0, a, rfl, oa, nod0, b, rfl, ob, nod0, a, b, rfl, oa, ob, q⟩
def sp_fewest : DSpec := fun ads Q => ∃ a b : Plan, ads = [.d a.D, .d b.D] ∧ a.Ok ∧ b.Ok ∧ (ND a b → Q (.d .non) []) ∧ ∀ n, Few a b n → Q (.d (.int n)) []
theorem l_fewest : ∀ ads Q, sp_fewest ads Q → ads.length = 2 := by rintro _ _ ⟨_, _, rfl, _⟩; rfl
def w_fewest : DSw := (wSeq (wIfS (wTst (wCall sp_at_most (wCons (wVar 0) (wCons (wVar 1) wNil)))) (wRet (wC .non)) wNext) (wSeq (wAsg (wC (.int 1)) (wgName 2)) (wSeq (wWhile (wAndT (wTst (wOp fLe (wOp fIx (wVar 0) (wC (.int 0))) (wOp fIx (wVar 1) (wC (.int 0))))) (wAndT (wTst (wOp fLe (wOp fIx (wVar 0) (wC (.int 3))) (wOp fIx (wVar 1) (wC (.int 3))))) (wNotT (wTst (wCall sp_shows (wCons (wVar 0) (wCons (wVar 1) (wCons (wVar 2) wNil)))))))) (wAsg (wOp fAdd (wVar 2) (wC (.int 1))) (wgName 2))) (wRet (wVar 2)))))
theorem v_fewest : Keeps w_fewest 1 sp_fewest := by
  rintro ads Q ⟨a, b, rfl, oa, ob, q1, q2⟩
  refine ⟨nod0, a, b, rfl, oa, ob, ite2 (fun h => q1 ((nd_iff oa ob).mp h)) (fun h => ?_)⟩
  obtain ⟨n, hn, _⟩ := few_ex oa ob (fun z => h (nd_true oa ob z))
  refine ⟨fun m env M => ∃ c : Int, env = [some (.d a.D), some (.d b.D), some (.d (.int c))] ∧ M = [] ∧ 1 ≤ c ∧ c ≤ n ∧ m = (n - c).toNat, ⟨(n - 1).toNat, 1, rfl, rfl, Int.le_refl 1, hn.1, rfl⟩, ?_⟩
  rintro m env M ⟨c, rfl, rfl, c1, c2, rfl⟩
  have go : a.fee ≤ b.fee → a.price ≤ b.price → ¬ showsM a b c → c < n := fun h1 h2 h3 => by
    have := hn.2.2 h1 h2
    have : c ≠ n := fun z => h3 (z ▸ this)
    omega
  have stop : (a.fee ≤ b.fee → a.price ≤ b.price → showsM a b c) → c = n := fun z => few_uniq ⟨c1, fun k k1 k2 => hn.2.1 k k1 (by omega), z⟩ hn
  refine ite2 (fun h1 => ?_) (fun h1 => ?_)
  · refine ite2 (fun h2 => ⟨nod0, a, b, c, rfl, oa, ob, ?_⟩) (fun h2 => ?_)
    · by_cases h3 : showsM a b c
      · refine if_f (by show (!decide (showsM a b c)) = false; rw [decide_eq_true h3]; rfl) ?_
        exact q2 c (by rw [stop fun _ _ => h3]; exact hn)
      · refine if_t (by show (!decide (showsM a b c)) = true; rw [decide_eq_false h3]; rfl) ?_
        have := go (of_decide_eq_true h1) (of_decide_eq_true h2) h3
        exact ⟨(n - (c + 1)).toNat, by omega, c + 1, rfl, rfl, by omega, by omega, rfl⟩
    · exact q2 c (by rw [stop fun _ z => absurd (decide_eq_true z) h2]; exact hn)
  · exact q2 c (by rw [stop fun z => absurd (decide_eq_true z) h1]; exact hn)
def sp_fewest_months : DSpec := fun ads Q => ∃ a b : Plan, ads = [.d a.D, .d b.D] ∧ a.Ok ∧ b.Ok ∧ (ND a b → Q (.d .non) []) ∧ ∀ n, Few a b n → Q (.d (.int n)) []
theorem l_fewest_months : ∀ ads Q, sp_fewest_months ads Q → ads.length = 2 := by rintro _ _ ⟨_, _, rfl, _⟩; rfl
def w_fewest_months : DSw := (wSeq (wDrop (wCall sp_check_plan (wCons (wVar 0) wNil))) (wSeq (wDrop (wCall sp_check_plan (wCons (wVar 1) wNil))) (wRet (wCall sp_fewest (wCons (wVar 0) (wCons (wVar 1) wNil))))))
theorem v_fewest_months : Keeps w_fewest_months 0 sp_fewest_months := by
  rintro ads Q ⟨a, b, rfl, oa, ob, q1, q2⟩
  exact ⟨nod0, a, rfl, oa, nod0, b, rfl, ob, nod0, a, b, rfl, oa, ob, q1, q2⟩
theorem call_few {a b : Plan} {Q : DK} (oa : a.Ok) (ob : b.Ok) (h : ∀ d, FewD a b d → Q (.d d) []) : sp_fewest_months [.d a.D, .d b.D] Q := ⟨a, b, rfl, oa, ob, fun z => h _ (.inl ⟨z, rfl⟩), fun n z => h _ (.inr ⟨n, z, rfl⟩)⟩
def tellD (a b : Plan) (n : Int) : D := if b.fee < a.fee then .tup [.int 0, .int 0] else if b.price < a.price then .tup [.int 0, .int 1000000] else .tup [.int (n - 1), .int (poolM b n)]
def sp_telling_usage : DSpec := fun ads Q => ∃ a b : Plan, ads = [.d a.D, .d b.D] ∧ a.Ok ∧ b.Ok ∧ (ND a b → Q (.d .non) []) ∧ ∀ n, Few a b n → Q (.d (tellD a b n)) []
theorem l_telling_usage : ∀ ads Q, sp_telling_usage ads Q → ads.length = 2 := by rintro _ _ ⟨_, _, rfl, _⟩; rfl
def w_telling_usage : DSw := (wSeq (wDrop (wCall sp_check_plan (wCons (wVar 0) wNil))) (wSeq (wDrop (wCall sp_check_plan (wCons (wVar 1) wNil))) (wSeq (wAsg (wCall sp_fewest (wCons (wVar 0) (wCons (wVar 1) wNil))) (wgName 2)) (wSeq (wIfS (wTst (wOp fIsN (wVar 2) (wC .non))) (wRet (wC .non)) wNext) (wSeq (wIfS (wTst (wOp fGt (wOp fIx (wVar 0) (wC (.int 0))) (wOp fIx (wVar 1) (wC (.int 0))))) (wRet (wTup (wCons (wC (.int 0)) (wCons (wC (.int 0)) wNil)))) wNext) (wRet (wIf (wTst (wOp fGt (wOp fIx (wVar 0) (wC (.int 3))) (wOp fIx (wVar 1) (wC (.int 3))))) (wTup (wCons (wC (.int 0)) (wCons (wC (.int 1000000)) wNil))) (wTup (wCons (wOp fSub (wVar 2) (wC (.int 1))) (wCons (wCall sp_gathered (wCons (wVar 1) (wCons (wVar 2) wNil))) wNil))))))))))
theorem v_telling_usage : Keeps w_telling_usage 1 sp_telling_usage := by
  rintro ads Q ⟨a, b, rfl, oa, ob, q1, q2⟩
  refine ⟨nod0, a, rfl, oa, nod0, b, rfl, ob, nod0, a, b, rfl, oa, ob, fun h => q1 h, fun n hn => ?_⟩
  have q := q2 n hn
  unfold tellD at q
  refine ite2 (fun h => ?_) (fun h => ?_)
  · rw [if_pos (of_decide_eq_true h)] at q
    exact ⟨rfl, q⟩
  · rw [if_neg (fun z => h (decide_eq_true z))] at q
    refine ite2 (fun h' => ?_) (fun h' => ?_)
    · rw [if_pos (of_decide_eq_true h')] at q
      exact ⟨rfl, q⟩
    · rw [if_neg (fun z => h' (decide_eq_true z))] at q
      exact ⟨nod0, b, n, rfl, ob, rfl, q⟩
def sp_alike : DSpec := fun ads Q => ∃ a b : Plan, ads = [.d a.D, .d b.D] ∧ a.Ok ∧ b.Ok ∧ Q (.d (.bl (ndB a b && ndB b a))) []
theorem l_alike : ∀ ads Q, sp_alike ads Q → ads.length = 2 := by rintro _ _ ⟨_, _, rfl, _⟩; rfl
def w_alike : DSw := (wSeq (wDrop (wCall sp_check_plan (wCons (wVar 0) wNil))) (wSeq (wDrop (wCall sp_check_plan (wCons (wVar 1) wNil))) (wRet (wAndV (wCall sp_at_most (wCons (wVar 0) (wCons (wVar 1) wNil))) (wCall sp_at_most (wCons (wVar 1) (wCons (wVar 0) wNil)))))))
theorem v_alike : Keeps w_alike 0 sp_alike := by
  rintro ads Q ⟨a, b, rfl, oa, ob, q⟩
  refine ⟨nod0, a, rfl, oa, nod0, b, rfl, ob, nod0, a, b, rfl, oa, ob, ?_⟩
  revert q
  cases ndB a b
  · exact fun q => q
  · exact fun q => ⟨nod0, b, a, rfl, ob, oa, q⟩
/-! ### the same in the laws -/
def sp_law_pool : DSpec := fun ads Q => ∃ (p : Plan) (n : Int), ads = [.d p.D, .d (.int n)] ∧ p.Ok ∧ Q (.d (.int (poolM p n))) []
theorem l_law_pool : ∀ ads Q, sp_law_pool ads Q → ads.length = 2 := by rintro _ _ ⟨_, _, rfl, _⟩; rfl
def w_law_pool : DSw := (wRet (wCB fMin2 (wCons (wOp fAdd (wOp fIx (wVar 0) (wC (.int 2))) (wOp fIx (wVar 0) (wC (.int 1)))) (wCons (wOp fMul (wVar 1) (wOp fIx (wVar 0) (wC (.int 1)))) wNil))))
theorem v_law_pool : Keeps w_law_pool 0 sp_law_pool := by
  rintro ads Q ⟨p, n, rfl, ok, q⟩
  exact ⟨.inr ok.dm, q⟩
def sp_law_shows : DSpec := fun ads Q => ∃ (a b : Plan) (n : Int), ads = [.d a.D, .d b.D, .d (.int n)] ∧ a.Ok ∧ b.Ok ∧ Q (.d (.bl (decide (showsM a b n)))) []
theorem l_law_shows : ∀ ads Q, sp_law_shows ads Q → ads.length = 3 := by rintro _ _ ⟨_, _, _, rfl, _⟩; rfl
def w_law_shows : DSw := (wSeq (wAsg (wOp fSub (wCall sp_law_pool (wCons (wVar 1) (wCons (wVar 2) wNil))) (wCall sp_law_pool (wCons (wVar 0) (wCons (wVar 2) wNil)))) (wgName 3)) (wRet (wOp fLt (wOp fMul (wVar 2) (wOp fSub (wOp fIx (wVar 1) (wC (.int 0))) (wOp fIx (wVar 0) (wC (.int 0))))) (wOp fMul (wOp fIx (wVar 0) (wC (.int 3))) (wVar 3)))))
theorem v_law_shows : Keeps w_law_shows 1 sp_law_shows := by
  rintro ads Q ⟨a, b, n, rfl, oa, ob, q⟩
  exact ⟨nod0, b, n, rfl, ob, nod0, a, n, rfl, oa, .inr (oa.fm ob), .inl oa.pm, q⟩
def sp_law_fewest : DSpec := fun ads Q => ∃ a b : Plan, ads = [.d a.D, .d b.D] ∧ a.Ok ∧ b.Ok ∧ (ND a b → Q (.d .non) []) ∧ ∀ n, Few a b n → Q (.d (.int n)) []
theorem l_law_fewest : ∀ ads Q, sp_law_fewest ads Q → ads.length = 2 := by rintro _ _ ⟨_, _, rfl, _⟩; rfl
def w_law_fewest : DSw := (wSeq (wIfS (wOrT (wTst (wOp fGt (wOp fIx (wVar 0) (wC (.int 0))) (wOp fIx (wVar 1) (wC (.int 0))))) (wTst (wOp fGt (wOp fIx (wVar 0) (wC (.int 3))) (wOp fIx (wVar 1) (wC (.int 3)))))) (wRet (wC (.int 1))) wNext) (wSeq (wAsg (wIf (wTst (wOp fEq (wOp fIx (wVar 1) (wC (.int 1))) (wC (.int 0)))) (wC (.int 1)) (wOp fAdd (wOp fDiv (wOp fAdd (wOp fIx (wVar 1) (wC (.int 2))) (wOp fIx (wVar 1) (wC (.int 1)))) (wOp fIx (wVar 1) (wC (.int 1)))) (wC (.int 1)))) (wgName 2)) (wSeq (wFor (wiR2 (wCons (wC (.int 1)) (wCons (wOp fAdd (wVar 2) (wC (.int 1))) wNil))) (wgName 3) (wIfS (wTst (wCall sp_law_shows (wCons (wVar 0) (wCons (wVar 1) (wCons (wVar 3) wNil))))) (wRet (wVar 3)) wNext)) (wRet (wC .non)))))
theorem v_law_fewest : Keeps w_law_fewest 2 sp_law_fewest := by
  rintro ads Q ⟨a, b, rfl, oa, ob, q1, q2⟩
  have worse : b.fee < a.fee ∨ b.price < a.price → Q (.d (.int 1)) [] := fun h => q2 1 ⟨Int.le_refl 1, fun k k1 k2 => by omega, fun _ _ => by omega⟩
  refine ite2 (fun h => worse (.inl (of_decide_eq_true h))) (fun h => ite2 (fun h' => worse (.inr (of_decide_eq_true h'))) (fun h' => ?_))
  have hf : a.fee ≤ b.fee := by
    have : ¬ b.fee < a.fee := fun z => h (decide_eq_true z)
    omega
  have hp : a.price ≤ b.price := by
    have : ¬ b.price < a.price := fun z => h' (decide_eq_true z)
    omega
  have h0 := ob.d0
  have h1 := ob.d1
  have go : ∀ last : Int, 1 ≤ last → last < 2 ^ 61 → (∀ n ∈ cntsM b, n ≤ last) → (-(2 ^ 62) ≤ (1 : Int) ∧ (1 : Int) < 2 ^ 62 ∧ -(2 ^ 62) ≤ last + 1 ∧ last + 1 < 2 ^ 62) ∧ ∃ P : Nat → Env → Mem → Prop, P 0 [some (.d a.D), some (.d b.D), some (.d (.int last)), none] [] ∧
      (∀ i s env M, (rngS 1 (last + 1 - 1).toNat)[i]? = some s → P i env M → wgName 3 XF s env M fun env' M' => wIfS (wTst (wCall sp_law_shows (wCons (wVar 0) (wCons (wVar 1) (wCons (wVar 3) wNil))))) (wRet (wVar 3)) wNext XF { nx := P (i + 1), ct := P (i + 1), bk := fun _ _ => Q (.d .non) [], rt := (dEnds 0 Q).rt } env' M') ∧ ∀ env M, P (rngS 1 (last + 1 - 1).toNat).length env M → Q (.d .non) [] := by
    intro last l1 l2 hl
    refine ⟨⟨by decide, by decide, by omega, by omega⟩, fun i env M => ∃ x, env = [some (.d a.D), some (.d b.D), some (.d (.int last)), x] ∧ M = [] ∧ ∀ k : Int, 1 ≤ k → k ≤ i → ¬ showsM a b k, ⟨none, rfl, rfl, fun k k1 k2 => by omega⟩, ?_, ?_⟩
    · rintro i s env M hs ⟨x, rfl, rfl, hk⟩
      obtain ⟨hi, rfl⟩ := rng_get hs
      refine ⟨nod0, a, b, 1 + (i : Int), rfl, oa, ob, ite2 (fun h => ?_) (fun h => ?_)⟩
      · exact q2 _ ⟨by omega, fun k k1 k2 => ⟨hf, hp, hk k k1 (by omega)⟩, fun _ _ => of_decide_eq_true h⟩
      · refine ⟨some (.d (.int (1 + (i : Int)))), rfl, rfl, fun k k1 k2 => ?_⟩
        by_cases hki : k ≤ i
        · exact hk k k1 hki
        · have : k = 1 + (i : Int) := by omega
          rw [this]
          exact fun z => h (decide_eq_true z)
    · rintro env M ⟨x, rfl, rfl, hk⟩
      rw [rngS_len] at hk
      refine q1 ⟨hf, hp, shows_all oa.a ob.b hf fun n hn => hk n (cnts_pos ob.b n hn).1 ?_⟩
      have := hl n hn
      omega
  refine ⟨trivial, trivial, ite2 (fun h => ?_) (fun h => ?_)⟩
  · have e : b.data = 0 := by simpa using (show (b.data == 0) = true from h)
    refine go 1 (by decide) (by decide) fun n hn => ?_
    unfold cntsM at hn
    rw [if_pos e] at hn
    have : n = 1 := by simpa using hn
    omega
  · have e : b.data ≠ 0 := fun z => h (show (b.data == 0) = true by rw [z]; rfl)
    have c1 := ob.c1
    have hl : ∀ n ∈ cntsM b, n ≤ lastM b + 1 := fun n hn => by
      have z1 := (cnts_pos ob.b (lastM b) (by unfold cntsM; rw [if_neg e]; simp)).1
      unfold cntsM at hn
      rw [if_neg e] at hn
      have : n = 1 ∨ n = lastM b ∨ n = lastM b + 1 := by simpa using hn
      omega
    have z2 := cnts_pos ob.b (lastM b + 1) (by unfold cntsM; rw [if_neg e]; simp)
    exact ⟨⟨by omega, by omega⟩, go (lastM b + 1) z2.1 (by omega) hl⟩
theorem call_lfew {a b : Plan} {Q : DK} (oa : a.Ok) (ob : b.Ok) (h : ∀ d, FewD a b d → Q (.d d) []) : sp_law_fewest [.d a.D, .d b.D] Q := ⟨a, b, rfl, oa, ob, fun z => h _ (.inl ⟨z, rfl⟩), fun n z => h _ (.inr ⟨n, z, rfl⟩)⟩
/-- a plan near another -/
def sp_law_near : DSpec := fun ads Q => ∃ (n : Nat) (p : Plan), ads = [.mo (.bag n), .d p.D] ∧ n < 2 ^ 59 ∧ p.Ok ∧ ∀ (r : Plan) (n' : Nat), r.Ok → n' ≤ n + 8 → Q (.d r.D) [.bag n']
theorem l_law_near : ∀ ads Q, sp_law_near ads Q → ads.length = 2 := by rintro _ _ ⟨_, _, rfl, _⟩; rfl
def w_law_near : DSw := (wSeq (wAsg (wVar 1) (wgTup 4 (wgCons (wgName 3) (wgCons (wgName 4) (wgCons (wgName 5) (wgCons (wgName 6) wgNil)))))) (wSeq (wAsg (wCall sp_law_take (wCons (wVar 0) (wCons (wC (.int 6)) wNil))) (wgName 2)) (wSeq (wIfS (wTst (wOp fEq (wVar 2) (wC (.int 0)))) (wRet (wTup (wCons (wCB fMin2 (wCons (wC (.int 10000)) (wCons (wOp fAdd (wVar 3) (wCall sp_law_take (wCons (wVar 0) (wCons (wC (.int 12)) wNil)))) wNil))) (wCons (wVar 4) (wCons (wCB fMin2 (wCons (wC (.int 10000)) (wCons (wCall sp_law_take (wCons (wVar 0) (wCons (wOp fAdd (wVar 5) (wC (.int 9))) wNil))) wNil))) (wCons (wVar 6) wNil)))))) wNext) (wSeq (wIfS (wTst (wOp fEq (wVar 2) (wC (.int 1)))) (wRet (wTup (wCons (wCB fMin2 (wCons (wC (.int 10000)) (wCons (wOp fAdd (wVar 3) (wOp fMul (wVar 6) (wCall sp_law_take (wCons (wVar 0) (wCons (wC (.int 4)) wNil))))) wNil))) (wCons (wCB fMin2 (wCons (wC (.int 1000)) (wCons (wOp fAdd (wVar 4) (wCall sp_law_take (wCons (wVar 0) (wCons (wC (.int 3)) wNil)))) wNil))) (wCons (wVar 5) (wCons (wVar 6) wNil)))))) wNext) (wSeq (wIfS (wTst (wOp fEq (wVar 2) (wC (.int 2)))) (wSeq (wAsg (wCall sp_law_take (wCons (wVar 0) (wCons (wOp fAdd (wCB fMin2 (wCons (wC (.int 1000)) (wCons (wOp fAdd (wVar 4) (wC (.int 1))) wNil))) (wC (.int 1))) wNil))) (wgName 7)) (wRet (wTup (wCons (wCB fMin2 (wCons (wC (.int 10000)) (wCons (wOp fAdd (wVar 3) (wCall sp_law_take (wCons (wVar 0) (wCons (wC (.int 30)) wNil)))) wNil))) (wCons (wVar 7) (wCons (wOp fDiv (wVar 5) (wC (.int 2))) (wCons (wCB fMin2 (wCons (wC (.int 100)) (wCons (wOp fAdd (wVar 6) (wCall sp_law_take (wCons (wVar 0) (wCons (wC (.int 2)) wNil)))) wNil))) wNil))))))) wNext) (wSeq (wIfS (wTst (wOp fEq (wVar 2) (wC (.int 3)))) (wRet (wTup (wCons (wCB fMax2 (wCons (wC (.int 0)) (wCons (wOp fSub (wVar 3) (wCall sp_law_take (wCons (wVar 0) (wCons (wC (.int 3)) wNil)))) wNil))) (wCons (wVar 4) (wCons (wCB fMin2 (wCons (wC (.int 10000)) (wCons (wOp fAdd (wVar 5) (wCall sp_law_take (wCons (wVar 0) (wCons (wC (.int 5)) wNil)))) wNil))) (wCons (wVar 6) wNil)))))) wNext) (wRet (wIf (wTst (wOp fEq (wVar 2) (wC (.int 4)))) (wTup (wCons (wVar 3) (wCons (wCB fMax2 (wCons (wC (.int 0)) (wCons (wOp fSub (wVar 4) (wC (.int 1))) wNil))) (wCons (wCB fMin2 (wCons (wC (.int 10000)) (wCons (wOp fMul (wC (.int 2)) (wVar 5)) wNil))) (wCons (wVar 6) wNil))))) (wCall sp_law_plan (wCons (wVar 0) wNil))))))))))
theorem v_law_near : Keeps w_law_near 6 sp_law_near := by
  rintro ads Q ⟨n, p, rfl, hn, ok, q⟩
  have f0 := ok.f0
  have f1 := ok.f1
  have d0 := ok.d0
  have d1 := ok.d1
  have c0 := ok.c0
  have c1 := ok.c1
  have p0 := ok.p0
  have p1 := ok.p1
  refine ⟨rfl, nod1, n, 6, rfl, by omega, by decide, by decide, fun r r0 r1 => ⟨trivial, trivial, ite2 (fun h => ?_) (fun h => ?_)⟩⟩
  · refine ⟨nod1, n + 1, 12, rfl, by omega, by decide, by decide, fun a a0 a1 => ?_⟩
    refine ⟨nod1, n + 2, p.cap + 9, rfl, by omega, by omega, by omega, fun b b0 b1 => ⟨rfl, ?_⟩⟩
    exact q ⟨min 10000 (p.fee + a), p.data, min 10000 b, p.price⟩ (n + 3) ⟨by show 0 ≤ min _ _; omega, by show min _ _ ≤ (10000 : Int); omega, d0, d1, by show 0 ≤ min _ _; omega, by show min _ _ ≤ (10000 : Int); omega, p0, p1⟩ (by omega)
  refine ⟨trivial, trivial, ite2 (fun h => ?_) (fun h => ?_)⟩
  · refine ⟨nod1, n + 1, 4, rfl, by omega, by decide, by decide, fun a a0 a1 => ⟨.inl ok.pm, ?_⟩⟩
    refine ⟨nod1, n + 2, 3, rfl, by omega, by decide, by decide, fun b b0 b1 => ⟨rfl, ?_⟩⟩
    have := Int.mul_nonneg p0 a0
    exact q ⟨min 10000 (p.fee + p.price * a), min 1000 (p.data + b), p.cap, p.price⟩ (n + 3) ⟨by show 0 ≤ min _ _; omega, by show min _ _ ≤ (10000 : Int); omega, by show 0 ≤ min _ _; omega, by show min _ _ ≤ (1000 : Int); omega, c0, c1, p0, p1⟩ (by omega)
  refine ⟨trivial, trivial, ite2 (fun h => ?_) (fun h => ?_)⟩
  · refine ⟨nod1, n + 1, min 1000 (p.data + 1) + 1, rfl, by omega, by omega, by omega, fun a a0 a1 => ?_⟩
    refine ⟨nod1, n + 2, 30, rfl, by omega, by decide, by decide, fun b b0 b1 => ⟨⟨by decide, by decide⟩, ?_⟩⟩
    refine ⟨nod1, n + 3, 2, rfl, by omega, by decide, by decide, fun c c0' c1' => ⟨rfl, ?_⟩⟩
    exact q ⟨min 10000 (p.fee + b), a, p.cap / 2, min 100 (p.price + c)⟩ (n + 4) ⟨by show 0 ≤ min _ _; omega, by show min _ _ ≤ (10000 : Int); omega, a0, by show a ≤ 1000; omega, by show 0 ≤ p.cap / 2; omega, by show p.cap / 2 ≤ 10000; omega, by show 0 ≤ min _ _; omega, by show min _ _ ≤ (100 : Int); omega⟩ (by omega)
  refine ⟨trivial, trivial, ite2 (fun h => ?_) (fun h => ?_)⟩
  · refine ⟨nod1, n + 1, 3, rfl, by omega, by decide, by decide, fun a a0 a1 => ?_⟩
    refine ⟨nod1, n + 2, 5, rfl, by omega, by decide, by decide, fun b b0 b1 => ⟨rfl, ?_⟩⟩
    exact q ⟨max 0 (p.fee - a), p.data, min 10000 (p.cap + b), p.price⟩ (n + 3) ⟨by show 0 ≤ max _ _; omega, by show max _ _ ≤ (10000 : Int); omega, d0, d1, by show 0 ≤ min _ _; omega, by show min _ _ ≤ (10000 : Int); omega, p0, p1⟩ (by omega)
  refine ⟨trivial, trivial, ite2 (fun h => ?_) (fun h => ?_)⟩
  · refine ⟨.inl ⟨by decide, by decide⟩, rfl, ?_⟩
    exact q ⟨p.fee, max 0 (p.data - 1), min 10000 (2 * p.cap), p.price⟩ (n + 1) ⟨f0, f1, by show 0 ≤ max _ _; omega, by show max _ _ ≤ (1000 : Int); omega, by show 0 ≤ min _ _; omega, by show min _ _ ≤ (10000 : Int); omega, p0, p1⟩ (by omega)
  · exact ⟨nod1, n + 1, rfl, by omega, fun r ok' => q r (n + 1 + 5) ok' (by omega)⟩
end R
/-! Layer R, part 13: many rounds. -/
namespace R
open PySem L2 Evl
theorem furs_app (d c : Int) : ∀ (us vs : List Int) (k : Int), furs d c (us ++ vs) k = furs d c us k + furs d c vs (kps d c us k)
  | [], vs, k => by show _ = 0 + _; rw [Int.zero_add]; rfl
  | u :: us, vs, k => by
    show fuM d k u + furs d c (us ++ vs) (nxM d c k u) = fuM d k u + furs d c us (nxM d c k u) + furs d c vs (kps d c us (nxM d c k u))
    rw [furs_app d c us]
    omega
theorem kps_app (d c : Int) : ∀ (us vs : List Int) (k : Int), kps d c (us ++ vs) k = kps d c vs (kps d c us k)
  | [], vs, k => rfl
  | u :: us, vs, k => kps_app d c us vs _
theorem kps_le (d c : Int) : ∀ (us : List Int) (k : Int), k ≤ c → kps d c us k ≤ c
  | [], _, h => h
  | u :: us, k, _ => kps_le d c us _ (by unfold nxM; omega)
/-- the cost of the months us behind k kept units -/
def costK (p : Plan) (us : List Int) (k : Int) : Int := p.fee * us.length + p.price * furs p.data p.cap us k
theorem costK_app (p : Plan) (us vs : List Int) (k : Int) : costK p (us ++ vs) k = costK p us k + costK p vs (kps p.data p.cap us k) := by
  unfold costK
  rw [furs_app, List.length_append, Int.natCast_add, Int.mul_add, Int.mul_add]
  omega
theorem costM_K (p : Plan) (us : List Int) : costM p us = costK p us 0 := costM_eq p us
def manyR (us : List Int) (r : Nat) : List Int := (List.replicate r us).flatten
theorem manyR_suc (us : List Int) (r : Nat) : manyR us (r + 1) = manyR us r ++ us := by
  unfold manyR
  rw [List.replicate_succ', List.flatten_append]
  simp
theorem manyR_len (us : List Int) : ∀ r : Nat, ((manyR us r).length : Int) = r * us.length
  | 0 => by show (0 : Int) = ((0 : Nat) : Int) * _; rw [show ((0 : Nat) : Int) = 0 from rfl, Int.zero_mul]
  | r + 1 => by
    rw [manyR_suc, List.length_append, Int.natCast_add, manyR_len us r, Int.natCast_add, Int.add_mul]
    omega
theorem manyR_all {us : List Int} {p : Int → Prop} (h : ∀ u ∈ us, p u) (r : Nat) : ∀ u ∈ manyR us r, p u := by
  intro u hu
  unfold manyR at hu
  obtain ⟨l, hl, hu⟩ := List.mem_flatten.mp hu
  rw [(List.mem_replicate.mp hl).2] at hu
  exact h u hu
def farC (p : Plan) (us : List Int) (r : Int) : Int := costM p (manyR us r.toNat)
def farK (p : Plan) (us : List Int) (r : Int) : Int := kps p.data p.cap (manyR us r.toNat) 0
/-- from a steady round on -/
theorem steady (p : Plan) (us : List Int) (i : Nat) (h : kps p.data p.cap us (kps p.data p.cap (manyR us i) 0) = kps p.data p.cap (manyR us i) 0) : ∀ j : Nat,
    kps p.data p.cap (manyR us (i + j)) 0 = kps p.data p.cap (manyR us i) 0 ∧ costM p (manyR us (i + j)) = costM p (manyR us i) + costK p us (kps p.data p.cap (manyR us i) 0) * j
  | 0 => ⟨rfl, by show _ = _ + _ * ((0 : Nat) : Int); rw [show ((0 : Nat) : Int) = 0 from rfl, Int.mul_zero]; show costM p (manyR us i) = _; omega⟩
  | j + 1 => by
    obtain ⟨h1, h2⟩ := steady p us i h j
    rw [← Nat.add_assoc, manyR_suc, kps_app, h1, costM_K, costK_app, ← costM_K, h2, h1, Int.natCast_add, Int.mul_add]
    refine ⟨h, ?_⟩
    have e : costK p us (kps p.data p.cap (manyR us i) 0) * ((1 : Nat) : Int) = costK p us (kps p.data p.cap (manyR us i) 0) := Int.mul_one _
    omega
theorem play_last (p : Plan) {us : List Int} (h : us ≠ []) (k : Int) : ∃ l r, playM p us k = l ++ [r] ∧ r.kept = kps p.data p.cap us k := by
  obtain ⟨vs, u, rfl⟩ : ∃ vs u, us = vs ++ [u] := ⟨us.dropLast, us.getLast h, (List.dropLast_concat_getLast h).symm⟩
  refine ⟨_, _, playM_snoc p vs u k, ?_⟩
  rw [← kAfter_eq, kAfter_snoc]
theorem at_last (p : Plan) {us : List Int} (h : us ≠ []) (k : Int) : ∃ r : Row, atI ((playM p us k).map Row.D) (-1) = some r.D ∧ r.kept = kps p.data p.cap us k := by
  obtain ⟨l, r, e, hr⟩ := play_last p h k
  refine ⟨r, ?_, hr⟩
  rw [e, List.map_append]
  exact atI_last _ _
def sp_check_number : DSpec := fun ads Q => ∃ v lo hi : Int, ads = [.d (.int v), .d (.int lo), .d (.int hi)] ∧ lo ≤ v ∧ v ≤ hi ∧ Q (.d .non) []
theorem l_check_number : ∀ ads Q, sp_check_number ads Q → ads.length = 3 := by rintro _ _ ⟨_, _, _, rfl, _⟩; rfl
def w_check_number : DSw := (wIfS (wNotT (wTst (wCall sp_in_range (wCons (wVar 0) (wCons (wVar 1) (wCons (wVar 2) wNil)))))) wNever wNext)
theorem v_check_number : Keeps w_check_number 0 sp_check_number := by
  rintro ads Q ⟨v, lo, hi, rfl, h1, h2, q⟩
  refine ⟨nod0, .int v, lo, hi, rfl, ?_⟩
  rw [inR_int h1 h2]
  exact q
theorem sh_us (us : List Int) : Sh 9 (usD us) := by
  show Shs 8 (us.map D.int)
  induction us with
  | nil => trivial
  | cons u us ih => exact ⟨trivial, ih⟩
theorem eq_us_nil {us : List Int} (h : us ≠ []) : eqD (usD us) (.tup []) = false := by
  cases us with
  | nil => exact absurd rfl h
  | cons u us => rfl
def sp_check_pattern : DSpec := fun ads Q => ∃ us : List Int, ads = [.d (usD us)] ∧ UsOk us ∧ us ≠ [] ∧ Q (.d .non) []
theorem l_check_pattern : ∀ ads Q, sp_check_pattern ads Q → ads.length = 1 := by rintro _ _ ⟨_, rfl, _⟩; rfl
def w_check_pattern : DSw := (wSeq (wDrop (wCall sp_check_usage (wCons (wVar 0) wNil))) (wIfS (wTst (wOp fEq (wVar 0) (wTup wNil))) wNever wNext))
theorem v_check_pattern : Keeps w_check_pattern 0 sp_check_pattern := by
  rintro ads Q ⟨us, rfl, ok, ne, q⟩
  exact ⟨nod0, us, rfl, ok, rfl, sh_us us, trivial, if_f (eq_us_nil ne) q⟩
def sp_rounds_of : DSpec := fun ads Q => ∃ (p : Plan) (us : List Int) (r : Int), ads = [.d p.D, .d (usD us), .d (.int r)] ∧ p.Ok ∧ UsOk us ∧ us ≠ [] ∧ 0 ≤ r ∧ r ≤ 1000000000000 ∧ Q (.d (.tup [.int (farC p us r), .int (farK p us r)])) []
theorem l_rounds_of : ∀ ads Q, sp_rounds_of ads Q → ads.length = 3 := by rintro _ _ ⟨_, _, _, rfl, _⟩; rfl
def w_rounds_of : DSw := (wSeq (wAsg (wTup (wCons (wC (.int 0)) (wCons (wC (.int 0)) wNil))) (wgTup 2 (wgCons (wgName 4) (wgCons (wgName 5) wgNil)))) (wSeq (wFor (wiR1 (wCons (wVar 2) wNil)) (wgName 3) (wSeq (wAsg (wFz (wCall sp_played (wCons (wVar 0) (wCons (wVar 1) (wCons (wVar 4) wNil))))) (wgName 6)) (wSeq (wAsg (wCB fSum (wCons (wLc (wiLst (wVar 6)) (wgName 8) wYes (wOp fIx (wVar 8) (wC (.int 0))) [8]) wNil)) (wgName 7)) (wSeq (wIfS (wTst (wOp fEq (wOp fIx (wOp fIx (wVar 6) (wUn fNeg (wC (.int 1)))) (wC (.int 1))) (wVar 4))) (wRet (wTup (wCons (wOp fAdd (wVar 5) (wOp fMul (wVar 7) (wOp fSub (wVar 2) (wVar 3)))) (wCons (wVar 4) wNil)))) wNext) (wPar 4 5 (wCons (wOp fIx (wOp fIx (wVar 6) (wUn fNeg (wC (.int 1)))) (wC (.int 1))) (wCons (wOp fAdd (wVar 5) (wVar 7)) wNil))))))) (wRet (wTup (wCons (wVar 5) (wCons (wVar 4) wNil))))))
theorem v_rounds_of : Keeps w_rounds_of 6 sp_rounds_of := by
  rintro ads Q ⟨p, us, r, rfl, ok, hu, ne, r0, r1, q⟩
  have hl := hu.len
  refine ⟨rfl, rfl, ⟨by omega, by omega⟩, fun i env M => ∃ x3 x6 x7 x8, env = [some (.d p.D), some (.d (usD us)), some (.d (.int r)), x3, some (.d (.int (kps p.data p.cap (manyR us i) 0))), some (.d (.int (costM p (manyR us i)))), x6, x7, x8] ∧ M = [], ⟨_, _, _, _, rfl, rfl⟩, ?_, ?_⟩
  · rintro i s env M hs ⟨x3, x6, x7, x8, rfl, rfl⟩
    obtain ⟨hi, rfl⟩ := rng_get hs
    refine ⟨nod0, p, us, _, rfl, ok, by omega, Nat.zero_le _, ?_⟩
    have ck : ((playM p us (kps p.data p.cap (manyR us i) 0)).map Row.cost).sum = costK p us (kps p.data p.cap (manyR us i) 0) := cost_eq p us _
    refine dLc_dmap (playM p us (kps p.data p.cap (manyR us i) 0)) Row.D (fun r => .int r.cost) (by rw [playM_len]; omega) (fun r _ k hk => hk) ⟨(playM p us (kps p.data p.cap (manyR us i) 0)).map Row.cost, by rw [List.map_map]; rfl, ?_⟩
    rw [ck]
    obtain ⟨x, hx, hk⟩ := at_last p ne (kps p.data p.cap (manyR us i) 0)
    refine atQ_some hx ⟨trivial, trivial, ite2 (fun h => ?_) (fun h => ?_)⟩
    · have he : x.kept = kps p.data p.cap (manyR us i) 0 := by simpa using (show (x.kept == kps p.data p.cap (manyR us i) 0) = true from h)
      rw [hk] at he
      obtain ⟨s1, s2⟩ := steady p us i he (r.toNat - i)
      rw [show i + (r.toNat - i) = r.toNat by omega] at s1 s2
      refine ⟨.inr ⟨by show -(2 ^ 64) < r - (0 + (i : Int)); omega, by show r - (0 + (i : Int)) < 2 ^ 64; omega⟩, rfl, ?_⟩
      unfold farC farK at q
      rw [s1, s2] at q
      have e : r - (0 + (i : Int)) = ((r.toNat - i : Nat) : Int) := by omega
      show Q (.d (.tup [.int (costM p (manyR us i) + costK p us (kps p.data p.cap (manyR us i) 0) * (r - (0 + (i : Int)))), .int (kps p.data p.cap (manyR us i) 0)])) []
      rw [e]
      exact q
    · have e1 : kps p.data p.cap (manyR us (i + 1)) 0 = x.kept := by rw [manyR_suc, kps_app, hk]
      have e2 : costM p (manyR us (i + 1)) = costM p (manyR us i) + costK p us (kps p.data p.cap (manyR us i) 0) := by rw [manyR_suc, costM_K p (manyR us i ++ us), costK_app, ← costM_K]
      exact atQ_some hx ⟨some (.d (.int (0 + (i : Int)))), some (.d (.lst ((playM p us (kps p.data p.cap (manyR us i) 0)).map Row.D))), some (.d (.int (costK p us (kps p.data p.cap (manyR us i) 0)))), x8, by rw [e1, e2]; rfl, rfl⟩
  · rintro env M ⟨x3, x6, x7, x8, rfl, rfl⟩
    rw [rngS_len]
    exact ⟨rfl, q⟩
def sp_far_cost : DSpec := fun ads Q => ∃ (p : Plan) (us : List Int) (r : Int), ads = [.d p.D, .d (usD us), .d (.int r)] ∧ p.Ok ∧ UsOk us ∧ us ≠ [] ∧ 0 ≤ r ∧ r ≤ 1000000000000 ∧ Q (.d (.int (farC p us r))) []
theorem l_far_cost : ∀ ads Q, sp_far_cost ads Q → ads.length = 3 := by rintro _ _ ⟨_, _, _, rfl, _⟩; rfl
def w_far_cost : DSw := (wSeq (wDrop (wCall sp_check_plan (wCons (wVar 0) wNil))) (wSeq (wDrop (wCall sp_check_pattern (wCons (wVar 1) wNil))) (wSeq (wDrop (wCall sp_check_number (wCons (wVar 2) (wCons (wC (.int 0)) (wCons (wC (.int 1000000000000)) wNil))))) (wRet (wOp fIx (wCall sp_rounds_of (wCons (wVar 0) (wCons (wVar 1) (wCons (wVar 2) wNil)))) (wC (.int 0)))))))
theorem v_far_cost : Keeps w_far_cost 0 sp_far_cost := by
  rintro ads Q ⟨p, us, r, rfl, ok, hu, ne, r0, r1, q⟩
  exact ⟨nod0, p, rfl, ok, nod0, us, rfl, hu, ne, nod0, r, 0, _, rfl, r0, r1, nod0, p, us, r, rfl, ok, hu, ne, r0, r1, q⟩
def sp_far_kept : DSpec := fun ads Q => ∃ (p : Plan) (us : List Int) (r : Int), ads = [.d p.D, .d (usD us), .d (.int r)] ∧ p.Ok ∧ UsOk us ∧ us ≠ [] ∧ 0 ≤ r ∧ r ≤ 1000000000000 ∧ Q (.d (.int (farK p us r))) []
theorem l_far_kept : ∀ ads Q, sp_far_kept ads Q → ads.length = 3 := by rintro _ _ ⟨_, _, _, rfl, _⟩; rfl
def w_far_kept : DSw := (wSeq (wDrop (wCall sp_check_plan (wCons (wVar 0) wNil))) (wSeq (wDrop (wCall sp_check_pattern (wCons (wVar 1) wNil))) (wSeq (wDrop (wCall sp_check_number (wCons (wVar 2) (wCons (wC (.int 0)) (wCons (wC (.int 1000000000000)) wNil))))) (wRet (wOp fIx (wCall sp_rounds_of (wCons (wVar 0) (wCons (wVar 1) (wCons (wVar 2) wNil)))) (wC (.int 1)))))))
theorem v_far_kept : Keeps w_far_kept 0 sp_far_kept := by
  rintro ads Q ⟨p, us, r, rfl, ok, hu, ne, r0, r1, q⟩
  exact ⟨nod0, p, rfl, ok, nod0, us, rfl, hu, ne, nod0, r, 0, _, rfl, r0, r1, nod0, p, us, r, rfl, ok, hu, ne, r0, r1, q⟩
/-- a far number -/
def sp_law_far : DSpec := fun ads Q => ∃ (n : Nat) (m : Int), ads = [.mo (.bag n), .d (.int m)] ∧ n < 2 ^ 59 ∧ 0 < m ∧ m ≤ 1000000000000 ∧ ∀ (r : Int) (n' : Nat), 0 ≤ r → r < m → n' ≤ n + 1000000000001 → Q (.d (.int r)) [.bag n']
theorem l_law_far : ∀ ads Q, sp_law_far ads Q → ads.length = 2 := by rintro _ _ ⟨_, _, rfl, _⟩; rfl
def w_law_far : DSw := (wSeq (wPar 2 3 (wCons (wC (.int 0)) (wCons (wVar 1) wNil))) (wSeq (wWhile (wTst (wOp fGt (wVar 3) (wC (.int 0)))) (wPar 2 3 (wCons (wOp fAdd (wOp fMul (wC (.int 1000)) (wVar 2)) (wCall sp_law_take (wCons (wVar 0) (wCons (wC (.int 1000)) wNil)))) (wCons (wOp fDiv (wVar 3) (wC (.int 1000))) wNil)))) (wRet (wOp fIx (wLst (wCons (wOp fMod (wVar 2) (wVar 1)) (wCons (wC (.int 0)) (wCons (wOp fSub (wVar 1) (wC (.int 1))) (wCons (wOp fMod (wVar 2) (wVar 1)) wNil))))) (wCall sp_law_take (wCons (wVar 0) (wCons (wC (.int 4)) wNil)))))))
theorem v_law_far : Keeps w_law_far 2 sp_law_far := by
  rintro ads Q ⟨n, m, rfl, hn, m0, m1, q⟩
  refine ⟨fun k env M => ∃ (f mu : Int) (n' : Nat), env = [some (.m 0), some (.d (.int m)), some (.d (.int f)), some (.d (.int mu))] ∧ M = [.bag n'] ∧ 0 ≤ f ∧ 0 ≤ mu ∧ k = mu.toNat ∧ n' + mu.toNat ≤ n + m.toNat, ⟨m.toNat, 0, m, n, rfl, rfl, Int.le_refl 0, by omega, rfl, Nat.le_refl _⟩, ?_⟩
  rintro k env M ⟨f, mu, n', rfl, rfl, f0, mu0, rfl, hb⟩
  refine ite2 (fun h => ?_) (fun h => ?_)
  · have hmu : 0 < mu := of_decide_eq_true h
    refine ⟨.inl ⟨by decide, by decide⟩, nod1, n', 1000, rfl, by omega, by decide, by decide, fun a a0 a1 => ⟨⟨by decide, by decide⟩, (mu / 1000).toNat, by omega, _, mu / 1000, n' + 1, rfl, rfl, (by show 0 ≤ 1000 * f + a; omega), by omega, rfl, by omega⟩⟩
  · refine ⟨m0, m0, rfl, nod1, n', 4, rfl, by omega, by decide, by decide, fun d d0 d1 => ?_⟩
    have h1 : 0 ≤ f % m := Int.emod_nonneg _ (by omega)
    have h2 : f % m < m := Int.emod_lt_of_pos _ m0
    have h : d = 0 ∨ d = 1 ∨ d = 2 ∨ d = 3 := by omega
    rcases h with rfl | rfl | rfl | rfl
    · exact q (f % m) (n' + 1) h1 h2 (by omega)
    · exact q 0 (n' + 1) (by omega) m0 (by omega)
    · exact q (m - 1) (n' + 1) (by omega) (by omega) (by omega)
    · exact q (f % m) (n' + 1) h1 h2 (by omega)
end R
/-! Layer R, part 14: more rules: tuple(x), list(x), x in (ints), a tuple some times, isinstance with three types. -/
namespace L2
open PySem PySem.Spec PyProof.Rows
section
variable {at_ : Addr} {its : Array Value} {c m : Int} {n : Nat} {dd : Option Addr} {sl : Array (Option Value)} {tk : Tok}
/-- a tuple no times -/
theorem tupNone (h0 : (decide (m < -(2 ^ 63)) || decide (m ≥ 2 ^ 63)) = false) (h1 : (its.isEmpty || m == 1) = false) (h2 : (decide (m ≤ 0) || its.isEmpty) = true) :
    Meets (Builtin.«tuple.__mul__» ⟨[.ref at_, .int m tk], []⟩) (fun _ R s => s.heap.get? at_ = some ⟨.type "tuple", dd, .seq its n, sl⟩ ∧ R (.ok (.ret (.ref s.heap.objs.size))) { s with heap := s.heap.push { cls := .type "tuple", data := .seq #[] }, toks := s.toks }) :=
  .of_wp fun prog w A R st hh => by
    obtain ⟨x1, x2, x3, x4, x5⟩ := st
    obtain ⟨hat, hh⟩ := hh
    have ix := AutoSeq1.idx_int
    wp_walk using wpAny_loadPart' hat
    repeat (first
      | (refine wpAny_ite_false (decide_eq_false fun z => Bool.false_ne_true (h0.symm.trans z)) ?_; wp_walk using wpAny_loadPart' hat)
      | (refine wpAny_ite_false (decide_eq_false fun z => Bool.false_ne_true (h1.symm.trans z)) ?_; wp_walk using wpAny_loadPart' hat)
      | (refine wpAny_ite_true (decide_eq_true h2) ?_; wp_walk using wpAny_loadPart' hat))
    exact ⟨_, rfl, hh⟩
/-- a tuple once: itself -/
theorem tupOnce (h0 : (decide (m < -(2 ^ 63)) || decide (m ≥ 2 ^ 63)) = false) (h1 : (its.isEmpty || m == 1) = true) :
    Meets (Builtin.«tuple.__mul__» ⟨[.ref at_, .int m tk], []⟩) (fun _ R s => s.heap.get? at_ = some ⟨.type "tuple", dd, .seq its n, sl⟩ ∧ R (.ok (.ret (.ref at_))) s) :=
  .of_wp fun prog w A R st hh => by
    obtain ⟨x1, x2, x3, x4, x5⟩ := st
    obtain ⟨hat, hh⟩ := hh
    have ix := AutoSeq1.idx_int
    wp_walk using wpAny_loadPart' hat
    repeat (first
      | (refine wpAny_ite_false (decide_eq_false fun z => Bool.false_ne_true (h0.symm.trans z)) ?_; wp_walk using wpAny_loadPart' hat)
      | (refine wpAny_ite_true (decide_eq_true h1) ?_; wp_walk using wpAny_loadPart' hat))
    exact ⟨_, rfl, hh⟩
end
def rRepLow (K : PySem.W.Frag) : R2 := fun x y H Q => ∃ a m vs, x = .ref a ∧ y = .int m ∧ SqT K H a vs ∧ vs ≠ [] ∧ -1000000 ≤ m ∧ m ≤ 1 ∧ (m = 1 → Q (.ref a) H) ∧ (m ≤ 0 → ∀ q, H q = none → Q (.ref q) (upd H q (.tup [])))
theorem op_repLow {X : Cx} : OpR X (binaryOp .Mult) (rRepLow X.K) := by
  intro pins s σ H x y v u Q I rx ry ⟨a, m, vs, ex, ey, hT, hne, m0, m1, q1, q0⟩
  subst ex ey
  cases rx
  obtain ⟨t, rfl⟩ := ry
  obtain ⟨its, r, ⟨⟨cls, dd, data, sl⟩, ho, hc, n, hd⟩, hs⟩ := I.tuple hT
  simp only at hc hd
  subst hc hd
  have hi : its.toArray.isEmpty = false := by
    cases its with
    | nil => exact absurd (List.eq_nil_of_length_eq_zero r.length) hne
    | cons _ _ => rfl
  have g0 : (decide (m < -(2 ^ 63)) || decide (m ≥ 2 ^ 63)) = false := by
    have z1 : ¬ m < -(2 ^ 63) := by omega
    have z2 : ¬ m ≥ 2 ^ 63 := by omega
    rw [decide_eq_false z1, decide_eq_false z2]; rfl
  refine wpAny_binaryOp_repeat_ref (T := "tuple") (U := "int") (by decide) ⟨_, ho, rfl⟩ (fun s' => typeIs_int s' m t) noFill_tuple_mul F.fills_int_mul F.slot_int_rmul repeat_tuple F.slot_int_index.lookup ?_
  refine call_meets F.slot_int_rmul (typeIs_int s m t) F.entry_int_rmul (F.args_int_rmul_2 _ _) (int_rmul_tuple m t a its.toArray n dd sl) ⟨ho, rfl, ⟨_, ho, rfl⟩, ?_⟩
  by_cases h : m = 1
  · refine call_meets F.slot_tuple_mul ⟨_, ho, rfl⟩ F.entry_tuple_mul (F.args_tuple_mul_2 _ _) (tupOnce (dd := dd) (sl := sl) (n := n) g0 (by rw [hi, h]; rfl)) ⟨ho, ?_⟩
    exact ⟨.ref a, H, I, rfl, q1 h⟩
  · have h0 : m ≤ 0 := by omega
    refine call_meets F.slot_tuple_mul ⟨_, ho, rfl⟩ F.entry_tuple_mul (F.args_tuple_mul_2 _ _) (tupNone (dd := dd) (sl := sl) (n := n) g0 (by rw [hi, Bool.false_or]; exact beq_eq_false_iff_ne.mpr h) (by rw [decide_eq_true h0]; rfl)) ⟨ho, ?_⟩
    exact ⟨.ref s.heap.objs.size, _, I.laid (t' := s.toks) (o := .tup []) (fun b ob q => Heap.get?_push_of_some _ q) (Nat.le_refl _) ⟨Nat.zero_le _, [], .nil, IsTup.new _ _⟩, rfl, q0 h0 _ (I.hok.fresh (Nat.le_refl _))⟩
theorem opEither {X : Cx} {f : Value → Value → Sem Value} {r r' : R2} (h : OpR X f r) (h' : OpR X f r') : OpR X f (fun x y H Q => r x y H Q ∨ r' x y H Q) := by
  intro pins s σ H x y v u Q I rx ry q
  exact q.elim (h pins s σ H x y v u Q I rx ry) (h' pins s σ H x y v u Q I rx ry)
end L2
namespace R
open PySem L2 Evl
section
variable {K : PySem.W.Frag} {E : XK}
def fTupOf : DFC
  | [.d (.lst ds)], M, Q => Q (.d (.tup ds)) M
  | [.d (.tup ds)], M, Q => Q (.d (.tup ds)) M
  | _, _, _ => False
theorem okC_tupOf : OkC K (fun us H Q => ∃ a zs, us = [.ref a] ∧ ((SqL K H a zs ∧ ∀ p, H p = none → Q (.ref p) (upd H p (.tup zs))) ∨ (SqT K H a zs ∧ Q (.ref a) H))) fTupOf := by
  intro u G H as M xs ss Q Qv sr rs h fin
  unfold fTupOf at h
  split at h
  · obtain ⟨v, rfl, r⟩ := rs.one
    obtain ⟨p, ys, rfl, hp, hy⟩ := rep_lst.mp r.d
    exact ⟨p, ys, rfl, .inl ⟨SqL.of (sr.gh _ _ hp), fun l hl => fin.tup sr hy h hl⟩⟩
  · obtain ⟨v, rfl, r⟩ := rs.one
    obtain ⟨p, ys, rfl, hp, hy⟩ := rep_tup.mp r.d
    exact ⟨p, ys, rfl, .inr ⟨SqT.of (sr.gh _ _ hp), fin.here sr (s := .d (.tup _)) r h⟩⟩
  · exact h.elim
def fLstOf : DFC
  | [.d (.lst ds)], M, Q => Q (.d (.lst ds)) M
  | [.d (.tup ds)], M, Q => Q (.d (.lst ds)) M
  | _, _, _ => False
/-- the new list stays the def's own -/
def fLstOfO : DFC
  | [.d (.lst ds)], M, Q => Q (.m M.length) (M ++ [.lst ds])
  | [.d (.tup ds)], M, Q => Q (.m M.length) (M ++ [.lst ds])
  | _, _, _ => False
theorem okC_lstOf : OkC K (fun us H Q => ∃ a zs, us = [.ref a] ∧ (SqL K H a zs ∨ SqT K H a zs) ∧ ∀ p, H p = none → Q (.ref p) (upd H p (.lst zs))) fLstOf := by
  intro u G H as M xs ss Q Qv sr rs h fin
  unfold fLstOf at h
  split at h
  · obtain ⟨v, rfl, r⟩ := rs.one
    obtain ⟨p, ys, rfl, hp, hy⟩ := rep_lst.mp r.d
    exact ⟨p, ys, rfl, .inl (SqL.of (sr.gh _ _ hp)), fun l hl => fin.lst sr hy h hl⟩
  · obtain ⟨v, rfl, r⟩ := rs.one
    obtain ⟨p, ys, rfl, hp, hy⟩ := rep_tup.mp r.d
    exact ⟨p, ys, rfl, .inr (SqT.of (sr.gh _ _ hp)), fun l hl => fin.lst sr hy h hl⟩
  · exact h.elim
theorem okC_lstOfO : OkC K (fun us H Q => ∃ a zs, us = [.ref a] ∧ (SqL K H a zs ∨ SqT K H a zs) ∧ ∀ p, H p = none → Q (.ref p) (upd H p (.lst zs))) fLstOfO := by
  intro u G H as M xs ss Q Qv sr rs h fin
  unfold fLstOfO at h
  split at h
  · obtain ⟨v, rfl, r⟩ := rs.one
    obtain ⟨p, ys, rfl, hp, hy⟩ := rep_lst.mp r.d
    exact ⟨p, ys, rfl, .inl (SqL.of (sr.gh _ _ hp)), fun l hl => fin.own sr hy h hl⟩
  · obtain ⟨v, rfl, r⟩ := rs.one
    obtain ⟨p, ys, rfl, hp, hy⟩ := rep_tup.mp r.d
    exact ⟨p, ys, rfl, .inr (SqT.of (sr.gh _ _ hp)), fun l hl => fin.own sr hy h hl⟩
  · exact h.elim
theorem bt_tuple : bootBuiltins "tuple" = some (.type "tuple") := by decide +kernel
theorem bt_list : bootBuiltins "list" = some (.type "list") := by decide +kernel
/-- a tuple some times -/
def fRep : DF
  | .d (.tup ds), .d (.int k), M, Q => (ds ≠ [] ∧ ds.length ≤ 1000 ∧ -1000000 ≤ k ∧ k ≤ 1000) ∧ Q (.d (.tup (List.replicate k.toNat ds).flatten)) M
  | _, _, _, _ => False
theorem reps_many {G : Hp} {ds : List D} {xs : List V} (r : Reps G ds xs) : ∀ k : Nat, Reps G (List.replicate k ds).flatten (List.replicate k xs).flatten
  | 0 => reps_nil.mpr rfl
  | k + 1 => by
    rw [List.replicate_succ, List.replicate_succ, List.flatten_cons, List.flatten_cons]
    exact r.append (reps_many r k)
theorem okR_rep : OkR K (fun x y H Q => rRepT K x y H Q ∨ rRepLow K x y H Q) fRep := by
  intro u G H as M x y sx sy Q Qv sr rx ry h fin
  unfold fRep at h
  split at h
  · rename_i ds k
    obtain ⟨p, xs, rfl, hp, hxs⟩ := rep_tup.mp rx.d
    cases rep_int.mp ry.d
    obtain ⟨⟨h1, h2, h3, h4⟩, h⟩ := h
    have ne : xs ≠ [] := fun e => h1 (by have := hxs.len; rw [e] at this; exact List.length_eq_zero_iff.mp this.symm)
    by_cases hk : 2 ≤ k
    · refine .inl ⟨p, k, xs, rfl, rfl, SqT.of (sr.gh _ _ hp), ne, hk, h4, by rw [hxs.len]; exact h2, fun l hl => fin.tup sr (reps_many hxs _) h hl⟩
    · refine .inr ⟨p, k, xs, rfl, rfl, SqT.of (sr.gh _ _ hp), ne, h3, by omega, fun e => ?_, fun e l hl => ?_⟩
      · refine fin.here sr (s := .d (.tup _)) ?_ h
        subst e
        show Rep G (.tup (List.replicate 1 ds).flatten) (.ref p)
        have : (List.replicate 1 ds).flatten = ds := by simp
        rw [this]; exact rx.d
      · have e0 : k.toNat = 0 := by omega
        rw [e0] at h
        exact fin.tup sr (ds := []) (reps_nil.mpr rfl) h hl
  · exact h.elim
/-- an int among ints -/
def fIn : DF
  | .d (.int i), .d (.tup ds), M, Q => ∃ ns : List Int, ds = ns.map D.int ∧ Q (.d (.bl (ns.any fun y => y == i))) M
  | .d (.int i), .d (.lst ds), M, Q => ∃ ns : List Int, ds = ns.map D.int ∧ Q (.d (.bl (ns.any fun y => y == i))) M
  | _, _, _, _ => False
def fNin : DF
  | .d (.int i), .d (.tup ds), M, Q => ∃ ns : List Int, ds = ns.map D.int ∧ Q (.d (.bl (!ns.any fun y => y == i))) M
  | .d (.int i), .d (.lst ds), M, Q => ∃ ns : List Int, ds = ns.map D.int ∧ Q (.d (.bl (!ns.any fun y => y == i))) M
  | _, _, _, _ => False
theorem inV_ints (i : Int) (ns : List Int) : inV (.int i) (ns.map V.int) = ns.any fun y => y == i := by
  unfold inV
  rw [List.any_map]
  rfl
theorem flat_ints (ns : List Int) : (ns.map V.int).all flatV = true := by
  rw [List.all_map, List.all_eq_true]
  intro n _
  rfl
theorem okR_in : OkR K (rIn K false) fIn := by
  intro u G H as M x y sx sy Q Qv sr rx ry h fin
  unfold fIn at h
  split at h
  · cases rep_int.mp rx.d
    obtain ⟨p, xs, rfl, hp, hxs⟩ := rep_tup.mp ry.d
    obtain ⟨ns, rfl, h⟩ := h
    cases reps_ints.mp hxs
    refine ⟨p, _, rfl, .inr (SqT.of (sr.gh _ _ hp)), rfl, flat_ints ns, ?_⟩
    rw [if_neg (by decide), inV_ints]
    exact fin.here sr (s := .d (.bl _)) srp_bl h
  · cases rep_int.mp rx.d
    obtain ⟨p, xs, rfl, hp, hxs⟩ := rep_lst.mp ry.d
    obtain ⟨ns, rfl, h⟩ := h
    cases reps_ints.mp hxs
    refine ⟨p, _, rfl, .inl (SqL.of (sr.gh _ _ hp)), rfl, flat_ints ns, ?_⟩
    rw [if_neg (by decide), inV_ints]
    exact fin.here sr (s := .d (.bl _)) srp_bl h
  · exact h.elim
theorem okR_nin : OkR K (rIn K true) fNin := by
  intro u G H as M x y sx sy Q Qv sr rx ry h fin
  unfold fNin at h
  split at h
  · cases rep_int.mp rx.d
    obtain ⟨p, xs, rfl, hp, hxs⟩ := rep_tup.mp ry.d
    obtain ⟨ns, rfl, h⟩ := h
    cases reps_ints.mp hxs
    refine ⟨p, _, rfl, .inr (SqT.of (sr.gh _ _ hp)), rfl, flat_ints ns, ?_⟩
    rw [if_pos rfl, inV_ints]
    exact fin.here sr (s := .d (.bl _)) srp_bl h
  · cases rep_int.mp rx.d
    obtain ⟨p, xs, rfl, hp, hxs⟩ := rep_lst.mp ry.d
    obtain ⟨ns, rfl, h⟩ := h
    cases reps_ints.mp hxs
    refine ⟨p, _, rfl, .inl (SqL.of (sr.gh _ _ hp)), rfl, flat_ints ns, ?_⟩
    rw [if_pos rfl, inV_ints]
    exact fin.here sr (s := .d (.bl _)) srp_bl h
  · exact h.elim
/-! ### isinstance with three types -/
def wIsi3 (T1 T2 T3 : BT) (we : DW) : DW := fun X env M Q => we X env M fun s M1 => match s with
  | .d d => Q (.d (.bl (isiD d T1 || (isiD d T2 || isiD d T3)))) M1
  | _ => False
theorem kit3 (d : D) (T1 T2 T3 : BT) : PySem.W.kitAny K (.type (dTy d)) [.type T1.name, .type T2.name, .type T3.name] = some (isiD d T1 || (isiD d T2 || isiD d T3)) := by
  refine kitAny_cons (kit_ty (isi_ok d T1)) (fun e => ?_) (fun e => by rw [e]; rfl)
  rw [e, Bool.false_or]
  refine kitAny_cons (kit_ty (isi_ok d T2)) (fun e => ?_) (fun e => by rw [e]; rfl)
  rw [e, Bool.false_or]
  exact kitAny_cons (kit_ty (isi_ok d T3)) (fun e => by rw [e]; exact kitAny_nil) (fun e => e)
theorem okE_isi3 {T1 T2 T3 : BT} {ta : TE} {wa : DW} (ha : OkE K E ta wa) : OkE K E (tCB (rIsiT K) (tCons ta (tCons (tTup (tCons (tC (.ty T1.name)) (tCons (tC (.ty T2.name)) (tCons (tC (.ty T3.name)) tNil)))) tNil))) (wIsi3 T1 T2 T3 wa) := by
  intro u G H as M env σ Q Qv c h fin
  refine ha u G H as M env σ _ _ c h fun v G1 H1 as1 M1 s sr1 l1 rv q1 => ?_
  split at q1
  · rename_i d
    refine ⟨Nat.le_trans (show 3 ≤ 1000 by decide) line1000, fun p hp => ?_⟩
    have rd : Rep _ d v := rv.d.mono (sr1.le_laid (o := .tup [.ty T1.name, .ty T2.name, .ty T3.name]) hp).ex
    exact ⟨v, p, _, .type (dTy d), _, _, rfl, upd_same, .cons (.ty _) (.cons (.ty _) (.cons (.ty _) .nil)), Rep.ty (sr1.laid hp).gh rd, kit3 d T1 T2 T3, (fin.from (l1.trans (sr1.le_laid hp))).here (sr1.laid hp) (s := .d (.bl _)) srp_bl q1⟩
  · exact q1.elim
end
/-! ### a test with an own list lent -/
def isBD : MO → Bool
  | .bag _ => true
  | .dead => true
  | _ => false
def wBorT (i : Nat) (t : DTW) : DTW := fun X env M Q => match env[i]? with
  | some (some (.m k)) => (match M[k]? with
    | some (.lst ds) => (M.set k .dead).all isBD = true ∧ t X (env.set i (some (.d (.lst ds)))) (M.set k .dead) fun b M2 => M2.take M.length = M.set k .dead ∧ Q b M
    | _ => False)
  | _ => False
section
variable {K : PySem.W.Frag} {E : XK}
def lessG (G : Hp) (p : Addr) : Hp := fun a => if a = p then none else G a
theorem lessG_ne {G : Hp} {p a : Addr} (h : a ≠ p) : lessG G p a = G a := if_neg h
theorem SR.unlend {u : Wr} {G G2 H H2 : Hp} {as as2 : List Addr} {M M2 : Mem} {k : Nat} {p : Addr} {xs : List V} {ds : List D} (sr : SR u G H as M) (hp : as[k]? = some p) (hm : M[k]? = some (.lst ds)) (hx : Reps G ds xs) (sr2 : SR u G2 H2 as2 M2) (l : Le (upd G p (.lst xs)) as G2 as2)
    (hM : M2.take M.length = M.set k .dead) (hb : (M.set k .dead).all isBD = true) : SR u (lessG G2 p) H2 as M ∧ Le G as (lessG G2 p) as := by
  obtain ⟨t, rfl⟩ := l.pre
  have hn : u.as0.length ≤ M.length := by
    obtain ⟨t0, e⟩ := sr.pre
    rw [← sr.len, e, List.length_append]; omega
  have sr3 := sr2.trim M.length hn
  rw [hM, ← sr.len, List.take_left] at sr3
  have hg : G p = none := (sr.ms k p _ hp hm).1
  have gg : Ex G G2 := (Ex.new hg).trans l.ex
  have gl : Ex G (lessG G2 p) := fun a o e => by
    have : a ≠ p := by rintro rfl; rw [hg] at e; cases e
    rw [lessG_ne this]; exact gg a o e
  have lg : ∀ a o, lessG G2 p a = some o → G2 a = some o := fun a o e => by
    by_cases q : a = p
    · subst q
      have e' : (if a = a then none else G2 a) = some o := e
      rw [if_pos rfl] at e'; cases e'
    · rw [lessG_ne q] at e; exact e
  have ln : ∀ a, G2 a = none → lessG G2 p a = none := fun a e => by
    cases q : lessG G2 p a with
    | none => rfl
    | some o => rw [lg a o q] at e; cases e
  have hp2 : G2 p = some (.lst xs) := l.ex _ _ upd_same
  refine ⟨⟨fun a o e => sr3.gh a o (lg a o e), sr.g0.trans gl, sr.nd, sr.len, fun j a o h1 h2 => ?_, sr3.there, sr3.fr, sr3.th, fun a h1 h2 => ln a (sr3.nf a h1 h2), sr.wr, sr.pre, fun a o h => ⟨(sr3.hd a o h).1, ln a (sr3.hd a o h).2.1, (sr.hd a o h).2.2⟩, fun t ht => ?_⟩, ⟨gl, [], by simp⟩⟩
  · by_cases hj : j = k
    · subst hj
      cases hp.symm.trans h1
      cases hm.symm.trans h2
      exact ⟨if_pos rfl, (sr.ms j p _ hp hm).2.1, xs, sr3.gh _ _ hp2, hx.mono gl⟩
    · have h3 : (M.set k .dead)[j]? = some o := by rw [List.getElem?_set_ne (Ne.symm hj)]; exact h2
      have ho : isBD o = true := List.all_eq_true.mp hb o (List.mem_of_getElem? h3)
      have q := sr3.ms j a o h1 h3
      cases o with
      | lst _ => cases ho
      | ext _ => cases ho
      | bag n =>
        obtain ⟨q1, q2⟩ := q
        exact ⟨ln a q1, q2⟩
      | dead => trivial
      | raw o => cases ho
      | toks ts => cases ho
  · obtain ⟨⟨t1, ps, t2, t3, t4⟩, t5⟩ := sr3.tb t ht
    refine ⟨⟨ln _ t1, ps, t2, t3, fun pos cv hc => ?_⟩, t5⟩
    obtain ⟨c, e1, e2⟩ := t4 pos cv hc
    have : c ≠ p := by
      rintro rfl
      rw [hp2] at e2
      unfold LamX.CodeO at e2
      cases e2
    exact ⟨c, e1, by rw [lessG_ne this]; exact e2⟩
theorem okT_bor {i : Nat} {t : TT} {w : DTW} (h1 : OkT K E t w) : OkT K E t (wBorT i w) := by
  intro u G H as M env σ Q Qv c h fin
  unfold wBorT at h
  split at h
  · rename_i k ek
    split at h
    · rename_i ds em
      obtain ⟨hb, h⟩ := h
      obtain ⟨v, e1, p, hp, rfl⟩ := c.er.get i _ ek
      obtain ⟨xs, sr', ex, rep⟩ := c.sr.freeze hp em
      have l : Le G as (upd G p (.lst xs)) as := ⟨ex, [], by simp⟩
      have er : ER K as (upd G p (.lst xs)) (env.set i (some (.d (.lst ds)))) σ := by
        have q := (c.er.mono l).set i (s := .d (.lst ds)) (v := .ref p) rep
        rw [set_id e1] at q
        exact q
      refine h1 u _ H as _ _ σ _ _ ⟨c.eE, c.xok, sr', er⟩ h fun b G2 H2 as2 M2 sr2 l2 q2 => ?_
      obtain ⟨hM, q⟩ := q2
      have hx : Reps G ds xs := by
        obtain ⟨_, _, ys, hy, hr⟩ := c.sr.ms k p _ hp em
        have : xs = ys := by
          have z := sr'.gh p _ upd_same
          rw [hy] at z
          cases z; rfl
        rw [this]; exact hr
      obtain ⟨s3, l3⟩ := c.sr.unlend hp em hx sr2 l2 hM hb
      exact fin b _ H2 as M s3 l3 q
    · exact h.elim
  · exact h.elim
end
section
variable {X : Cx} {E : XK} {a b e : Expr} {wa wb we : DW} {pos : Pos}
theorem d_rep (ha : DE X E a wa) (hb : DE X E b wb) : DE X E (.BinOp a .Mult b pos) (wOp fRep wa wb) := d_op (opEither op_repT op_repLow) okR_rep ha hb
theorem d_in (ha : DE X E a wa) (hb : DE X E b wb) (hm : behindInMarks .In b = false := by rfl) : DE X E (.Compare a [.In] [b] pos) (wOp fIn wa wb) := d_cmp op_in_seq okR_in ha hb hm
theorem d_nin (ha : DE X E a wa) (hb : DE X E b wb) (hm : behindInMarks .NotIn b = false := by rfl) : DE X E (.Compare a [.NotIn] [b] pos) (wOp fNin wa wb) := d_cmp op_notIn_seq okR_nin ha hb hm
theorem t_in (ha : DE X E a wa) (hb : DE X E b wb) (hm : behindInMarks .In b = false := by rfl) : DT X E (.Compare a [.In] [b] pos) (wTst (wOp fIn wa wb)) := t_cmp op_in_seq okR_in ha hb hm
theorem t_nin (ha : DE X E a wa) (hb : DE X E b wb) (hm : behindInMarks .NotIn b = false := by rfl) : DT X E (.Compare a [.NotIn] [b] pos) (wTst (wOp fNin wa wb)) := t_cmp op_notIn_seq okR_nin ha hb hm
theorem t_bor (i : Nat) {w : DTW} (h : DT X E e w) : DT X E e (wBorT i w) := .mk' h.pe (okT_bor okTW)
theorem d_isi3 {T1 T2 T3 : BT} {n1 n2 n3 : Str} {k1 : Nat} {p1 p2 p3 p4 p5 : Pos} (hm : X.mg "isinstance" = none) (h1 : X.mg n1 = none) (h2 : X.mg n2 = none) (h3 : X.mg n3 = none)
    (v1 : bootBuiltins n1 = some (.type T1.name)) (v2 : bootBuiltins n2 = some (.type T2.name)) (v3 : bootBuiltins n3 = some (.type T3.name)) (ha : DE X E e we) (hg : Gl X "isinstance" := by rfl) (g1 : Gl X n1 := by rfl) (g2 : Gl X n2 := by rfl) (g3 : Gl X n3 := by rfl)
    (m1 : n1 ≠ "__name__" := by decide) (m2 : n2 ≠ "__name__" := by decide) (m3 : n3 ≠ "__name__" := by decide) (b1 : (n1 == ("__debug__" : Str)) = false := by decide) (b2 : (n2 == ("__debug__" : Str)) = false := by decide) (b3 : (n3 == ("__debug__" : Str)) = false := by decide)
    (s1 : starEach [e, .Tuple [.Name n1 p1, .Name n2 p2, .Name n3 p3] k1 p4] X.env = (false, eval e X.env) :: starEach [.Tuple [.Name n1 p1, .Name n2 p2, .Name n3 p3] k1 p4] X.env := by rfl)
    (s2 : starEach [.Tuple [.Name n1 p1, .Name n2 p2, .Name n3 p3] k1 p4] X.env = (false, eval (.Tuple [.Name n1 p1, .Name n2 p2, .Name n3 p3] k1 p4) X.env) :: starEach [] X.env := by rfl)
    (s3 : starEach [.Name n1 p1, .Name n2 p2, .Name n3 p3] X.env = (false, eval (.Name n1 p1) X.env) :: starEach [.Name n2 p2, .Name n3 p3] X.env := by rfl) (s4 : starEach [.Name n2 p2, .Name n3 p3] X.env = (false, eval (.Name n2 p2) X.env) :: starEach [.Name n3 p3] X.env := by rfl) (s5 : starEach [.Name n3 p3] X.env = (false, eval (.Name n3 p3) X.env) :: starEach [] X.env := by rfl)
    (hpl : (backTo pos (starEach [.Tuple [.Name n1 p1, .Name n2 p2, .Name n3 p3] k1 p4] X.env)).any (·.1) = false := by rfl) :
    DE X E (.Call (.Name "isinstance" p5) [e, .Tuple [.Name n1 p1, .Name n2 p2, .Name n3 p3] k1 p4] [] pos) (wIsi3 T1 T2 T3 we) :=
  .mk' (pe_callB call_isiT hg hm (by decide +kernel) (pa_cons ha.pe (pa_cons (pe_tup (pa_cons (pe_bltn (v := .ty T1.name) g1 h1 v1 rfl m1 b1) (pa_cons (pe_bltn (v := .ty T2.name) g2 h2 v2 rfl m2 b2) (pa_cons (pe_bltn (v := .ty T3.name) g3 h3 v3 rfl m3 b3) pa_nil s5) s4) s3)) pa_nil s2) s1) (by decide) (by decide) s1 hpl) (okE_isi3 okW)
end
end R
/-! Layer R, part 15: what the laws ask with: the same values, months, costs. -/
namespace R
open PySem L2 Evl
/-- ints, bools, None, and lists and tuples of such, less than n deep -/
def Pl : Nat → D → Prop
  | 0, _ => False
  | _ + 1, .non => True
  | _ + 1, .bl _ => True
  | _ + 1, .int _ => True
  | _ + 1, .str x => PyData.canLay0 (.str x) = true
  | n + 1, .tup ds => ds.length ≤ 16000000 ∧ ∀ d ∈ ds, Pl n d
  | n + 1, .lst ds => ds.length ≤ 16000000 ∧ ∀ d ∈ ds, Pl n d
def sp_same (n : Nat) : DSpec := fun ads Q => ∃ a : D, ads = [.d a, .d a] ∧ Pl n a ∧ Q (.d (.bl true)) []
abbrev sp_law_same : DSpec := sp_same 4
theorem l_same (n : Nat) : ∀ ads Q, sp_same n ads Q → ads.length = 2 := by
  rintro _ _ ⟨_, rfl, _⟩
  rfl
theorem no_same : ∀ ads Q, ¬ sp_same 0 ads Q := fun _ _ ⟨_, _, h, _⟩ => h
theorem zip_self : ∀ ds : List D, zipS ds ds = ds.map fun d => S.d (.tup [d, d])
  | [] => rfl
  | d :: ds => by
    show S.d (.tup [d, d]) :: zipS ds ds = _
    rw [zip_self ds]; rfl
def w_law_same (sp : DSpec) : DSw := (wSeq (wIfS (wOrT (wAndT (wTst (wIsi1 .list (wVar 0))) (wTst (wIsi1 .list (wVar 1)))) (wAndT (wTst (wIsi1 .tuple (wVar 0))) (wTst (wIsi1 .tuple (wVar 1))))) (wRet (wAndV (wOp fEq (wCB fLen (wCons (wVar 0) wNil)) (wCB fLen (wCons (wVar 1) wNil))) (wCB fAll (wCons (wLc (wiZip (wCons (wVar 0) (wCons (wVar 1) wNil))) (wgTup 2 (wgCons (wgName 2) (wgCons (wgName 3) wgNil))) wYes (wCall sp (wCons (wVar 2) (wCons (wVar 3) wNil))) [2, 3]) wNil)))) wNext) (wSeq (wIfS (wOrT (wTst (wIsi3 .bool .list .tuple (wVar 0))) (wTst (wIsi3 .bool .list .tuple (wVar 1)))) (wRet (wAndV (wIsi1 .bool (wVar 0)) (wAndV (wIsi1 .bool (wVar 1)) (wOp fEq (wVar 0) (wVar 1))))) wNext) (wSeq (wIfS (wOrT (wTst (wIsi1 .int (wVar 0))) (wTst (wIsi1 .int (wVar 1)))) (wRet (wAndV (wIsi1 .int (wVar 0)) (wAndV (wIsi1 .int (wVar 1)) (wOp fEq (wVar 0) (wVar 1))))) wNext) (wSeq (wIfS (wOrT (wTst (wIsi1 .str (wVar 0))) (wTst (wIsi1 .str (wVar 1)))) (wRet (wAndV (wIsi1 .str (wVar 0)) (wAndV (wIsi1 .str (wVar 1)) (wOp fEq (wVar 0) (wVar 1))))) wNext) (wRet (wAndV (wOp fIsN (wVar 0) (wC .non)) (wOp fIsN (wVar 1) (wC .non))))))))
theorem v_same (n : Nat) : Keeps (w_law_same (sp_same n)) 2 (sp_same (n + 1)) := by
  rintro ads Q ⟨a, rfl, pl, q⟩
  cases a with
  | non => exact q
  | bl v => exact ⟨trivial, trivial, by rw [show eqD (.bl v) (.bl v) = true by cases v <;> rfl]; exact q⟩
  | int v => exact ⟨trivial, trivial, by rw [show eqD (.int v) (.int v) = true by show (v == v) = true; simp]; exact q⟩
  | str v => exact ⟨pl, pl, by rw [show eqD (.str v) (.str v) = true by show (v == v) = true; simp]; exact q⟩
  | tup ds =>
    refine ⟨trivial, trivial, if_eq rfl ?_⟩
    show dLc _ _ _ _ _ (zipS ds ds) [] [] _
    rw [zip_self]
    have hl := pl.1
    refine dLc_map ds (fun d => S.d (.tup [d, d])) (fun _ => .bl true) (by show 0 + ds.length ≤ 16000000; omega) (fun d hd k hk => ⟨rfl, nod0, d, rfl, pl.2 d hd, hk⟩) ⟨ds.map fun _ => true, by rw [List.map_map]; rfl, ?_⟩
    have e : (ds.map fun _ => true).all id = true := by simp
    rw [e]
    exact q
  | lst ds =>
    refine ⟨trivial, trivial, if_eq rfl ?_⟩
    show dLc _ _ _ _ _ (zipS ds ds) [] [] _
    rw [zip_self]
    have hl := pl.1
    refine dLc_map ds (fun d => S.d (.tup [d, d])) (fun _ => .bl true) (by show 0 + ds.length ≤ 16000000; omega) (fun d hd k hk => ⟨rfl, nod0, d, rfl, pl.2 d hd, hk⟩) ⟨ds.map fun _ => true, by rw [List.map_map]; rfl, ?_⟩
    have e : (ds.map fun _ => true).all id = true := by simp
    rw [e]
    exact q
theorem call_same {a : D} {Q : DK} (h : Pl 4 a) (q : Q (.d (.bl true)) []) : sp_law_same [.d a, .d a] Q := ⟨a, rfl, h, q⟩
theorem call_same2 {a b : D} {Q : DK} (e : b = a) (h : Pl 4 a) (q : Q (.d (.bl true)) []) : sp_law_same [.d a, .d b] Q := ⟨a, by rw [e], h, q⟩
section
variable {P : Program} {w0 : World} {K : PySem.W.Frag} {mg : Str → Option Value} {base : Heap}
theorem fn_never {k : Nat} {f : Addr} {sp : DSpec} (h : ∀ ads Q, ¬ sp ads Q) : FnR P w0 K mg base CX0 k f (spOf K sp) :=
  fun _ _ _ _ _ _ _ _ _ _ _ ⟨_, _, _, _, _, _, _, _, hs, _⟩ => absurd hs (h _ _)
end
def sp_law_in : DSpec := fun ads Q => ∃ d lo hi, ads = [.d d, .d (.int lo), .d (.int hi)] ∧ Q (.d (.bl (inR d lo hi))) []
theorem l_law_in : ∀ ads Q, sp_law_in ads Q → ads.length = 3 := by rintro _ _ ⟨_, _, _, rfl, _⟩; rfl
def w_law_in : DSw := (wRet (wAndV (wIsi1 .int (wVar 0)) (wAndV (wNotV (wIsi1 .bool (wVar 0))) (wChain fLe fLe (wVar 1) (wVar 0) (wVar 2)))))
theorem v_law_in : Keeps w_law_in 0 sp_law_in := v_in_range
/-! ### months and costs -/
def sp_law_months : DSpec := fun ads Q => ∃ (p : Plan) (us : List Int) (k : Int), ads = [.d p.D, .d (usD us), .d (.int k)] ∧ p.Ok ∧ us.length ≤ 100000 ∧ Q (.d (.tup [.lst ((playM p us k).map Row.D), .int (kps p.data p.cap us k)])) []
theorem l_law_months : ∀ ads Q, sp_law_months ads Q → ads.length = 3 := by rintro _ _ ⟨_, _, _, rfl, _⟩; rfl
def w_law_months : DSw := (wSeq (wAsg (wVar 0) (wgTup 4 (wgCons (wgName 5) (wgCons (wgName 6) (wgCons (wgName 7) (wgCons (wgName 8) wgNil)))))) (wSeq (wAsg (wLstO wNil) (wgName 3)) (wSeq (wFor (wiTup (wVar 1)) (wgName 4) (wSeq (wAsg (wOp fAdd (wVar 2) (wVar 6)) (wgName 9)) (wSeq (wAsg (wIf (wTst (wOp fGt (wVar 4) (wVar 9))) (wOp fSub (wVar 4) (wVar 9)) (wC (.int 0))) (wgName 10)) (wSeq (wAsg (wIf (wTst (wOp fLt (wVar 4) (wVar 9))) (wOp fSub (wVar 9) (wVar 4)) (wC (.int 0))) (wgName 11)) (wSeq (wAsg (wIf (wTst (wOp fLt (wVar 11) (wVar 7))) (wVar 11) (wVar 7)) (wgName 2)) (wDrop (wAppend (wVar 3) (wTup (wCons (wOp fAdd (wVar 5) (wOp fMul (wVar 8) (wVar 10))) (wCons (wVar 2) (wCons (wOp fSub (wVar 11) (wVar 2)) (wCons (wVar 10) wNil)))))))))))) (wFrz 3 (wRet (wTup (wCons (wVar 3) (wCons (wVar 2) wNil))))))))
theorem kps_snoc (p : Plan) (us : List Int) (u k : Int) : kps p.data p.cap (us ++ [u]) k = nxM p.data p.cap (kps p.data p.cap us k) u := by
  rw [kps_app]; rfl
theorem v_law_months : Keeps w_law_months 9 sp_law_months := by
  rintro ads Q ⟨p, us, k, rfl, ok, hl, q⟩
  have cm := ok.pm
  refine ⟨rfl, rfl, fun i env M => ∃ x4 x9 x10 x11, env = [some (.d p.D), some (.d (usD us)), some (.d (.int (kps p.data p.cap (us.take i) k))), some (.m 0), x4, some (.d (.int p.fee)), some (.d (.int p.data)), some (.d (.int p.cap)), some (.d (.int p.price)), x9, x10, x11] ∧ M = [.lst ((playM p (us.take i) k).map Row.D)], ⟨_, _, _, _, rfl, rfl⟩, ?_, ?_⟩
  · rintro i s env M hs ⟨x4, x9, x10, x11, rfl, rfl⟩
    obtain ⟨u, hu, rfl⟩ := dmap_get hs
    have e1 := take_suc hu
    have hlen : ((playM p (us.take i) k).map Row.D).length + 1 ≤ 16000000 := by rw [List.length_map, playM_len, List.length_take]; omega
    have fin : ∀ (F L K' : Int), F = max 0 (u - kps p.data p.cap (us.take i) k - p.data) → L = max 0 (kps p.data p.cap (us.take i) k + p.data - u) → K' = min p.cap L → ∃ x4 x9 x10 x11,
        [some (S.d p.D), some (.d (usD us)), some (.d (.int K')), some (.m 0), some (.d (.int u)), some (.d (.int p.fee)), some (.d (.int p.data)), some (.d (.int p.cap)), some (.d (.int p.price)), some (.d (.int (kps p.data p.cap (us.take i) k + p.data))), some (.d (.int F)), some (.d (.int L))] =
          [some (.d p.D), some (.d (usD us)), some (.d (.int (kps p.data p.cap (us.take (i + 1)) k))), some (.m 0), x4, some (.d (.int p.fee)), some (.d (.int p.data)), some (.d (.int p.cap)), some (.d (.int p.price)), x9, x10, x11] ∧
        [MO.lst ((playM p (us.take i) k).map Row.D ++ [.tup [.int (p.fee + p.price * F), .int K', .int (L - K'), .int F]])] = [.lst ((playM p (us.take (i + 1)) k).map Row.D)] := by
      intro F L K' hF hL hK
      refine ⟨some (.d (.int u)), some (.d (.int (kps p.data p.cap (us.take i) k + p.data))), some (.d (.int F)), some (.d (.int L)), ?_, ?_⟩
      · rw [e1, kps_snoc]
        have : nxM p.data p.cap (kps p.data p.cap (us.take i) k) u = K' := by unfold nxM; omega
        rw [this]
      · rw [e1, playM_snoc, List.map_append, kAfter_eq]
        have e2 : (monthM p (kps p.data p.cap (us.take i) k) u).D = .tup [.int (p.fee + p.price * F), .int K', .int (L - K'), .int F] := by
          show D.tup [.int (p.fee + p.price * max 0 (u - kps p.data p.cap (us.take i) k - p.data)), .int (min p.cap (kps p.data p.cap (us.take i) k + p.data - u + max 0 (u - kps p.data p.cap (us.take i) k - p.data))), .int (max 0 (kps p.data p.cap (us.take i) k + p.data - u + max 0 (u - kps p.data p.cap (us.take i) k - p.data) - p.cap)), .int (max 0 (u - kps p.data p.cap (us.take i) k - p.data))] = _
          have c0 := ok.c0
          rw [← hF]
          have h1 : min p.cap (kps p.data p.cap (us.take i) k + p.data - u + F) = K' := by omega
          have h2 : max 0 (kps p.data p.cap (us.take i) k + p.data - u + F - p.cap) = L - K' := by omega
          rw [h1, h2]
        show _ = [MO.lst (_ ++ [(monthM p (kps p.data p.cap (us.take i) k) u).D])]
        rw [e2]
    refine ifd (fun h1 => ?_) (fun h1 => ?_) <;> refine ifd (fun h2 => ?_) (fun h2 => ?_) <;> refine ifd (fun h3 => ?_) (fun h3 => ?_) <;> exact ⟨.inl cm, rfl, hlen, fin _ _ _ (by omega) (by omega) (by omega)⟩
  · rintro env M ⟨x4, x9, x10, x11, rfl, rfl⟩
    rw [List.length_map, List.length_map, List.take_length]
    exact ⟨rfl, q⟩
def sp_law_cost : DSpec := fun ads Q => ∃ (p : Plan) (us : List Int), ads = [.d p.D, .d (usD us)] ∧ p.Ok ∧ us.length ≤ 100000 ∧ Q (.d (.int (costM p us))) []
theorem l_law_cost : ∀ ads Q, sp_law_cost ads Q → ads.length = 2 := by rintro _ _ ⟨_, _, rfl, _⟩; rfl
def w_law_cost : DSw := (wRet (wCB fSum (wCons (wLc (wiLst (wOp fIx (wCall sp_law_months (wCons (wVar 0) (wCons (wVar 1) (wCons (wC (.int 0)) wNil)))) (wC (.int 0)))) (wgName 2) wYes (wOp fIx (wVar 2) (wC (.int 0))) [2]) wNil)))
theorem v_law_cost : Keeps w_law_cost 1 sp_law_cost := by
  rintro ads Q ⟨p, us, rfl, ok, hl, q⟩
  refine ⟨nod0, p, us, 0, rfl, ok, hl, ?_⟩
  refine dLc_dmap (playM p us 0) Row.D (fun r => .int r.cost) (by rw [playM_len]; omega) (fun r _ k hk => hk) ?_
  exact ⟨(playM p us 0).map Row.cost, by rw [List.map_map]; rfl, q⟩
theorem zip_get : ∀ (as bs : List D) (i : Nat) (s : S), (zipS as bs)[i]? = some s → ∃ a b, as[i]? = some a ∧ bs[i]? = some b ∧ s = .d (.tup [a, b])
  | [], bs, i, s, h => by unfold zipS at h; simp at h
  | a :: as, [], i, s, h => by unfold zipS at h; simp at h
  | a :: as, b :: bs, 0, s, h => ⟨a, b, rfl, rfl, (Option.some.inj h).symm⟩
  | a :: as, b :: bs, i + 1, s, h => zip_get as bs i s h
theorem play_take (p : Plan) : ∀ (us : List Int) (k : Int) (i : Nat), playM p (us.take i) k = (playM p us k).take i
  | [], k, i => by simp [playM]
  | u :: us, k, 0 => rfl
  | u :: us, k, i + 1 => by
    show monthM p k u :: playM p (us.take i) _ = monthM p k u :: (playM p us _).take i
    rw [play_take p us]
theorem cost_step (p : Plan) (us : List Int) {i : Nat} {r : Row} (h : (playM p us 0)[i]? = some r) : costM p (us.take (i + 1)) = costM p (us.take i) + r.cost := by
  unfold costM
  rw [play_take, play_take, take_suc h, List.map_append, List.sum_append]
  simp
theorem list_get {α : Type} {xs : List α} {f : α → D} {i : Nat} {d : D} (h : (xs.map f)[i]? = some d) : ∃ x, xs[i]? = some x ∧ d = f x := map_get h
def sp_law_ahead : DSpec := fun ads Q => ∃ (a b : Plan) (us : List Int), ads = [.d a.D, .d b.D, .d (usD us)] ∧ a.Ok ∧ b.Ok ∧ UsOk us ∧ ∀ v : Int, (ND a b → v ≤ 0) → Q (.d (.int v)) []
theorem l_law_ahead : ∀ ads Q, sp_law_ahead ads Q → ads.length = 3 := by rintro _ _ ⟨_, _, _, rfl, _⟩; rfl
def w_law_ahead : DSw := (wSeq (wAsg (wTup (wCons (wC (.int 0)) (wCons (wC (.int 0)) wNil))) (wgTup 2 (wgCons (wgName 3) (wgCons (wgName 4) wgNil)))) (wSeq (wPar 5 6 (wCons (wOp fIx (wCall sp_law_months (wCons (wVar 0) (wCons (wVar 2) (wCons (wC (.int 0)) wNil)))) (wC (.int 0))) (wCons (wOp fIx (wCall sp_law_months (wCons (wVar 1) (wCons (wVar 2) (wCons (wC (.int 0)) wNil)))) (wC (.int 0))) wNil))) (wSeq (wFor (wiZip (wCons (wVar 5) (wCons (wVar 6) wNil))) (wgTup 2 (wgCons (wgName 7) (wgCons (wgName 8) wgNil))) (wSeq (wAsg (wOp fSub (wOp fAdd (wVar 3) (wOp fIx (wVar 7) (wC (.int 0)))) (wOp fIx (wVar 8) (wC (.int 0)))) (wgName 3)) (wAsg (wCB fMax2 (wCons (wVar 4) (wCons (wVar 3) wNil))) (wgName 4)))) (wRet (wVar 4)))))
theorem v_law_ahead : Keeps w_law_ahead 6 sp_law_ahead := by
  rintro ads Q ⟨a, b, us, rfl, oa, ob, hu, q⟩
  have hl := hu.len
  refine ⟨rfl, rfl, nod0, a, us, 0, rfl, oa, by omega, nod0, b, us, 0, rfl, ob, by omega, ?_⟩
  refine ⟨fun i env M => ∃ (v : Int) (x7 x8 : Option S), env = [some (.d a.D), some (.d b.D), some (.d (usD us)), some (.d (.int (costM a (us.take i) - costM b (us.take i)))), some (.d (.int v)), some (.d (.lst ((playM a us 0).map Row.D))), some (.d (.lst ((playM b us 0).map Row.D))), x7, x8] ∧ M = [] ∧ (ND a b → v ≤ 0), ⟨0, _, _, rfl, rfl, fun _ => Int.le_refl 0⟩, ?_, ?_⟩
  · rintro i s env M hs ⟨v, x7, x8, rfl, rfl, hv⟩
    obtain ⟨d, e, h1, h2, rfl⟩ := zip_get _ _ _ _ hs
    obtain ⟨r1, g1, rfl⟩ := list_get h1
    obtain ⟨r2, g2, rfl⟩ := list_get h2
    have e1 := cost_step a us g1
    have e2 := cost_step b us g2
    have e3 : costM a (us.take i) - costM b (us.take i) + r1.cost - r2.cost = costM a (us.take (i + 1)) - costM b (us.take (i + 1)) := by omega
    refine ⟨rfl, max v (costM a (us.take i) - costM b (us.take i) + r1.cost - r2.cost), some (.d r1.D), some (.d r2.D), ?_, rfl, fun nd => ?_⟩
    · rw [← e3]; rfl
    · have z := nd_cost oa.a ob.b nd (us.take (i + 1)) fun u h => (hu.all u (List.mem_of_mem_take h)).1
      have := hv nd
      omega
  · rintro env M ⟨v, x7, x8, rfl, rfl, hv⟩
    exact q v hv
/-! ### one unit more -/
def incAt (us : List Int) (i : Nat) : List Int := us.take i ++ [us.getD i 0 + 1] ++ us.drop (i + 1)
theorem rep_teller (k : Nat) (u : Int) : D.tup ((List.replicate k [D.int 0]).flatten ++ [.int u]) = usD (teller k u) := by
  unfold usD teller
  rw [List.map_append, List.map_replicate]
  have : (List.replicate k [D.int 0]).flatten = List.replicate k (.int 0) := by
    induction k with
    | zero => rfl
    | succ k ih => rw [List.replicate_succ, List.flatten_cons, ih]; rfl
  rw [this]; rfl
theorem teller_ok {k : Nat} {u : Int} (hk : k + 1 ≤ 36) (u0 : 0 ≤ u) (u1 : u ≤ 1000000) : UsOk (teller k u) := by
  refine ⟨by unfold teller; rw [List.length_append, List.length_replicate]; exact hk, fun v hv => ?_⟩
  unfold teller at hv
  rcases List.mem_append.mp hv with h | h
  · rw [(List.mem_replicate.mp h).2]; decide
  · rw [List.mem_singleton.mp h]; exact ⟨u0, u1⟩
theorem rep_len {k : Nat} {u : Int} (h : k + 1 ≤ 36) : (List.replicate k [D.int 0]).flatten.length + [D.int u].length ≤ 16000000 := by
  have e := rep_teller k u
  have e2 : (List.replicate k [D.int 0]).flatten ++ [D.int u] = (teller k u).map D.int := by injection e
  rw [← List.length_append, e2, List.length_map]
  unfold teller
  rw [List.length_append, List.length_replicate]
  show k + 1 ≤ 16000000
  omega
theorem pool_bd {p : Plan} (ok : p.Ok) {n : Int} (hn : 0 ≤ n) : 0 ≤ poolM p n ∧ poolM p n ≤ 11000 := by
  have h1 := Int.mul_nonneg hn ok.d0
  have := ok.c0
  have := ok.c1
  have := ok.d0
  have := ok.d1
  unfold poolM
  omega
theorem fewD_non {a b : Plan} {d : D} (h : FewD a b d) (hn : isNonD (.d d) = true) : ND a b := by
  rcases h with ⟨nd, _⟩ | ⟨n, _, rfl⟩
  · exact nd
  · cases hn
theorem fewD_nd {a b : Plan} (oa : a.Ok) (ob : b.Ok) {d : D} (h : FewD a b d) : isNonD (.d d) = ndB a b := by
  rcases h with ⟨nd, rfl⟩ | ⟨n, f, rfl⟩
  · exact (nd_true oa ob nd).symm
  · exact (nd_false oa ob (few_not f)).symm
theorem two_get {α : Type} {a b s : α} {i : Nat} (h : [a, b][i]? = some s) : s = a ∨ s = b := by
  match i, h with
  | 0, h => exact .inl (Option.some.inj h).symm
  | 1, h => exact .inr (Option.some.inj h).symm
  | k + 2, h => cases h
theorem three_get {α : Type} {a b c s : α} {i : Nat} (h : [a, b, c][i]? = some s) : s = a ∨ s = b ∨ s = c := by
  match i, h with
  | 0, h => exact .inl (Option.some.inj h).symm
  | 1, h => exact .inr (.inl (Option.some.inj h).symm)
  | 2, h => exact .inr (.inr (Option.some.inj h).symm)
  | k + 3, h => cases h
theorem call_cost2 {p : Plan} {us : List Int} {d : D} {Q : DK} (e : d = usD us) (ok : p.Ok) (hu : UsOk us) (q : Q (.d (.int (costM p us))) []) : spStar sp_total_cost 1 [.d p.D, .d d] Q := by
  rw [e]
  exact call_cost ok hu q
theorem and3 {c d : Bool} {X : Prop} {Q : DK} {M : Mem} (hX : Q (.d (.bl d)) M → X) (h : Q (.d (.bl (c && d))) M) : if c = true then X else Q (.d (.bl false)) M := by
  cases c with
  | true => exact if_t rfl (hX h)
  | false => exact if_f rfl h
theorem eq_two {a b a' b' : Int} (h : a = a') (h' : b = b') : eqD (.lst [.int a, .int b]) (.lst [.int a', .int b']) = true := by
  subst h h'
  show ((a == a) && ((b == b) && true)) = true
  simp
theorem rep_zeros (k : Nat) : D.tup (List.replicate k [D.int 0]).flatten = usD (List.replicate k 0) := by
  unfold usD
  rw [List.map_replicate]
  congr 1
  induction k with
  | zero => rfl
  | succ k ih => rw [List.replicate_succ, List.flatten_cons, ih]; rfl
theorem zeros_cost {p : Plan} (ok : p.Ok) (k : Nat) : costM p (List.replicate k 0) = p.fee * k := by
  have e := (idle_kps p.data p.cap ok.d0 ok.c0 k [] 0 (Int.le_refl 0) ok.c0).1
  rw [List.append_nil] at e
  rw [costM_eq, e, List.length_replicate]
  show _ + p.price * 0 = _
  omega
theorem zeros_ok {k : Nat} (h : k ≤ 36) : UsOk (List.replicate k 0) := ⟨by rw [List.length_replicate]; exact h, fun v hv => by rw [(List.mem_replicate.mp hv).2]; decide⟩
theorem tell_eq {a b : Plan} (oa : a.Ok) (ob : b.Ok) {m : Int} (few : Few a b m) : ∃ (k : Nat) (u : Int), tellD a b m = .tup [.int k, .int u] ∧ (k : Int) + 1 = m ∧ 0 ≤ u ∧ u ≤ 1000000 ∧
    (b.fee < a.fee → u = 0) ∧ (a.fee ≤ b.fee → poolM b m ≤ max u (poolM b m) ∧ poolM a m ≤ max u (poolM b m)) ∧ costM b (teller k (if a.fee ≤ b.fee then max u (poolM b m) else u)) < costM a (teller k (if a.fee ≤ b.fee then max u (poolM b m) else u)) ∧ costM b (teller k u) < costM a (teller k u) := by
  obtain ⟨m0, m1, m2⟩ := few
  have m0' : 0 ≤ m := by omega
  obtain ⟨z0, z1⟩ := pool_bd ob m0'
  obtain ⟨y0, y1⟩ := pool_bd oa m0'
  unfold tellD
  by_cases hf : b.fee < a.fee
  · have em : m = 1 := by
      rcases Int.lt_or_le 1 m with h | h
      · exact absurd (m1 1 (by omega) h).1 (by omega)
      · omega
    rw [if_pos hf]
    have c0 : costM b (teller 0 0) < costM a (teller 0 0) := by
      subst em
      rw [teller_cost ob.b, teller_cost oa.b]
      have e1 : max 0 (0 - poolM b ((0 : Nat) + 1)) = 0 := by show max 0 (0 - poolM b 1) = 0; omega
      have e2 : max 0 (0 - poolM a ((0 : Nat) + 1)) = 0 := by show max 0 (0 - poolM a 1) = 0; omega
      rw [e1, e2]
      omega
    refine ⟨0, 0, rfl, by omega, by omega, by omega, fun _ => rfl, fun h => by omega, ?_, c0⟩
    rw [if_neg (by omega)]
    exact c0
  · rw [if_neg hf]
    have hf' : a.fee ≤ b.fee := by omega
    by_cases hp : b.price < a.price
    · rw [if_pos hp]
      have em : m = 1 := by
        rcases Int.lt_or_le 1 m with h | h
        · exact absurd (m1 1 (by omega) h).2.1 (by omega)
        · omega
      have c0 : costM b (teller 0 1000000) < costM a (teller 0 1000000) := by
        subst em
        rw [teller_cost ob.b, teller_cost oa.b]
        have f1 := ob.f1
        have f0 := oa.f0
        have p1 := oa.p1
        have p0 := ob.p0
        have e1 : max 0 (1000000 - poolM b ((0 : Nat) + 1)) ≤ 1000000 := by show max 0 (1000000 - poolM b 1) ≤ 1000000; omega
        have e2 : 1000000 - 11000 ≤ max 0 (1000000 - poolM a ((0 : Nat) + 1)) := by show 1000000 - 11000 ≤ max 0 (1000000 - poolM a 1); omega
        have dd := oa.d1
        have e3 : poolM a 1 ≤ 1000 := by unfold poolM; omega
        have e4 : 1000000 - 1000 ≤ max 0 (1000000 - poolM a ((0 : Nat) + 1)) := by show 1000000 - 1000 ≤ max 0 (1000000 - poolM a 1); omega
        generalize max 0 (1000000 - poolM b ((0 : Nat) + 1)) = A at e1
        generalize max 0 (1000000 - poolM a ((0 : Nat) + 1)) = C at e2 e4
        have w1 := mul_le p0 e1
        have w2 := mul_le oa.p0 e4
        have w3 : (b.price + 1) * (1000000 - 1000) ≤ a.price * (1000000 - 1000) := Int.mul_le_mul_of_nonneg_right (by omega) (by decide)
        show b.fee * (0 + 1) + b.price * A < a.fee * (0 + 1) + a.price * C
        omega
      refine ⟨0, 1000000, rfl, by omega, by omega, by omega, fun h => by omega, fun _ => ⟨by omega, by omega⟩, ?_, c0⟩
      rw [if_pos hf', show max 1000000 (poolM b m) = 1000000 by omega]
      exact c0
    · rw [if_neg hp]
      have sh := m2 hf' (by omega)
      have em : ((m - 1).toNat : Int) + 1 = m := by omega
      have c0 := teller_shows oa ob (m - 1).toNat (by rw [em]; exact sh)
      rw [em] at c0
      have hpo : poolM a m ≤ poolM b m := by
        unfold showsM at sh
        rcases Int.le_total (poolM a m) (poolM b m) with h | h
        · exact h
        · have w1 : a.price * (poolM b m - poolM a m) ≤ 0 := Int.mul_nonpos_of_nonneg_of_nonpos oa.p0 (by omega)
          have w2 : 0 ≤ m * (b.fee - a.fee) := Int.mul_nonneg m0' (by omega)
          omega
      refine ⟨(m - 1).toNat, poolM b m, ?_, em, z0, by omega, fun h => by omega, fun _ => ⟨by omega, by omega⟩, ?_, c0⟩
      · rw [show ((m - 1).toNat : Int) = m - 1 by omega]
      · rw [if_pos hf', Int.max_self]
        exact c0
theorem call_tell {a b : Plan} {Q : DK} {m : Int} {d : D} (oa : a.Ok) (ob : b.Ok) (few : Few a b m) (e : tellD a b m = d) (h : Q (.d d) []) : sp_telling_usage [.d a.D, .d b.D] Q := by
  refine ⟨a, b, rfl, oa, ob, fun z => absurd z (few_not few), fun n hn => ?_⟩
  rw [few_uniq hn few, e]
  exact h
theorem us_app (a b : List Int) : D.tup (a.map D.int ++ b.map D.int) = usD (a ++ b) := by unfold usD; rw [List.map_append]
theorem us_len2 {a b : List Int} (ha : a.length ≤ 36) (hb : b.length ≤ 36) : (a.map D.int).length + (b.map D.int).length ≤ 16000000 := by rw [List.length_map, List.length_map]; omega
theorem andV_pure {wa wb : DW} {X : XC} {env : Env} {M : Mem} {c d : Bool} {Q : DK} (ha : ∀ P : DK, P (.d (.bl c)) M → wa X env M P) (hb : ∀ P : DK, P (.d (.bl d)) M → wb X env M P) (q : Q (.d (.bl (c && d))) M) : wAndV wa wb X env M Q := by
  refine ha _ ?_
  cases c with
  | true => exact if_t rfl (hb _ q)
  | false => exact if_f rfl q
end R
/-! Layer R, part 16: greatest and least parts. -/
namespace R
open PySem L2 Evl
def setP (p : Plan) (i v : Int) : Plan := if i = 0 then ⟨v, p.data, p.cap, p.price⟩ else if i = 1 then ⟨p.fee, v, p.cap, p.price⟩ else if i = 2 then ⟨p.fee, p.data, v, p.price⟩ else ⟨p.fee, p.data, p.cap, v⟩
def topP (i : Int) : Int := if i = 0 then 10000 else if i = 1 then 1000 else if i = 2 then 10000 else 100
theorem part4 {i : Int} (h0 : 0 ≤ i) (h3 : i ≤ 3) : i = 0 ∨ i = 1 ∨ i = 2 ∨ i = 3 := by omega
theorem setP_ok {p : Plan} (ok : p.Ok) {i v : Int} (h0 : 0 ≤ i) (h3 : i ≤ 3) (v0 : 0 ≤ v) (v1 : v ≤ topP i) : (setP p i v).Ok := by
  rcases part4 h0 h3 with rfl | rfl | rfl | rfl
  · exact ⟨v0, v1, ok.d0, ok.d1, ok.c0, ok.c1, ok.p0, ok.p1⟩
  · exact ⟨ok.f0, ok.f1, v0, v1, ok.c0, ok.c1, ok.p0, ok.p1⟩
  · exact ⟨ok.f0, ok.f1, ok.d0, ok.d1, v0, v1, ok.p0, ok.p1⟩
  · exact ⟨ok.f0, ok.f1, ok.d0, ok.d1, ok.c0, ok.c1, v0, v1⟩
/-- upward: a smaller part is better -/
def upP (i : Int) : Bool := i == 0 || i == 3
theorem setP_bet {p : Plan} {i v w : Int} (h0 : 0 ≤ i) (h3 : i ≤ 3) (h : if upP i = true then v ≤ w else w ≤ v) : Bet (setP p i v) (setP p i w) := by
  have l := Int.le_refl
  rcases part4 h0 h3 with rfl | rfl | rfl | rfl
  · exact ⟨h, l _, l _, l _⟩
  · exact ⟨l _, h, l _, l _⟩
  · exact ⟨l _, l _, h, l _⟩
  · exact ⟨l _, l _, l _, h⟩
theorem setP_nd {a b : Plan} (oa : a.Ok) (ob : b.Ok) {i v w : Int} (h0 : 0 ≤ i) (h3 : i ≤ 3) (v0 : 0 ≤ v) (v1 : v ≤ topP i) (w0 : 0 ≤ w) (w1 : w ≤ topP i) (h : if upP i = true then v ≤ w else w ≤ v) (nd : ND (setP a i w) b) : ND (setP a i v) b :=
  nd_trans (setP_ok oa h0 h3 v0 v1) (setP_ok oa h0 h3 w0 w1) ob ((setP_bet h0 h3 h).nd (setP_ok oa h0 h3 v0 v1).p0) nd
def sp_with_part : DSpec := fun ads Q => ∃ (p : Plan) (i v : Int), ads = [.d p.D, .d (.int i), .d (.int v)] ∧ 0 ≤ i ∧ i ≤ 3 ∧ Q (.d (setP p i v).D) []
theorem l_with_part : ∀ ads Q, sp_with_part ads Q → ads.length = 3 := by rintro _ _ ⟨_, _, _, rfl, _⟩; rfl
def w_with_part : DSw := (wRet (wOp fAdd (wOp fAdd (wSl (wVar 0) wNo (wSome (wVar 1))) (wTup (wCons (wVar 2) wNil))) (wSl (wVar 0) (wSome (wOp fAdd (wVar 1) (wC (.int 1)))) wNo)))
theorem v_with_part : Keeps w_with_part 0 sp_with_part := by
  rintro ads Q ⟨p, i, v, rfl, h0, h3, q⟩
  rcases part4 h0 h3 with rfl | rfl | rfl | rfl
  · exact ⟨rfl, (by show 1 ≤ 16000000; decide), (by show 4 ≤ 16000000; decide), q⟩
  · exact ⟨rfl, (by show 2 ≤ 16000000; decide), (by show 4 ≤ 16000000; decide), q⟩
  · exact ⟨rfl, (by show 3 ≤ 16000000; decide), (by show 4 ≤ 16000000; decide), q⟩
  · exact ⟨rfl, (by show 4 ≤ 16000000; decide), (by show 4 ≤ 16000000; decide), q⟩
/-- the answer of a search: the last part upward, the first downward -/
def EdgeD (a b : Plan) (i : Int) (d : D) : Prop := (¬ ND (setP a i (if upP i = true then 0 else topP i)) b ∧ d = .non) ∨
  ∃ v : Int, 0 ≤ v ∧ v ≤ topP i ∧ ND (setP a i v) b ∧ (∀ w, 0 ≤ w → w ≤ topP i → (if upP i = true then v < w else w < v) → ¬ ND (setP a i w) b) ∧ d = .int v
def sp_greatest : DSpec := fun ads Q => ∃ (a b : Plan) (i : Int), ads = [.d a.D, .d b.D, .d (.int i), .d (.int (topP i))] ∧ a.Ok ∧ b.Ok ∧ 0 ≤ i ∧ i ≤ 3 ∧ upP i = true ∧ ∀ d, EdgeD a b i d → Q (.d d) []
theorem l_greatest : ∀ ads Q, sp_greatest ads Q → ads.length = 4 := by rintro _ _ ⟨_, _, _, rfl, _⟩; rfl
def w_greatest : DSw := (wSeq (wIfS (wNotT (wTst (wCall sp_at_most (wCons (wCall sp_with_part (wCons (wVar 0) (wCons (wVar 2) (wCons (wC (.int 0)) wNil)))) (wCons (wVar 1) wNil))))) (wRet (wC .non)) wNext) (wSeq (wPar 4 5 (wCons (wC (.int 0)) (wCons (wVar 3) wNil))) (wSeq (wWhile (wTst (wOp fLt (wVar 4) (wVar 5))) (wSeq (wAsg (wOp fDiv (wOp fAdd (wOp fAdd (wVar 4) (wVar 5)) (wC (.int 1))) (wC (.int 2))) (wgName 6)) (wIfS (wTst (wCall sp_at_most (wCons (wCall sp_with_part (wCons (wVar 0) (wCons (wVar 2) (wCons (wVar 6) wNil)))) (wCons (wVar 1) wNil)))) (wAsg (wVar 6) (wgName 4)) (wAsg (wOp fSub (wVar 6) (wC (.int 1))) (wgName 5))))) (wRet (wVar 4)))))
theorem top_pos {i : Int} (h0 : 0 ≤ i) (h3 : i ≤ 3) : 0 ≤ topP i ∧ topP i ≤ 10000 := by
  rcases part4 h0 h3 with rfl | rfl | rfl | rfl <;> decide
theorem v_greatest : Keeps w_greatest 3 sp_greatest := by
  rintro ads Q ⟨a, b, i, rfl, oa, ob, h0, h3, up, q⟩
  obtain ⟨t0, t1⟩ := top_pos h0 h3
  have ok0 := setP_ok oa h0 h3 (Int.le_refl 0) t0
  refine ⟨nod0, a, i, 0, rfl, h0, h3, nod0, setP a i 0, b, rfl, ok0, ob, ite2 (fun h => ?_) (fun h => ?_)⟩
  · have h' : ndB (setP a i 0) b = false := by simpa using h
    refine q _ (.inl ⟨?_, rfl⟩)
    rw [if_pos up]
    exact fun z => by rw [nd_true ok0 ob z] at h'; cases h'
  · have h' : ndB (setP a i 0) b = true := by simpa using h
    refine ⟨fun m env M => ∃ (lo hi : Int) (x : Option S), env = [some (.d a.D), some (.d b.D), some (.d (.int i)), some (.d (.int (topP i))), some (.d (.int lo)), some (.d (.int hi)), x] ∧ M = [] ∧ 0 ≤ lo ∧ lo ≤ hi ∧ hi ≤ topP i ∧ ND (setP a i lo) b ∧ (∀ w, hi < w → w ≤ topP i → ¬ ND (setP a i w) b) ∧ m = (hi - lo).toNat,
      ⟨_, 0, topP i, _, rfl, rfl, Int.le_refl 0, t0, Int.le_refl _, (nd_iff ok0 ob).mp h', fun w h1 h2 => by omega, rfl⟩, ?_⟩
    rintro m env M ⟨lo, hi, x, rfl, rfl, lo0, lh, hi1, nd, beyond, rfl⟩
    refine ifd (fun hlt => ?_) (fun hge => ?_)
    · have m0 : 0 ≤ (lo + hi + 1) / 2 := by omega
      have m1 : (lo + hi + 1) / 2 ≤ topP i := by omega
      have okm := setP_ok oa h0 h3 m0 m1
      refine ⟨⟨by decide, by decide⟩, nod0, a, i, (lo + hi + 1) / 2, rfl, h0, h3, nod0, setP a i ((lo + hi + 1) / 2), b, rfl, okm, ob, ite2 (fun h => ?_) (fun h => ?_)⟩
      · exact ⟨(hi - (lo + hi + 1) / 2).toNat, by omega, (lo + hi + 1) / 2, hi, _, rfl, rfl, m0, by omega, hi1, (nd_iff okm ob).mp h, beyond, rfl⟩
      · refine ⟨((lo + hi + 1) / 2 - 1 - lo).toNat, by omega, lo, (lo + hi + 1) / 2 - 1, _, rfl, rfl, lo0, by omega, by omega, nd, fun w h1 h2 z => h ?_, rfl⟩
        exact nd_true okm ob (setP_nd oa ob h0 h3 m0 m1 (by omega) h2 (by rw [if_pos up]; omega) z)
    · refine q _ (.inr ⟨lo, lo0, by omega, nd, fun w h1 h2 h4 => ?_, rfl⟩)
      rw [if_pos up] at h4
      exact beyond w (by omega) h2
def sp_border : DSpec := fun ads Q => ∃ (a b : Plan) (i : Int), ads = [.d a.D, .d b.D, .d (.int i), .d (.int 0), .d (.int (topP i))] ∧ a.Ok ∧ b.Ok ∧ 0 ≤ i ∧ i ≤ 3 ∧ upP i = false ∧ ∀ d, EdgeD a b i d → Q (.d d) []
theorem l_border : ∀ ads Q, sp_border ads Q → ads.length = 5 := by rintro _ _ ⟨_, _, _, rfl, _⟩; rfl
def w_border : DSw := (wSeq (wIfS (wNotT (wTst (wCall sp_at_most (wCons (wCall sp_with_part (wCons (wVar 0) (wCons (wVar 2) (wCons (wVar 4) wNil)))) (wCons (wVar 1) wNil))))) (wRet (wC .non)) wNext) (wSeq (wWhile (wTst (wOp fLt (wVar 3) (wVar 4))) (wSeq (wAsg (wOp fDiv (wOp fAdd (wVar 3) (wVar 4)) (wC (.int 2))) (wgName 5)) (wIfS (wTst (wCall sp_at_most (wCons (wCall sp_with_part (wCons (wVar 0) (wCons (wVar 2) (wCons (wVar 5) wNil)))) (wCons (wVar 1) wNil)))) (wAsg (wVar 5) (wgName 4)) (wAsg (wOp fAdd (wVar 5) (wC (.int 1))) (wgName 3))))) (wRet (wVar 3))))
theorem v_border : Keeps w_border 1 sp_border := by
  rintro ads Q ⟨a, b, i, rfl, oa, ob, h0, h3, up, q⟩
  obtain ⟨t0, t1⟩ := top_pos h0 h3
  have up' : ¬ upP i = true := by rw [up]; decide
  have ok0 := setP_ok oa h0 h3 t0 (Int.le_refl _)
  refine ⟨nod0, a, i, topP i, rfl, h0, h3, nod0, setP a i (topP i), b, rfl, ok0, ob, ite2 (fun h => ?_) (fun h => ?_)⟩
  · have h' : ndB (setP a i (topP i)) b = false := by simpa using h
    refine q _ (.inl ⟨?_, rfl⟩)
    rw [if_neg up']
    exact fun z => by rw [nd_true ok0 ob z] at h'; cases h'
  · have h' : ndB (setP a i (topP i)) b = true := by simpa using h
    refine ⟨fun m env M => ∃ (lo hi : Int) (x : Option S), env = [some (.d a.D), some (.d b.D), some (.d (.int i)), some (.d (.int lo)), some (.d (.int hi)), x] ∧ M = [] ∧ 0 ≤ lo ∧ lo ≤ hi ∧ hi ≤ topP i ∧ ND (setP a i hi) b ∧ (∀ w, 0 ≤ w → w < lo → ¬ ND (setP a i w) b) ∧ m = (hi - lo).toNat,
      ⟨_, 0, topP i, _, rfl, rfl, Int.le_refl 0, t0, Int.le_refl _, (nd_iff ok0 ob).mp h', fun w h1 h2 => by omega, rfl⟩, ?_⟩
    rintro m env M ⟨lo, hi, x, rfl, rfl, lo0, lh, hi1, nd, beyond, rfl⟩
    refine ifd (fun hlt => ?_) (fun hge => ?_)
    · have m0 : 0 ≤ (lo + hi) / 2 := by omega
      have m1 : (lo + hi) / 2 ≤ topP i := by omega
      have okm := setP_ok oa h0 h3 m0 m1
      refine ⟨⟨by decide, by decide⟩, nod0, a, i, (lo + hi) / 2, rfl, h0, h3, nod0, setP a i ((lo + hi) / 2), b, rfl, okm, ob, ite2 (fun h => ?_) (fun h => ?_)⟩
      · exact ⟨((lo + hi) / 2 - lo).toNat, by omega, lo, (lo + hi) / 2, _, rfl, rfl, lo0, by omega, by omega, (nd_iff okm ob).mp h, beyond, rfl⟩
      · refine ⟨(hi - ((lo + hi) / 2 + 1)).toNat, by omega, (lo + hi) / 2 + 1, hi, _, rfl, rfl, by omega, by omega, hi1, nd, fun w h1 h2 z => h ?_, rfl⟩
        exact nd_true okm ob (setP_nd oa ob h0 h3 m0 m1 h1 (by omega) (by rw [if_neg up']; omega) z)
    · have e : lo = hi := by omega
      refine q _ (.inr ⟨lo, lo0, by omega, by rw [e]; exact nd, fun w h1 h2 h4 => ?_, rfl⟩)
      rw [if_neg up'] at h4
      exact beyond w h1 h4
def sp_greatest_fee : DSpec := fun ads Q => ∃ a b : Plan, ads = [.d a.D, .d b.D] ∧ a.Ok ∧ b.Ok ∧ ∀ d, EdgeD a b 0 d → Q (.d d) []
theorem l_greatest_fee : ∀ ads Q, sp_greatest_fee ads Q → ads.length = 2 := by rintro _ _ ⟨_, _, rfl, _⟩; rfl
def w_greatest_fee : DSw := (wSeq (wDrop (wCall sp_check_plan (wCons (wVar 0) wNil))) (wSeq (wDrop (wCall sp_check_plan (wCons (wVar 1) wNil))) (wRet (wCall sp_greatest (wCons (wVar 0) (wCons (wVar 1) (wCons (wC (.int 0)) (wCons (wC (.int 10000)) wNil))))))))
theorem v_greatest_fee : Keeps w_greatest_fee 0 sp_greatest_fee := by
  rintro ads Q ⟨a, b, rfl, oa, ob, q⟩
  exact ⟨nod0, a, rfl, oa, nod0, b, rfl, ob, nod0, a, b, 0, rfl, oa, ob, by decide, by decide, rfl, q⟩
def sp_greatest_price : DSpec := fun ads Q => ∃ a b : Plan, ads = [.d a.D, .d b.D] ∧ a.Ok ∧ b.Ok ∧ ∀ d, EdgeD a b 3 d → Q (.d d) []
theorem l_greatest_price : ∀ ads Q, sp_greatest_price ads Q → ads.length = 2 := by rintro _ _ ⟨_, _, rfl, _⟩; rfl
def w_greatest_price : DSw := (wSeq (wDrop (wCall sp_check_plan (wCons (wVar 0) wNil))) (wSeq (wDrop (wCall sp_check_plan (wCons (wVar 1) wNil))) (wRet (wCall sp_greatest (wCons (wVar 0) (wCons (wVar 1) (wCons (wC (.int 3)) (wCons (wC (.int 100)) wNil))))))))
theorem v_greatest_price : Keeps w_greatest_price 0 sp_greatest_price := by
  rintro ads Q ⟨a, b, rfl, oa, ob, q⟩
  exact ⟨nod0, a, rfl, oa, nod0, b, rfl, ob, nod0, a, b, 3, rfl, oa, ob, by decide, by decide, rfl, q⟩
def sp_least_data : DSpec := fun ads Q => ∃ a b : Plan, ads = [.d a.D, .d b.D] ∧ a.Ok ∧ b.Ok ∧ ∀ d, EdgeD a b 1 d → Q (.d d) []
theorem l_least_data : ∀ ads Q, sp_least_data ads Q → ads.length = 2 := by rintro _ _ ⟨_, _, rfl, _⟩; rfl
def w_least_data : DSw := (wSeq (wDrop (wCall sp_check_plan (wCons (wVar 0) wNil))) (wSeq (wDrop (wCall sp_check_plan (wCons (wVar 1) wNil))) (wRet (wCall sp_border (wCons (wVar 0) (wCons (wVar 1) (wCons (wC (.int 1)) (wCons (wC (.int 0)) (wCons (wC (.int 1000)) wNil)))))))))
theorem v_least_data : Keeps w_least_data 0 sp_least_data := by
  rintro ads Q ⟨a, b, rfl, oa, ob, q⟩
  exact ⟨nod0, a, rfl, oa, nod0, b, rfl, ob, nod0, a, b, 1, rfl, oa, ob, by decide, by decide, rfl, q⟩
def sp_least_cap : DSpec := fun ads Q => ∃ a b : Plan, ads = [.d a.D, .d b.D] ∧ a.Ok ∧ b.Ok ∧ ∀ d, EdgeD a b 2 d → Q (.d d) []
theorem l_least_cap : ∀ ads Q, sp_least_cap ads Q → ads.length = 2 := by rintro _ _ ⟨_, _, rfl, _⟩; rfl
def w_least_cap : DSw := (wSeq (wDrop (wCall sp_check_plan (wCons (wVar 0) wNil))) (wSeq (wDrop (wCall sp_check_plan (wCons (wVar 1) wNil))) (wRet (wCall sp_border (wCons (wVar 0) (wCons (wVar 1) (wCons (wC (.int 2)) (wCons (wC (.int 0)) (wCons (wC (.int 10000)) wNil)))))))))
theorem v_least_cap : Keeps w_least_cap 0 sp_least_cap := by
  rintro ads Q ⟨a, b, rfl, oa, ob, q⟩
  exact ⟨nod0, a, rfl, oa, nod0, b, rfl, ob, nod0, a, b, 2, rfl, oa, ob, by decide, by decide, rfl, q⟩
end R
/-! Layer R, part 17: one unit more. -/
namespace R
open PySem L2 Evl
theorem cut_to {α : Type} (xs : List α) {i : Nat} (h : i ≤ xs.length) : cutG xs none (some (i : Int)) = xs.take i := by
  unfold cutG
  rw [HT.sIx_nat, HT.sIx_none, Nat.min_eq_left h, List.drop_zero, Nat.sub_zero]
theorem cut_from {α : Type} (xs : List α) {i : Nat} (h : i ≤ xs.length) : cutG xs (some (i : Int)) none = xs.drop i := by
  unfold cutG
  rw [HT.sIx_nat, HT.sIx_none, Nat.min_eq_left h, List.take_of_length_le (by rw [List.length_drop]; exact Nat.le_refl _)]
theorem atI_nat {α : Type} (xs : List α) {i : Nat} (h : i < xs.length) : atI xs (i : Int) = some xs[i] := by
  unfold atI
  have : ixN xs.length (i : Int) = some i := by
    unfold ixN
    rw [if_pos (by omega), if_pos (by omega), Int.toNat_natCast]
  rw [this]
  exact List.getElem?_eq_getElem h
theorem ixN_nat {n i : Nat} (h : i < n) : ixN n (i : Int) = some i := by
  unfold ixN
  rw [if_pos (by omega), if_pos (by omega), Int.toNat_natCast]
/-- take, one, drop -/
theorem cut_set {us : List Int} {i : Nat} (h : i < us.length) (v : Int) : D.tup (cutG (us.map D.int) none (some (i : Int)) ++ [D.int v] ++ cutG (us.map D.int) (some ((i : Int) + 1)) none) = usD (us.set i v) := by
  have h1 : i ≤ (us.map D.int).length := by rw [List.length_map]; omega
  have h2 : i + 1 ≤ (us.map D.int).length := by rw [List.length_map]; omega
  rw [cut_to _ h1, show ((i : Int) + 1) = ((i + 1 : Nat) : Int) from rfl, cut_from _ h2, ← List.map_take, ← List.map_drop]
  unfold usD
  rw [List.set_eq_take_append_cons_drop, if_pos h, List.map_append, List.map_cons, List.append_assoc]
  rfl
theorem cut_len {us : List Int} (hl : us.length ≤ 36) {i : Nat} (h : i < us.length) (v : Int) : (cutG (us.map D.int) none (some (i : Int))).length + [D.int v].length ≤ 16000000 ∧ (cutG (us.map D.int) none (some (i : Int)) ++ [D.int v]).length + (cutG (us.map D.int) (some ((i : Int) + 1)) none).length ≤ 16000000 := by
  have h1 := cutG_len (us.map D.int) none (some (i : Int))
  have h2 := cutG_len (us.map D.int) (some ((i : Int) + 1)) none
  rw [List.length_map] at h1 h2
  rw [List.length_append]
  show _ + 1 ≤ 16000000 ∧ _ + 1 + _ ≤ 16000000
  omega
/-! ### fewer kept units, other units in a month -/
theorem furs_kept (d c : Int) (hc : 0 ≤ c) : ∀ (us : List Int) (k k' : Int), k' ≤ k → 0 ≤ furs d c us k' - furs d c us k ∧ furs d c us k' - furs d c us k ≤ k - k'
  | [], k, k', h => by show (0 : Int) ≤ 0 - 0 ∧ (0 : Int) - 0 ≤ k - k'; omega
  | u :: us, k, k', h => by
    show 0 ≤ fuM d k' u + furs d c us (nxM d c k' u) - (fuM d k u + furs d c us (nxM d c k u)) ∧ fuM d k' u + furs d c us (nxM d c k' u) - (fuM d k u + furs d c us (nxM d c k u)) ≤ k - k'
    have z := furs_kept d c hc us (nxM d c k u) (nxM d c k' u) (by unfold nxM; omega)
    have e : fuM d k' u - fuM d k u + (nxM d c k u - nxM d c k' u) ≤ k - k' := by unfold fuM nxM; omega
    have e2 : 0 ≤ fuM d k' u - fuM d k u := by unfold fuM; omega
    omega
theorem furs_set (d c : Int) (hc : 0 ≤ c) : ∀ (us : List Int) (i : Nat) (k v w : Int), us[i]? = some w → v ≤ w → 0 ≤ furs d c us k - furs d c (us.set i v) k ∧ furs d c us k - furs d c (us.set i v) k ≤ w - v
  | [], i, k, v, w, h, _ => by cases h
  | u :: us, 0, k, v, w, h, hv => by
    cases (show some u = some w from h)
    show 0 ≤ fuM d k u + furs d c us (nxM d c k u) - (fuM d k v + furs d c us (nxM d c k v)) ∧ fuM d k u + furs d c us (nxM d c k u) - (fuM d k v + furs d c us (nxM d c k v)) ≤ u - v
    have z := furs_kept d c hc us (nxM d c k v) (nxM d c k u) (by unfold nxM; omega)
    have e : fuM d k u - fuM d k v + (nxM d c k v - nxM d c k u) ≤ u - v := by unfold fuM nxM; omega
    have e2 : 0 ≤ fuM d k u - fuM d k v := by unfold fuM; omega
    omega
  | u :: us, i + 1, k, v, w, h, hv => by
    have z := furs_set d c hc us i (nxM d c k u) v w h hv
    show 0 ≤ fuM d k u + furs d c us (nxM d c k u) - (fuM d k u + furs d c (us.set i v) (nxM d c k u)) ∧ fuM d k u + furs d c us (nxM d c k u) - (fuM d k u + furs d c (us.set i v) (nxM d c k u)) ≤ w - v
    omega
theorem cost_set {p : Plan} (ok : p.Ok) {us : List Int} {i : Nat} {v w : Int} (h : us[i]? = some w) (hv : v ≤ w) : 0 ≤ costM p us - costM p (us.set i v) ∧ costM p us - costM p (us.set i v) ≤ p.price * (w - v) := by
  have z := furs_set p.data p.cap ok.c0 us i 0 v w h hv
  have e : costM p us - costM p (us.set i v) = p.price * (furs p.data p.cap us 0 - furs p.data p.cap (us.set i v) 0) := by
    rw [costM_eq, costM_eq, List.length_set, Int.mul_sub]; omega
  rw [e]
  exact ⟨Int.mul_nonneg ok.p0 z.1, mul_le ok.p0 z.2⟩
def incD (us : List Int) (i : Nat) : List Int := us.set i (us.getD i 0 + 1)
def moresM (p : Plan) (us : List Int) : List Int := (List.range us.length).map fun i => costM p (incD us i) - costM p us
theorem inc_cost {p : Plan} (ok : p.Ok) {us : List Int} {i : Nat} (h : i < us.length) : costM p (incD us i) - costM p us = 0 ∨ costM p (incD us i) - costM p us = p.price := by
  unfold incD
  have hg : us.getD i 0 = us[i] := by rw [List.getD_eq_getElem?_getD, List.getElem?_eq_getElem h]; rfl
  have h1 : (us.set i (us.getD i 0 + 1))[i]? = some (us.getD i 0 + 1) := by rw [List.getElem?_set_self h]
  have z := furs_set p.data p.cap ok.c0 (us.set i (us.getD i 0 + 1)) i 0 (us.getD i 0) _ h1 (by omega)
  have e0 : (us.set i (us.getD i 0 + 1)).set i (us.getD i 0) = us := by rw [List.set_set, hg, List.set_getElem_self]
  rw [e0] at z
  have e : costM p (us.set i (us.getD i 0 + 1)) - costM p us = p.price * (furs p.data p.cap (us.set i (us.getD i 0 + 1)) 0 - furs p.data p.cap us 0) := by
    rw [costM_eq, costM_eq, List.length_set, Int.mul_sub]; omega
  rw [e]
  have : furs p.data p.cap (us.set i (us.getD i 0 + 1)) 0 - furs p.data p.cap us 0 = 0 ∨ furs p.data p.cap (us.set i (us.getD i 0 + 1)) 0 - furs p.data p.cap us 0 = 1 := by omega
  rcases this with h | h <;> rw [h]
  · exact .inl (Int.mul_zero _)
  · exact .inr (Int.mul_one _)
theorem at_us {us : List Int} {i : Nat} (h : i < us.length) : atI (us.map D.int) (i : Int) = some (.int (us.getD i 0)) := by
  rw [atI_nat _ (by rw [List.length_map]; exact h), List.getElem_map, List.getD_eq_getElem?_getD, List.getElem?_eq_getElem h]
  rfl
def sp_one_more : DSpec := fun ads Q => ∃ (p : Plan) (us : List Int), ads = [.d p.D, .d (usD us)] ∧ p.Ok ∧ UsOk us ∧ Q (.m 0) [.lst ((moresM p us).map D.int)]
theorem l_one_more : ∀ ads Q, sp_one_more ads Q → ads.length = 2 := by rintro _ _ ⟨_, _, rfl, _⟩; rfl
def w_one_more : DSw := (wSeq (wDrop (wCall sp_check_plan (wCons (wVar 0) wNil))) (wSeq (wDrop (wCall sp_check_usage (wCons (wVar 1) wNil))) (wSeq (wAsg (wCall sp_cost_of (wCons (wVar 0) (wCons (wVar 1) wNil))) (wgName 2)) (wSeq (wAsg (wLc (wiR1 (wCons (wCB fLen (wCons (wVar 1) wNil)) wNil)) (wgName 4) wYes (wOp fAdd (wOp fAdd (wSl (wVar 1) wNo (wSome (wVar 4))) (wTup (wCons (wOp fAdd (wOp fIx (wVar 1) (wVar 4)) (wC (.int 1))) wNil))) (wSl (wVar 1) (wSome (wOp fAdd (wVar 4) (wC (.int 1)))) wNo)) [4]) (wgName 3)) (wRet (wLcO (wiLst (wVar 3)) (wgName 5) wYes (wOp fSub (wCall sp_cost_of (wCons (wVar 0) (wCons (wVar 5) wNil))) (wVar 2)) [5]))))))
theorem v_one_more : Keeps w_one_more 4 sp_one_more := by
  rintro ads Q ⟨p, us, rfl, ok, hu, q⟩
  have hl := hu.len
  refine ⟨nod0, p, rfl, ok, nod0, us, rfl, hu, nod0, p, us, rfl, ok, by omega, ⟨by rw [List.length_map]; omega, by rw [List.length_map]; omega⟩, ?_⟩
  have er : rngS 0 ((us.map D.int).length : Int).toNat = (List.range us.length).map fun (i : Nat) => S.d (.int (0 + (i : Int))) := by
    unfold rngS
    rw [List.length_map, Int.toNat_natCast]
  rw [er]
  refine dLc_map (List.range us.length) _ (fun i => usD (incD us i)) (by rw [List.length_range]; show 0 + us.length ≤ 16000000; omega) (fun i hi k hk => ?_) ?_
  · have hi := List.mem_range.mp hi
    have e0 : (0 : Int) + (i : Int) = i := Int.zero_add _
    rw [e0]
    refine atQ_some (at_us hi) ⟨rfl, (cut_len hl hi _).1, (cut_len hl hi _).2, ?_⟩
    rw [cut_set hi]
    exact hk
  · refine dLc_dmap (List.range us.length) (fun i => usD (incD us i)) (fun i => .int (costM p (incD us i) - costM p us)) (by rw [List.length_range]; omega) (fun i hi k hk => ⟨nod0, p, incD us i, rfl, ok, by unfold incD; rw [List.length_set]; omega, hk⟩) ?_
    have e : ((List.range us.length).map fun i => D.int (costM p (incD us i) - costM p us)) = (moresM p us).map D.int := by unfold moresM; rw [List.map_map]; rfl
    rw [e]
    exact q
end R
/-! Layer R, part 18: fewer months than the fewest that show; a tuple many times. -/
namespace L2
open PySem PySem.Spec PyProof.Rows
def rRepBig (K : PySem.W.Frag) : R2 := fun x y H Q => ∃ a m vs, x = .ref a ∧ y = .int m ∧ SqT K H a vs ∧ vs ≠ [] ∧ 2 ≤ m ∧ m ≤ 100000 ∧ vs.length ≤ 100 ∧ ∀ q, H q = none → Q (.ref q) (upd H q (.tup (List.replicate m.toNat vs).flatten))
theorem op_repBig {X : Cx} : OpR X (binaryOp .Mult) (rRepBig X.K) := by
  intro pins s σ H x y v u Q I rx ry ⟨a, m, vs, ex, ey, hT, hne, m0, m1, hz, q⟩
  subst ex ey
  cases rx
  obtain ⟨t, rfl⟩ := ry
  obtain ⟨its, r, ⟨⟨cls, dd, data, sl⟩, ho, hc, n, hd⟩, hs⟩ := I.tuple hT
  simp only at hc hd
  subst hc hd
  have hv : its.length = vs.length := r.length.symm
  have hi : its.toArray.isEmpty = false := by
    cases its with
    | nil => exact absurd (List.eq_nil_of_length_eq_zero r.length) hne
    | cons _ _ => rfl
  have hs0 : ((its.toArray.size : Nat) : Int) = vs.length := by rw [List.size_toArray, hv]
  have hm : ((its.toArray.size : Nat) : Int) * m ≤ 10000000 := by
    rw [hs0]
    have w : ((vs.length : Nat) : Int) * m ≤ 100 * m := Int.mul_le_mul_of_nonneg_right (by omega) (by omega)
    omega
  have hf : (List.replicate m.toNat its).flatten.length ≤ 10000000 := by
    rw [PyProof.Rows.lm_len_rep_flat, hv]
    have w : m.toNat * vs.length ≤ 100000 * 100 := Nat.mul_le_mul (by omega) hz
    omega
  have hfv : (List.replicate m.toNat vs).flatten.length ≤ 10000000 := by
    rw [PyProof.Rows.lm_len_rep_flat]
    have w : m.toNat * vs.length ≤ 100000 * 100 := Nat.mul_le_mul (by omega) hz
    omega
  have g0 : (decide (m < -(2 ^ 63)) || decide (m ≥ 2 ^ 63)) = false := by
    have z1 : ¬ m < -(2 ^ 63) := by omega
    have z2 : ¬ m ≥ 2 ^ 63 := by omega
    rw [decide_eq_false z1, decide_eq_false z2]; rfl
  have g1 : (its.toArray.isEmpty || m == 1) = false := by
    rw [hi, Bool.false_or]
    exact beq_eq_false_iff_ne.mpr (by omega)
  have g2 : (decide (m ≤ 0) || its.toArray.isEmpty) = false := by
    rw [hi, decide_eq_false (by omega)]; rfl
  have g4 : Builtin.Tuple.tupleTooMany (((its.toArray.size : Nat) : Int) * m) = false := by
    unfold Builtin.Tuple.tupleTooMany
    rw [sizeLine_eq]
    exact decide_eq_false (by omega)
  have hsl := sizeLine_eq
  refine wpAny_binaryOp_repeat_ref (T := "tuple") (U := "int") (by decide) ⟨_, ho, rfl⟩ (fun s' => typeIs_int s' m t) noFill_tuple_mul F.fills_int_mul F.slot_int_rmul repeat_tuple F.slot_int_index.lookup ?_
  refine call_meets F.slot_int_rmul (typeIs_int s m t) F.entry_int_rmul (F.args_int_rmul_2 _ _) (int_rmul_tuple m t a its.toArray n dd sl) ⟨ho, rfl, ⟨_, ho, rfl⟩, ?_⟩
  refine call_meets F.slot_tuple_mul ⟨_, ho, rfl⟩ F.entry_tuple_mul (F.args_tuple_mul_2 _ _) (tuple_mulW a its.toArray n dd sl m t g0 g1 g2 (by omega) g4 (by rw [size_rep, List.size_toArray]; omega)) ⟨ho, ?_⟩
  rw [size_rep]
  exact ⟨.ref s.heap.objs.size, _, I.laid (t' := s.toks) (o := .tup (List.replicate m.toNat vs).flatten) (fun b ob z => Heap.get?_push_of_some _ z) (Nat.le_refl _) ⟨by omega, _, r.rep m.toNat, IsTup.new _ _⟩, rfl, q _ (I.hok.fresh (Nat.le_refl _))⟩
end L2
namespace R
open PySem L2 Evl
section
variable {dA cA dB cB P S : Int}
theorem nd_runN {N : Int} (hcA : 0 ≤ cA) (hdA : 0 ≤ dA) (hcB : 0 ≤ cB) (hdB : 0 ≤ dB) (hP : 0 ≤ P) (hS : 0 ≤ S) (H : ∀ n : Int, 1 ≤ n → n ≤ N → P * (min (cB + dB) (n * dB) - min (cA + dA) (n * dA)) ≤ n * S) :
    ∀ (us : List Int) (kA kB X m j e : Int), (∀ u ∈ us, 0 ≤ u) → 0 ≤ kA → kA ≤ cA → 0 ≤ kB → kB ≤ cB → 0 ≤ m → 0 ≤ j → 0 ≤ e → kB ≤ e + j * dB → P * X + P * e ≤ m * S → (us ≠ [] → P * X + P * max 0 (kB + dB - kA - dA) ≤ (m + j + 1) * S) → m + j + us.length ≤ N →
      P * (X + furs dA cA us kA - furs dB cB us kB) ≤ (m + j + us.length) * S
  | [], kA, kB, X, m, j, e, _, _, _, _, _, hm, hj, he, _, h1, _, _ => by
    show P * (X + 0 - 0) ≤ (m + j + ((0 : Nat) : Int)) * S
    have a1 : 0 ≤ P * e := Int.mul_nonneg hP he
    have a2 : 0 ≤ j * S := Int.mul_nonneg hj hS
    have e1 : X + 0 - 0 = X := by omega
    have e2 : m + j + ((0 : Nat) : Int) = m + j := by omega
    rw [e1, e2, Int.add_mul]
    omega
  | u :: us, kA, kB, X, m, j, e, hu, hA, hA', hB, hB', hm, hj, he, hk, h1, h2, hN => by
    have h2 := h2 (by simp)
    have hN : m + j + ((us.length + 1 : Nat) : Int) ≤ N := hN
    have hu0 := hu u (by simp)
    have hus : ∀ v ∈ us, 0 ≤ v := fun v hv => hu v (by simp [hv])
    have g1 : P * max 0 (dB - dA) ≤ S := by
      have z := H 1 (by decide) (by omega)
      have e1 : min (cB + dB) (1 * dB) - min (cA + dA) (1 * dA) = dB - dA := by omega
      rw [e1, Int.one_mul] at z
      rcases Int.le_total (dB - dA) 0 with h | h
      · rw [Int.max_eq_left h, Int.mul_zero]; exact hS
      · rw [Int.max_eq_right h]; exact z
    have kA0 : 0 ≤ nxM dA cA kA u := by unfold nxM; omega
    have kA1 : nxM dA cA kA u ≤ cA := by unfold nxM; omega
    have kB0 : 0 ≤ nxM dB cB kB u := by unfold nxM; omega
    have kB1 : nxM dB cB kB u ≤ cB := by unfold nxM; omega
    have fin : ∀ m' j' e' : Int, m' + j' = m + j + 1 → 0 ≤ m' → 0 ≤ j' → 0 ≤ e' → nxM dB cB kB u ≤ e' + j' * dB → P * (X + fuM dA kA u - fuM dB kB u) + P * e' ≤ m' * S → (us ≠ [] → P * (X + fuM dA kA u - fuM dB kB u) + P * max 0 (nxM dB cB kB u + dB - nxM dA cA kA u - dA) ≤ (m' + j' + 1) * S) →
        P * (X + (fuM dA kA u + furs dA cA us (nxM dA cA kA u)) - (fuM dB kB u + furs dB cB us (nxM dB cB kB u))) ≤ (m + j + ((us.length + 1 : Nat) : Int)) * S := by
      intro m' j' e' q1 q2 q3 q4 q5 q6 q7
      have z := nd_runN hcA hdA hcB hdB hP hS H us _ _ _ m' j' e' hus kA0 kA1 kB0 kB1 q2 q3 q4 q5 q6 q7 (by omega)
      have e1 : X + (fuM dA kA u + furs dA cA us (nxM dA cA kA u)) - (fuM dB kB u + furs dB cB us (nxM dB cB kB u)) = X + fuM dA kA u - fuM dB kB u + furs dA cA us (nxM dA cA kA u) - furs dB cB us (nxM dB cB kB u) := by omega
      have e2 : m + j + ((us.length + 1 : Nat) : Int) = m' + j' + (us.length : Int) := by omega
      rw [e1, e2]
      exact z
    show P * (X + (fuM dA kA u + furs dA cA us (nxM dA cA kA u)) - (fuM dB kB u + furs dB cB us (nxM dB cB kB u))) ≤ (m + j + ((us.length + 1 : Nat) : Int)) * S
    have hd : P * max 0 (nxM dB cB kB u + dB - nxM dA cA kA u - dA) ≤ P * max 0 (nxM dB cB kB u - nxM dA cA kA u) + S := by
      have z := mul_le hP (show max 0 (nxM dB cB kB u + dB - nxM dA cA kA u - dA) ≤ max 0 (nxM dB cB kB u - nxM dA cA kA u) + max 0 (dB - dA) by omega)
      rw [Int.mul_add] at z
      omega
    by_cases hp : 0 < u - kA - dA
    · have kz : nxM dA cA kA u = 0 := by unfold nxM; omega
      have z : P * (X + fuM dA kA u - fuM dB kB u) + P * nxM dB cB kB u ≤ (m + j + 1) * S := by
        have w := mul_le hP (show X + fuM dA kA u - fuM dB kB u + nxM dB cB kB u ≤ X + max 0 (kB + dB - kA - dA) by unfold fuM nxM; omega)
        rw [Int.mul_add, Int.mul_add] at w
        omega
      refine fin (m + j + 1) 0 (nxM dB cB kB u) (by omega) (by omega) (by omega) kB0 (by omega) z fun _ => ?_
      rw [kz] at hd ⊢
      rw [show max 0 (nxM dB cB kB u - 0) = nxM dB cB kB u by omega] at hd
      have e3 : (m + j + 1 + 0 + 1) * S = (m + j + 1) * S + S := by rw [Int.add_zero, Int.add_mul (m + j + 1) 1 S, Int.one_mul]
      rw [e3]
      omega
    · have hX : P * (X + fuM dA kA u - fuM dB kB u) ≤ P * X := mul_le hP (by unfold fuM; omega)
      have hkB : nxM dB cB kB u ≤ e + (j + 1) * dB := by
        rw [Int.add_mul, Int.one_mul]
        unfold nxM
        omega
      refine fin m (j + 1) e (by omega) hm (by omega) he hkB (by omega) fun hne => ?_
      have hlen : 0 < us.length := List.length_pos_iff.mpr hne
      by_cases ho : kA + dA - u ≤ cA
      · have w := mul_le hP (show max 0 (nxM dB cB kB u - nxM dA cA kA u) ≤ max 0 (kB + dB - kA - dA) by unfold nxM; omega)
        have e3 : (m + (j + 1) + 1) * S = (m + j + 1) * S + S := by rw [show m + (j + 1) + 1 = m + j + 1 + 1 by omega, Int.add_mul (m + j + 1) 1 S, Int.one_mul]
        rw [e3]
        omega
      · have kc : nxM dA cA kA u = cA := by unfold nxM; omega
        have z := H (j + 2) (by omega) (by omega)
        have e4 : (j + 2) * dB = (j + 1) * dB + dB := by rw [show j + 2 = j + 1 + 1 by omega, Int.add_mul (j + 1) 1 dB, Int.one_mul]
        have w := mul_le hP (show nxM dB cB kB u + dB - cA - dA ≤ e + (min (cB + dB) ((j + 2) * dB) - min (cA + dA) ((j + 2) * dA)) by omega)
        rw [Int.mul_add P e] at w
        have e3 : (m + (j + 1) + 1) * S = m * S + (j + 2) * S := by rw [← Int.add_mul]; congr 1; omega
        have p0 : 0 ≤ P * e := Int.mul_nonneg hP he
        have p1 : 0 ≤ (j + 2) * S := Int.mul_nonneg (by omega) hS
        rw [e3, kc]
        rcases Int.le_total (nxM dB cB kB u + dB - cA - dA) 0 with h | h
        · rw [Int.max_eq_left h, Int.mul_zero]
          omega
        · rw [Int.max_eq_right h]
          omega
end
/-- months below the fewest that show: never dearer -/
theorem few_below {a b : Plan} (oa : a.Ok) (ob : b.Ok) {n : Int} (h : Few a b n) {us : List Int} (hu : ∀ u ∈ us, 0 ≤ u) (hl : (us.length : Int) < n) : costM a us ≤ costM b us := by
  rcases Nat.eq_zero_or_pos us.length with h0 | hpos
  · rw [List.length_eq_zero_iff.mp h0]; exact Int.le_refl _
  obtain ⟨f1, f2, f3⟩ := h
  have hf := f2 1 (by decide) (by omega)
  have H : ∀ k : Int, 1 ≤ k → k ≤ us.length → a.price * (min (b.cap + b.data) (k * b.data) - min (a.cap + a.data) (k * a.data)) ≤ k * (b.fee - a.fee) := fun k k1 k2 => Int.not_lt.mp (f2 k k1 (by omega)).2.2
  have z := nd_runN oa.c0 oa.d0 ob.c0 ob.d0 oa.p0 (show 0 ≤ b.fee - a.fee by omega) H us 0 0 0 0 0 0 hu (Int.le_refl 0) oa.c0 (Int.le_refl 0) ob.c0 (Int.le_refl 0) (Int.le_refl 0) (Int.le_refl 0) (by omega) (by simp) (fun _ => by
    have w := H 1 (by decide) (by omega)
    have c1 := oa.c0
    have c2 := ob.c0
    have e1 : min (b.cap + b.data) (1 * b.data) - min (a.cap + a.data) (1 * a.data) = b.data - a.data := by omega
    rw [e1] at w
    rcases Int.le_total (b.data - a.data) 0 with h | h
    · rw [Int.max_eq_left (by omega)]; simp; omega
    · rw [Int.max_eq_right (by omega)]
      have e2 : 0 + b.data - 0 - a.data = b.data - a.data := by omega
      rw [e2, Int.mul_zero, Int.zero_add]
      exact w) (by omega)
  rw [costM_eq, costM_eq]
  have p0 := furs_nonneg b.data b.cap us 0
  have p1 : 0 ≤ (b.price - a.price) * furs b.data b.cap us 0 := Int.mul_nonneg (by omega) p0
  rw [Int.sub_mul] at p1
  rw [Int.mul_sub, Int.mul_add, Int.mul_zero, Int.zero_add, Int.zero_add] at z
  have e2 : (0 + (us.length : Int)) * (b.fee - a.fee) = b.fee * us.length - a.fee * us.length := by rw [Int.zero_add, Int.mul_sub, Int.mul_comm, Int.mul_comm _ a.fee]
  have e2' : (us.length : Int) * (b.fee - a.fee) = b.fee * us.length - a.fee * us.length := by rw [Int.mul_sub, Int.mul_comm, Int.mul_comm _ a.fee]
  omega
/-! ### a tuple up to 100000 times -/
def fRepB : DF
  | .d (.tup ds), .d (.int k), M, Q => (ds ≠ [] ∧ ds.length ≤ 100 ∧ -1000000 ≤ k ∧ k ≤ 100000) ∧ Q (.d (.tup (List.replicate k.toNat ds).flatten)) M
  | _, _, _, _ => False
theorem okR_repB {K : PySem.W.Frag} : OkR K (fun x y H Q => rRepBig K x y H Q ∨ rRepLow K x y H Q) fRepB := by
  intro u G H as M x y sx sy Q Qv sr rx ry h fin
  unfold fRepB at h
  split at h
  · rename_i ds k
    obtain ⟨p, xs, rfl, hp, hxs⟩ := rep_tup.mp rx.d
    cases rep_int.mp ry.d
    obtain ⟨⟨h1, h2, h3, h4⟩, h⟩ := h
    have ne : xs ≠ [] := fun e => h1 (by have := hxs.len; rw [e] at this; exact List.length_eq_zero_iff.mp this.symm)
    by_cases hk : 2 ≤ k
    · exact .inl ⟨p, k, xs, rfl, rfl, SqT.of (sr.gh _ _ hp), ne, hk, h4, by rw [hxs.len]; exact h2, fun l hl => fin.tup sr (reps_many hxs _) h hl⟩
    · refine .inr ⟨p, k, xs, rfl, rfl, SqT.of (sr.gh _ _ hp), ne, h3, by omega, fun e => ?_, fun e l hl => ?_⟩
      · refine fin.here sr (s := .d (.tup _)) ?_ h
        subst e
        show Rep G (.tup (List.replicate 1 ds).flatten) (.ref p)
        have : (List.replicate 1 ds).flatten = ds := by simp
        rw [this]; exact rx.d
      · have e0 : k.toNat = 0 := by omega
        rw [e0] at h
        exact fin.tup sr (ds := []) (reps_nil.mpr rfl) h hl
  · exact h.elim
theorem d_repB {X : Cx} {E : XK} {a b : Expr} {wa wb : DW} {pos : Pos} (ha : DE X E a wa) (hb : DE X E b wb) : DE X E (.BinOp a .Mult b pos) (wOp fRepB wa wb) := d_op (opEither op_repBig op_repLow) okR_repB ha hb
end R
/-! Layer R, part 19: more rules: a, b = e, f with a cell among the names; sorted ints. -/
namespace R
open PySem L2 Evl
section
variable {K : PySem.W.Frag} {E : XK}
theorem okS_parC {i j : Nat} {ta : TA} {wa : DAW} (h1 : OkA K E ta wa) : OkS K E (tAsg (tTup ta) (gTup K 2 (gCons (gName i) (gCons (gName j) gNil)))) (wPar i j wa) := by
  intro u G H as M env σ Dn Dv c e h
  refine h1 u G H as M env σ _ _ c h fun vs G1 H1 as1 M1 ss sr1 l1 rs q1 => ?_
  split at q1
  · rename_i s t
    obtain ⟨v, w, rfl, r1, r2⟩ := rs.two
    refine ⟨Nat.le_trans (show 2 ≤ 1000 by decide) line1000, fun p hp => ⟨p, [v, w], rfl, SqT.of upd_same, rfl, v, [w], rfl, w, [], rfl, rfl, ?_⟩⟩
    have l2 := sr1.le_laid (o := .tup [v, w]) hp
    exact e.nx _ _ _ as1 M1 _ (sr1.laid hp) (l1.trans l2) ((((c.er.mono l1).mono l2).set i (r1.mono l2)).set j (r2.mono l2)) q1
  · exact q1.elim
def fSortI : DFC
  | [.d (.lst ds)], M, Q => ∃ ns : List Int, ds = ns.map D.int ∧ ∀ ns' : List Int, ns'.Perm ns → ns'.Pairwise (· ≤ ·) → Q (.d (.lst (ns'.map D.int))) M
  | _, _, _ => False
theorem okC_sorted : OkC K (rSortedI K) fSortI := by
  intro u G H as M xs ss Q Qv sr rs h fin
  unfold fSortI at h
  split at h
  · rename_i ds
    obtain ⟨ns, rfl, h⟩ := h
    obtain ⟨v, rfl, r⟩ := rs.one
    obtain ⟨p, xs, rfl, hp, hxs⟩ := rep_lst.mp r.d
    cases reps_ints.mp hxs
    exact ⟨p, ns, rfl, SqL.of (sr.gh _ _ hp), fun ns' q h1 h2 hq => fin.lst sr (reps_ints.mpr rfl) (h ns' h1 h2) hq⟩
  · exact h.elim
theorem bt_sorted : bootBuiltins "sorted" = some (.builtin "sorted") := by decide +kernel
end
section
variable {X : Cx} {E : XK}
theorem s_parC {i j : Nat} {x y : Str} {a b : Expr} {wl : DAW} {px py pt pos : Pos} {kt k2 pt2} (hN : X.N.Nodup) (ha : DA X E [a, b] wl) (hc : X.calm = true := by rfl) (hi : X.N[i]? = some x := by rfl) (hj : X.N[j]? = some y := by rfl)
    (hx : Loc X.env.scope x := by first | exact Or.inl rfl | exact Or.inr rfl) (hy : Loc X.env.scope y := by first | exact Or.inl rfl | exact Or.inr rfl)
    (hfx : X.fn x = true ∨ X.env.scope.names.lookup x = some .local := by first | exact .inl rfl | exact .inr rfl | assumption) (hfy : X.fn y = true ∨ X.env.scope.names.lookup y = some .local := by first | exact .inl rfl | exact .inr rfl | assumption)
    (hs : swapsWithSole [.Tuple [.Name x px, .Name y py] kt pt] (.Tuple [a, b] k2 pt2) pos.line X.env = pure false := by rfl) (hw : swappedStores [.Tuple [.Name x px, .Name y py] kt pt] (.Tuple [a, b] k2 pt2) X.env = pure none := by rfl) :
    DS X E (.Assign [.Tuple [.Name x px, .Name y py] kt pt] (.Tuple [a, b] k2 pt2) pos) (wPar i j wl) :=
  .mk' (ps_asg (pe_tup ha.pe) (pg_tup hc (pgs_cons (pg_name hN hi hx hfx) (pgs_cons (pg_name hN hj hy hfy) pgs_nil)) rfl rfl) hs hw) (okS_parC okAW)
end
end R
/-! Layer R, part 20: a value over a lent own list, x in xs of any depth; what bills tell. -/
namespace R
open PySem L2 Evl
/-- a value over a lent own list: a bool comes back -/
def wBorE (i : Nat) (w : DW) : DW := fun X env M Q => match env[i]? with
  | some (some (.m k)) => (match M[k]? with
    | some (.lst ds) => (M.set k .dead).all isBD = true ∧ w X (env.set i (some (.d (.lst ds)))) (M.set k .dead) fun s M2 => match s with
      | .d (.bl b) => M2.take M.length = M.set k .dead ∧ Q (.d (.bl b)) M
      | _ => False
    | _ => False)
  | _ => False
def fInD : DF
  | .d d, .d (.lst ds), M, Q => Sh 9 d ∧ Sh 9 (.lst ds) ∧ Q (.d (.bl (ds.any fun z => eqD z d))) M
  | _, _, _, _ => False
def fNinD : DF
  | .d d, .d (.lst ds), M, Q => Sh 9 d ∧ Sh 9 (.lst ds) ∧ Q (.d (.bl (!ds.any fun z => eqD z d))) M
  | _, _, _, _ => False
theorem any_py (d : D) : ∀ ds : List D, (pys ds).any (fun z => PyData.eqv z d.py) = ds.any fun z => eqD z d
  | [] => by unfold pys; rfl
  | z :: zs => by
    unfold pys
    rw [List.any_cons, List.any_cons, any_py d zs]
    rfl
section
variable {K : PySem.W.Frag} {E : XK}
theorem okE_bor {i : Nat} {t : TE} {w : DW} (h1 : OkE K E t w) : OkE K E t (wBorE i w) := by
  intro u G H as M env σ Q Qv c h fin
  unfold wBorE at h
  split at h
  · rename_i k ek
    split at h
    · rename_i ds em
      obtain ⟨hb, h⟩ := h
      obtain ⟨v, e1, p, hp, rfl⟩ := c.er.get i _ ek
      obtain ⟨xs, sr', ex, rep⟩ := c.sr.freeze hp em
      have l : Le G as (upd G p (.lst xs)) as := ⟨ex, [], by simp⟩
      have er : ER K as (upd G p (.lst xs)) (env.set i (some (.d (.lst ds)))) σ := by
        have q := (c.er.mono l).set i (s := .d (.lst ds)) (v := .ref p) rep
        rw [set_id e1] at q
        exact q
      refine h1 u _ H as _ _ σ _ _ ⟨c.eE, c.xok, sr', er⟩ h fun v G2 H2 as2 M2 s sr2 l2 r2 q2 => ?_
      split at q2
      · rename_i b
        obtain ⟨hM, q⟩ := q2
        have hx : Reps G ds xs := by
          obtain ⟨_, _, ys, hy, hr⟩ := c.sr.ms k p _ hp em
          have : xs = ys := by
            have z := sr'.gh p _ upd_same
            rw [hy] at z
            cases z; rfl
          rw [this]; exact hr
        cases rep_bl.mp r2.d
        obtain ⟨s3, l3⟩ := c.sr.unlend hp em hx sr2 l2 hM hb
        exact fin _ _ H2 as M (.d (.bl b)) s3 l3 srp_bl q
      · exact q2.elim
    · exact h.elim
  · exact h.elim
theorem okR_inD : OkR K (rInD K) fInD := by
  intro u G H as M x y sx sy Q Qv sr rx ry h fin
  unfold fInD at h
  split at h
  · rename_i d ds
    have e : (D.lst ds).py = .list (pys ds) := by unfold D.py; rfl
    refine ⟨d.py, pys ds, Rep.dp sr.gh rx, by rw [← e]; exact Rep.dp sr.gh ry, shaped_of h.1 (by decide), by rw [← e]; exact shaped_of h.2.1 (by decide), ?_⟩
    rw [any_py]
    exact fin.here sr (s := .d (.bl _)) srp_bl h.2.2
  · exact h.elim
theorem okR_ninD : OkR K (rNotInD K) fNinD := by
  intro u G H as M x y sx sy Q Qv sr rx ry h fin
  unfold fNinD at h
  split at h
  · rename_i d ds
    have e : (D.lst ds).py = .list (pys ds) := by unfold D.py; rfl
    refine ⟨d.py, pys ds, Rep.dp sr.gh rx, by rw [← e]; exact Rep.dp sr.gh ry, shaped_of h.1 (by decide), by rw [← e]; exact shaped_of h.2.1 (by decide), ?_⟩
    rw [any_py]
    exact fin.here sr (s := .d (.bl _)) srp_bl h.2.2
  · exact h.elim
end
section
variable {X : Cx} {E : XK} {a b e : Expr} {wa wb we : DW} {pos : Pos}
theorem d_bor (i : Nat) {w : DW} (h : DE X E e w) : DE X E e (wBorE i w) := .mk' h.pe (okE_bor okW)
theorem d_inD {k : Nat} (hr : Room k X.A) (ha : DE X E a wa) (hb : DE X E b wb) (hm : behindInMarks .In b = false := by rfl) : DE X E (.Compare a [.In] [b] pos) (wOp fInD wa wb) := d_cmp (op_inD (by have := hr.un; omega)) okR_inD ha hb hm
theorem d_ninD {k : Nat} (hr : Room k X.A) (ha : DE X E a wa) (hb : DE X E b wb) (hm : behindInMarks .NotIn b = false := by rfl) : DE X E (.Compare a [.NotIn] [b] pos) (wOp fNinD wa wb) := d_cmp (op_notInD (by have := hr.un; omega)) okR_ninD ha hb hm
theorem t_inD {k : Nat} (hr : Room k X.A) (ha : DE X E a wa) (hb : DE X E b wb) (hm : behindInMarks .In b = false := by rfl) : DT X E (.Compare a [.In] [b] pos) (wTst (wOp fInD wa wb)) := t_cmp (op_inD (by have := hr.un; omega)) okR_inD ha hb hm
theorem t_ninD {k : Nat} (hr : Room k X.A) (ha : DE X E a wa) (hb : DE X E b wb) (hm : behindInMarks .NotIn b = false := by rfl) : DT X E (.Compare a [.NotIn] [b] pos) (wTst (wOp fNinD wa wb)) := t_cmp (op_notInD (by have := hr.un; omega)) okR_ninD ha hb hm
end
/-! ### equality of rows of ints -/
theorem eqD_same {d : D} {n : Nat} (h : Sh n d) : eqD d d = true := PySem.SeqAt.eqv_refl d.py (Sh.ok h).1
theorem sh_ints (ns : List Int) : Sh 9 (.lst (ns.map D.int)) := sh_us ns
theorem eqD_tints : ∀ a b : List Int, eqD (.tup (a.map D.int)) (.tup (b.map D.int)) = decide (a = b)
  | [], [] => rfl
  | [], b :: bs => rfl
  | a :: as, [] => rfl
  | a :: as, b :: bs => by
    show ((a == b) && eqD (.tup (as.map D.int)) (.tup (bs.map D.int))) = _
    rw [eqD_tints as bs, Bool.eq_iff_iff]
    simp
theorem eqD_lints (a b : List Int) : eqD (.lst (a.map D.int)) (.lst (b.map D.int)) = decide (a = b) := eqD_tints a b
/-! ### what bills tell -/
structure BiOk (cs : List Int) : Prop where
  len : cs.length ≤ 36
  all : ∀ c ∈ cs, 0 ≤ c ∧ c ≤ 1000000000
def sp_check_bills : DSpec := fun ads Q => ∃ cs : List Int, ads = [.d (usD cs)] ∧ BiOk cs ∧ Q (.d .non) []
theorem l_check_bills : ∀ ads Q, sp_check_bills ads Q → ads.length = 1 := by rintro _ _ ⟨_, rfl, _⟩; rfl
def w_check_bills : DSw := (wSeq (wAsg (wAndV (wIsi1 .tuple (wVar 0)) (wOp fLe (wCB fLen (wCons (wVar 0) wNil)) (wC (.int 36)))) (wgName 1)) (wIfS (wOrT (wNotT (wTst (wVar 1))) (wNotT (wTst (wCB fAll (wCons (wLc (wiTup (wVar 0)) (wgName 2) wYes (wCall sp_in_range (wCons (wVar 2) (wCons (wC (.int 0)) (wCons (wC (.int 1000000000)) wNil)))) [2]) wNil))))) wNever wNext))
theorem v_check_bills : Keeps w_check_bills 2 sp_check_bills := by
  rintro ads Q ⟨cs, rfl, ok, q⟩
  have hl := ok.len
  have h1 : decide (((cs.map D.int).length : Int) ≤ 36) = true := decide_eq_true (by rw [List.length_map]; omega)
  refine if_f (by show (!decide (((cs.map D.int).length : Int) ≤ 36)) = false; rw [h1]; rfl) ?_
  refine dLc_dmap cs D.int (fun c => .bl (inR (.int c) 0 1000000000)) (by omega) (fun c _ k hk => ⟨nod0, .int c, 0, _, rfl, hk⟩) ?_
  refine ⟨cs.map fun c => inR (.int c) 0 1000000000, by rw [List.map_map]; rfl, if_f ?_ q⟩
  have : (cs.map fun c => inR (.int c) 0 1000000000).all id = true := by
    rw [List.all_map, List.all_eq_true]
    intro c hc
    exact inR_int (ok.all c hc).1 (ok.all c hc).2
  rw [this]; rfl
def billsM (p : Plan) (us : List Int) : List Int := (playM p us 0).map Row.cost
theorem costs_bd {p : Plan} (ok : p.Ok) : ∀ (us : List Int) (k : Int), 0 ≤ k → (∀ u ∈ us, 0 ≤ u ∧ u ≤ 1000000) → ∀ c ∈ (playM p us k).map Row.cost, p.fee ≤ c ∧ c ≤ 100010000
  | [], _, _, _, c, h => by cases h
  | u :: us, k, hk, hu, c, h => by
    have d0 := ok.d0
    have c0 := ok.c0
    rcases List.mem_cons.mp h with rfl | h
    · show p.fee ≤ p.fee + p.price * fuM p.data k u ∧ p.fee + p.price * fuM p.data k u ≤ 100010000
      have u1 := (hu u List.mem_cons_self).2
      have u0 := (hu u List.mem_cons_self).1
      have f0 : 0 ≤ fuM p.data k u := by unfold fuM; omega
      have f1 : fuM p.data k u ≤ 1000000 := by unfold fuM; omega
      have z0 := Int.mul_nonneg ok.p0 f0
      have z1 : p.price * fuM p.data k u ≤ 100 * 1000000 := Int.mul_le_mul ok.p1 f1 f0 (by decide)
      have := ok.f1
      omega
    · exact costs_bd ok us (nxM p.data p.cap k u) (by unfold nxM; omega) (fun v hv => hu v (List.mem_cons_of_mem _ hv)) c h
theorem billsM_len (p : Plan) (us : List Int) : (billsM p us).length = us.length := by unfold billsM; rw [List.length_map, playM_len]
theorem bills_ok {p : Plan} (ok : p.Ok) {us : List Int} (hu : UsOk us) : BiOk (billsM p us) :=
  ⟨by rw [billsM_len]; exact hu.len, fun c hc => by have := costs_bd ok us 0 (Int.le_refl 0) hu.all c hc; have := ok.f0; omega⟩
/-- all pairs of small numbers that fit -/
def pD (x : Nat × Nat) : D := .tup [.int x.1, .int x.2]
def fitRowP (us cs : List Int) (fee price : Int) (d n : Nat) : List (Nat × Nat) := ((List.range n).filter fun (c : Nat) => decide (billsM ⟨fee, d, c, price⟩ us = cs)).map fun c => (d, c)
def fitP (us cs : List Int) (fee price : Int) (n m : Nat) : List (Nat × Nat) := ((List.range n).map fun d => fitRowP us cs fee price d m).flatten
theorem mem_fitP {us cs : List Int} {fee price : Int} {n m : Nat} {x : Nat × Nat} : x ∈ fitP us cs fee price n m ↔ x.1 < n ∧ x.2 < m ∧ billsM ⟨fee, x.1, x.2, price⟩ us = cs := by
  obtain ⟨d, c⟩ := x
  unfold fitP fitRowP
  rw [List.mem_flatten]
  constructor
  · rintro ⟨l, hl, hx⟩
    obtain ⟨d', hd, rfl⟩ := List.mem_map.mp hl
    obtain ⟨c', hc, e⟩ := List.mem_map.mp hx
    cases e
    obtain ⟨h1, h2⟩ := List.mem_filter.mp hc
    exact ⟨List.mem_range.mp hd, List.mem_range.mp h1, of_decide_eq_true h2⟩
  · rintro ⟨h1, h2, h3⟩
    exact ⟨_, List.mem_map.mpr ⟨d, List.mem_range.mpr h1, rfl⟩, List.mem_map.mpr ⟨c, List.mem_filter.mpr ⟨List.mem_range.mpr h2, decide_eq_true h3⟩, rfl⟩⟩
def fitRow (us cs : List Int) (fee price : Int) (d n : Nat) : List D := ((List.range n).filter fun (c : Nat) => decide (billsM ⟨fee, d, c, price⟩ us = cs)).map fun (c : Nat) => D.tup [.int d, .int c]
def fitD (us cs : List Int) (fee price : Int) (n m : Nat) : List D := ((List.range n).map fun (d : Nat) => fitRow us cs fee price d m).flatten
theorem fitRow_P (us cs : List Int) (fee price : Int) (d n : Nat) : fitRow us cs fee price d n = (fitRowP us cs fee price d n).map pD := by
  unfold fitRow fitRowP
  rw [List.map_map]; rfl
theorem fitD_P (us cs : List Int) (fee price : Int) (n m : Nat) : fitD us cs fee price n m = (fitP us cs fee price n m).map pD := by
  unfold fitD fitP
  rw [List.map_flatten, List.map_map]
  congr 1
  apply List.map_congr_left
  intro d _
  exact fitRow_P us cs fee price d m
theorem fitRow_suc (us cs : List Int) (fee price : Int) (d n : Nat) : fitRow us cs fee price d (n + 1) = fitRow us cs fee price d n ++ (if billsM ⟨fee, d, n, price⟩ us = cs then [D.tup [.int d, .int n]] else []) := by
  unfold fitRow
  rw [List.range_succ, List.filter_append, List.map_append]
  congr 1
  by_cases h : billsM ⟨fee, d, n, price⟩ us = cs
  · rw [if_pos h, List.filter_cons_of_pos (by simpa using h)]; rfl
  · rw [if_neg h, List.filter_cons_of_neg (by simpa using h)]; rfl
theorem fitD_suc (us cs : List Int) (fee price : Int) (n m : Nat) : fitD us cs fee price (n + 1) m = fitD us cs fee price n m ++ fitRow us cs fee price n m := by
  unfold fitD
  rw [List.range_succ, List.map_append, List.flatten_append]
  simp
theorem fitRow_len (us cs : List Int) (fee price : Int) (d n : Nat) : (fitRow us cs fee price d n).length ≤ n := by
  unfold fitRow
  rw [List.length_map]
  exact Nat.le_trans (List.length_filter_le _ _) (by rw [List.length_range]; exact Nat.le_refl _)
theorem fitD_len (us cs : List Int) (fee price : Int) (m : Nat) : ∀ n, (fitD us cs fee price n m).length ≤ n * m
  | 0 => by show 0 ≤ _; omega
  | n + 1 => by
    rw [fitD_suc, List.length_append, Nat.add_mul]
    have := fitD_len us cs fee price m n
    have := fitRow_len us cs fee price n m
    omega
theorem sh_pairs : ∀ xs : List (Nat × Nat), Sh 9 (.lst (xs.map pD))
  | [] => trivial
  | x :: xs => ⟨⟨trivial, trivial, trivial⟩, sh_pairs xs⟩
theorem pl_pairs {xs : List (Nat × Nat)} (h : xs.length ≤ 16000000) : Pl 4 (.lst (xs.map pD)) := ⟨by rw [List.length_map]; exact h, fun d hd => by
  obtain ⟨x, _, rfl⟩ := List.mem_map.mp hd
  refine ⟨by show 2 ≤ 16000000; decide, fun d hd => ?_⟩
  rcases List.mem_cons.mp hd with rfl | hd
  · trivial
  · rw [List.mem_singleton.mp hd]; trivial⟩
theorem pD_in {xs : List (Nat × Nat)} {x : Nat × Nat} (h : x ∈ xs) : ((xs.map pD).any fun z => eqD z (.tup [.int x.1, .int x.2])) = true :=
  List.any_eq_true.mpr ⟨pD x, List.mem_map.mpr ⟨x, h, rfl⟩, eqD_same (n := 2) (d := pD x) (by show Shs 1 [_, _]; exact ⟨trivial, trivial, trivial⟩)⟩
def sp_fitting_plans : DSpec := fun ads Q => ∃ (us cs : List Int) (fee price : Int), ads = [.d (usD us), .d (usD cs), .d (.int fee), .d (.int price)] ∧ UsOk us ∧ BiOk cs ∧ 0 ≤ fee ∧ fee ≤ 10000 ∧ 0 ≤ price ∧ price ≤ 100 ∧ Q (.m 0) [.lst (fitD us cs fee price 31 61)]
theorem l_fitting_plans : ∀ ads Q, sp_fitting_plans ads Q → ads.length = 4 := by rintro _ _ ⟨_, _, _, _, rfl, _⟩; rfl
def w_fitting_plans : DSw := (wSeq (wDrop (wCall sp_check_usage (wCons (wVar 0) wNil))) (wSeq (wDrop (wCall sp_check_bills (wCons (wVar 1) wNil))) (wSeq (wDrop (wCall sp_check_number (wCons (wVar 2) (wCons (wC (.int 0)) (wCons (wC (.int 10000)) wNil))))) (wSeq (wDrop (wCall sp_check_number (wCons (wVar 3) (wCons (wC (.int 0)) (wCons (wC (.int 100)) wNil))))) (wSeq (wAsg (wLstO wNil) (wgName 4)) (wSeq (wFor (wiR1 (wCons (wOp fAdd (wC (.int 30)) (wC (.int 1))) wNil)) (wgName 5) (wFor (wiR1 (wCons (wOp fAdd (wC (.int 60)) (wC (.int 1))) wNil)) (wgName 6) (wIfS (wTst (wOp fEq (wCB fTupOf (wCons (wLc (wiLst (wFz (wCall sp_played (wCons (wTup (wCons (wVar 2) (wCons (wVar 5) (wCons (wVar 6) (wCons (wVar 3) wNil))))) (wCons (wVar 0) (wCons (wC (.int 0)) wNil)))))) (wgName 7) wYes (wOp fIx (wVar 7) (wC (.int 0))) [7]) wNil)) (wVar 1))) (wDrop (wAppend (wVar 4) (wTup (wCons (wVar 5) (wCons (wVar 6) wNil))))) wNext))) (wRet (wVar 4))))))))
theorem v_fitting_plans : Keeps w_fitting_plans 4 sp_fitting_plans := by
  rintro ads Q ⟨us, cs, fee, price, rfl, hu, hb, f0, f1, p0, p1, q⟩
  have hl := hu.len
  obtain ⟨N, hN⟩ : ∃ N : Nat, N = 31 := ⟨_, rfl⟩
  obtain ⟨L, hL⟩ : ∃ L : Nat, L = 61 := ⟨_, rfl⟩
  have q : Q (.m 0) [.lst (fitD us cs fee price N L)] := by rw [hN, hL]; exact q
  refine ⟨nod0, us, rfl, hu, nod0, cs, rfl, hb, nod0, fee, 0, _, rfl, f0, f1, nod0, price, 0, _, rfl, p0, p1, rfl, ⟨by decide, by decide⟩, ?_⟩
  refine ⟨fun i env M => ∃ x5 x6 x7, env = [some (.d (usD us)), some (.d (usD cs)), some (.d (.int fee)), some (.d (.int price)), some (.m 0), x5, x6, x7] ∧ M = [.lst (fitD us cs fee price i L)], ⟨_, _, _, rfl, rfl⟩, ?_, ?_⟩
  · rintro i s env M hs ⟨x5, x6, x7, rfl, rfl⟩
    obtain ⟨hi, rfl⟩ := rng_get hs
    have hi : i < 31 := hi
    refine ⟨⟨by decide, by decide⟩, ?_⟩
    refine ⟨fun j env M => ∃ x6 x7, env = [some (.d (usD us)), some (.d (usD cs)), some (.d (.int fee)), some (.d (.int price)), some (.m 0), some (.d (.int (i : Int))), x6, x7] ∧ M = [.lst (fitD us cs fee price i L ++ fitRow us cs fee price i j)], ⟨x6, x7, by rw [show (0 : Int) + (i : Int) = (i : Int) by omega]; rfl, by show _ = [MO.lst (_ ++ [])]; rw [List.append_nil]⟩, ?_, ?_⟩
    · rintro j s env M hs ⟨x6, x7, rfl, rfl⟩
      obtain ⟨hj, rfl⟩ := rng_get hs
      have hj : j < 61 := hj
      have jj : (0 : Int) + (j : Int) = (j : Int) := by omega
      rw [jj]
      refine ⟨rfl, nod0, ⟨fee, i, j, price⟩, us, 0, rfl, ⟨f0, f1, by show (0 : Int) ≤ (i : Int); omega, by show (i : Int) ≤ 1000; omega, by show (0 : Int) ≤ (j : Int); omega, by show (j : Int) ≤ 10000; omega, p0, p1⟩, by omega, Nat.le_refl 1, ?_⟩
      refine dLc_dmap (playM ⟨fee, i, j, price⟩ us 0) Row.D (fun r => .int r.cost) (by rw [playM_len]; omega) (fun r _ k hk => hk) ?_
      have e : (playM ⟨fee, i, j, price⟩ us 0).map (fun r => D.int r.cost) = (billsM ⟨fee, i, j, price⟩ us).map D.int := by unfold billsM; rw [List.map_map]; rfl
      rw [e]
      refine ⟨sh_us _, sh_us _, ?_⟩
      have e2 : eqD (.tup ((billsM ⟨fee, i, j, price⟩ us).map D.int)) (usD cs) = decide (billsM ⟨fee, i, j, price⟩ us = cs) := eqD_tints _ _
      rw [e2]
      have fl := fitD_len us cs fee price L i
      have rl := fitRow_len us cs fee price i j
      have il : i * L ≤ 31 * 61 := by rw [hL]; omega
      refine ifd (fun h => ?_) (fun h => ?_)
      · refine ⟨rfl, by rw [List.length_append]; omega, some (.d (.int (j : Int))), x7, rfl, ?_⟩
        rw [fitRow_suc, if_pos h, ← List.append_assoc]; rfl
      · refine ⟨some (.d (.int (j : Int))), x7, rfl, ?_⟩
        rw [fitRow_suc, if_neg h, List.append_nil]; rfl
    · rintro env M ⟨x6, x7, rfl, rfl⟩
      rw [rngS_len]
      refine ⟨some (.d (.int (i : Int))), x6, x7, rfl, ?_⟩
      rw [fitD_suc, hL]; rfl
  · rintro env M ⟨x5, x6, x7, rfl, rfl⟩
    rw [rngS_len]
    subst hN
    subst hL
    exact q
end R
/-! Layer R, part 21: zip of a tuple and a list. -/
namespace ZM
open PySem PyProof.Rows
/-- all stays but at these places -/
def Kp (cs : List Addr) (h k : Heap) : Prop := ∀ (c : Addr) (o : Obj), c ∉ cs → h.get? c = some o → k.get? c = some o
/-- the next turn of an iterator gives v, and changes the iterator alone -/
def Gives (M : Model) (it : Addr) (v : Value) (h : Heap) (S : Heap → Prop) : Prop := ∀ (A : Around) (E : Value → Shared → Prop) (s : Shared) (Q : Value → Shared → Prop), s.heap = h → (∀ k, S k → Heap.SameBut it h k → Q v { s with heap := k }) → wpAny M A (Builtin.SmallTypes.nextOf (.ref it)) Q E s
/-- an iterator is at its end -/
def Over (M : Model) (it : Addr) (h : Heap) : Prop := ∀ (A : Around) (E : Value → Shared → Prop) (s : Shared) (Q : Value → Shared → Prop), A.handled = none → s.heap = h → (∀ k e, Heap.ExtBut it h k → (∃ o, k.get? e = some o ∧ o.cls = .type "StopIteration") → E (.ref e) { s with heap := k }) → wpAny M A (Builtin.SmallTypes.nextOf (.ref it)) Q E s
section
variable {prog : Program} {w : World} {A : Around} {E : Value → Shared → Prop} {s : Shared} {z TI TO i j : Addr} {x y a b : Value} {S T : Heap → Prop}
theorem next_two {Q : Value → Shared → Prop} (hdis : [z, TI, TO, i, j].Nodup) (hz : IsZip s.heap z TI TO .none) (hI : IsPair s.heap TI (.ref i) (.ref j)) (hO : IsPair s.heap TO a b)
    (g1 : ∀ k, Kp [z] s.heap k → Gives (model prog w) i x k S) (g2 : ∀ k, Kp [z, TO, i] s.heap k → Gives (model prog w) j y k T)
    (p1 : ∀ h k, S h → (∀ o, h.get? i = some o → k.get? i = some o) → S k) (p2 : ∀ h k, T h → (∀ o, h.get? j = some o → k.get? j = some o) → T k)
    (fin : ∀ k, IsZip k z TI TO (rawInt s.heap.objs.size) → IsPair k TO x y → S k → T k → IsPair k s.heap.objs.size x y → k.objs.size = s.heap.objs.size + 1 → Kp [z, TO, i, j] s.heap k → Q (.ref s.heap.objs.size) { s with heap := k }) :
    wpAny (model prog w) A (Builtin.«zip.__next__» ⟨[.ref z], []⟩) (fun r t => ∃ v, r = .done (.ret v) ∧ Q v t) E s := by
  simp only [List.nodup_cons, List.mem_cons, List.not_mem_nil, or_false, not_or] at hdis
  obtain ⟨⟨zI, zO, zi, zj⟩, ⟨IO, Ii, Ij⟩, ⟨Oi, Oj⟩, ij, _⟩ := hdis
  show wpAny _ _ (field (.ref z) 2 >>= _) _ _ _
  refine wpAny_bind (wpAny_field hz rfl (x := .bool false) rfl (?_ : wpAny _ _ (field (.ref z) 3 >>= _) _ _ _))
  refine wpAny_bind (wpAny_field hz rfl (x := .ref TI) rfl (wpAny_bind (wpAny_seqItems hI rfl ?_)))
  refine wpAny_bind (m := Builtin.SmallTypes.ownedTupleIsFree (.ref z)) ?_
  unfold Builtin.SmallTypes.ownedTupleIsFree
  refine wpAny_bind (wpAny_field hz rfl (x := .none) rfl (wpAny_pure ?_))
  simp only [if_true]
  refine wpAny_bind (wpAny_rule (wpAny_bind (wpAny_field hz rfl (x := .ref TO) rfl (wpAny_bind (wpAny_setField_rec hz (by simp) fun k1 z1 e1 => wpAny_bind ?_)))))
  have f1 : Kp [z] s.heap k1 := fun c o hc q => e1.extBut _ _ (by simpa using hc) q
  simp only [List.zipIdx_cons, List.zipIdx_nil, List.forIn_cons, List.forIn_nil]
  refine wpAny_bind (wpAny_bind (wpAny_onRaise ?_))
  refine wpAny_bind (m := Builtin.SmallTypes.nextOf (.ref i)) (g1 k1 f1 _ _ _ _ rfl fun k2 s2 e2 => wpAny_pure ?_)
  have o2 : IsPair k2 TO a b := e2.extBut _ _ Oi (f1 TO _ (by simpa using Ne.symm zO) hO)
  refine wpAny_bind (wpAny_seqItems o2 rfl (wpAny_bind (wpAny_updateSeq_pair o2 fun k3 o3 e3 => wpAny_bind (wpAny_letGo (wpAny_pure (wpAny_bind (wpAny_bind (wpAny_onRaise ?_))))))))
  have o3 : IsPair k3 TO x b := o3
  have f3 : Kp [z, TO, i] s.heap k3 := fun c o hc q => by
    simp only [List.mem_cons, List.not_mem_nil, or_false, not_or] at hc
    exact e3.extBut _ _ hc.2.1 (e2.extBut _ _ hc.2.2 (f1 c o (by simpa using hc.1) q))
  refine wpAny_bind (m := Builtin.SmallTypes.nextOf (.ref j)) (g2 k3 f3 _ _ _ _ rfl fun k4 s4 e4 => wpAny_pure ?_)
  have o4 : IsPair k4 TO x b := e4.extBut _ _ Oj o3
  refine wpAny_bind (wpAny_seqItems o4 rfl (wpAny_bind (wpAny_updateSeq_pair o4 fun k5 o5 e5 => wpAny_bind (wpAny_letGo (wpAny_pure (wpAny_pure ?_))))))
  have o5 : IsPair k5 TO x y := o5
  refine wpAny_bind (wpAny_seqItems o5 rfl (wpAny_bind (wpAny_newTuple ?_)))
  have sz : k5.objs.size = s.heap.objs.size := by rw [e5.1, e4.1, e3.1, e2.1, e1.1]
  have f5 : Kp [z, TO, i, j] s.heap k5 := fun c o hc q => by
    simp only [List.mem_cons, List.not_mem_nil, or_false, not_or] at hc
    exact e5.extBut _ _ hc.2.1 (e4.extBut _ _ hc.2.2.2 (f3 c o (by simp [hc.1, hc.2.1, hc.2.2.1]) q))
  have z5 : IsZip k5 z TI TO .ellipsis := e5.extBut _ _ zO (e4.extBut _ _ zj (e3.extBut _ _ zO (e2.extBut _ _ zi z1)))
  have s5 : S k5 := p1 k2 k5 s2 fun o q => e5.extBut _ _ (Ne.symm Oi) (e4.extBut _ _ ij (e3.extBut _ _ (Ne.symm Oi) q))
  have t5 : T k5 := p2 k4 k5 s4 fun o q => e5.extBut _ _ (Ne.symm Oj) q
  refine wpAny_bind (m := Builtin.SmallTypes.ownedTupleHandOut (.ref z) (.ref k5.objs.size)) ?_
  unfold Builtin.SmallTypes.ownedTupleHandOut
  have z6 : IsZip (k5.push { cls := .type "tuple", data := .seq #[x, y] }) z TI TO .ellipsis := Heap.get?_push_of_some _ z5
  refine wpAny_bind (wpAny_setField_rec z6 (by simp) fun k7 z7 e7 => wpAny_setField_rec (show IsZip k7 z TI TO (rawInt k5.objs.size) from z7) (by simp) fun k8 z8 e8 => ?_)
  have up : ∀ c o, c ≠ z → k5.get? c = some o → k8.get? c = some o := fun c o n q => e8.extBut _ _ n (e7.extBut _ _ n (Heap.get?_push_of_some _ q))
  have zlt : z < k5.objs.size := Heap.lt_size z5
  have t8 : IsPair k8 k5.objs.size x y := e8.extBut _ _ (Nat.ne_of_gt zlt) (e7.extBut _ _ (Nat.ne_of_gt zlt) (Heap.get?_push_size _ rfl))
  have z8 : IsZip k8 z TI TO (rawInt k5.objs.size) := z8
  have n8 : k8.objs.size = k5.objs.size + 1 := by rw [e8.1, e7.1, Heap.size_push]
  refine wpAny_pure ⟨_, rfl, (?_ : Q (.ref k5.objs.size) _)⟩
  rw [sz] at z8 t8 n8 ⊢
  exact fin k8 z8 (up _ _ (Ne.symm zO) o5) (p1 _ _ s5 fun o q => up _ o (Ne.symm zi) q) (p2 _ _ t5 fun o q => up _ o (Ne.symm zj) q) t8 n8 fun c o hc q => up c o (fun n => hc (by simp [n])) (f5 c o hc q)
theorem next_over {Q : PySem.Fin → Shared → Prop} (hh : A.handled = none) (hdis : [z, TI, TO, i, j].Nodup) (hz : IsZip s.heap z TI TO .none) (hI : IsPair s.heap TI (.ref i) (.ref j)) (hO : IsPair s.heap TO a b)
    (hov : (∀ k, Kp [z] s.heap k → Over (model prog w) i k) ∨ ((∃ x S, ∀ k, Kp [z] s.heap k → Gives (model prog w) i x k S) ∧ ∀ k, Kp [z, TO, i] s.heap k → Over (model prog w) j k))
    (fin : ∀ k e, Kp [z, TO, i, j] s.heap k → (∃ o, k.get? e = some o ∧ o.cls = .type "StopIteration") → E (.ref e) { s with heap := k }) :
    wpAny (model prog w) A (Builtin.«zip.__next__» ⟨[.ref z], []⟩) Q E s := by
  simp only [List.nodup_cons, List.mem_cons, List.not_mem_nil, or_false, not_or] at hdis
  obtain ⟨⟨zI, zO, zi, zj⟩, ⟨IO, Ii, Ij⟩, ⟨Oi, Oj⟩, ij, _⟩ := hdis
  show wpAny _ _ (field (.ref z) 2 >>= _) _ _ _
  refine wpAny_bind (wpAny_field hz rfl (x := .bool false) rfl (?_ : wpAny _ _ (field (.ref z) 3 >>= _) _ _ _))
  refine wpAny_bind (wpAny_field hz rfl (x := .ref TI) rfl (wpAny_bind (wpAny_seqItems hI rfl ?_)))
  refine wpAny_bind (m := Builtin.SmallTypes.ownedTupleIsFree (.ref z)) ?_
  unfold Builtin.SmallTypes.ownedTupleIsFree
  refine wpAny_bind (wpAny_field hz rfl (x := .none) rfl (wpAny_pure ?_))
  simp only [if_true]
  refine wpAny_bind (wpAny_rule (wpAny_bind (wpAny_field hz rfl (x := .ref TO) rfl (wpAny_bind (wpAny_setField_rec hz (by simp) fun k1 z1 e1 => wpAny_bind ?_)))))
  have f1 : Kp [z] s.heap k1 := fun c o hc q => e1.extBut _ _ (by simpa using hc) q
  have z1 : IsZip k1 z TI TO .ellipsis := z1
  simp only [List.zipIdx_cons, List.zipIdx_nil, List.forIn_cons, List.forIn_nil]
  refine wpAny_bind (wpAny_bind (wpAny_onRaise ?_))
  rcases hov with ov | ⟨⟨x, S, g1⟩, ov⟩
  · refine wpAny_bind (m := Builtin.SmallTypes.nextOf (.ref i)) (ov k1 f1 _ _ _ _ hh rfl fun k2 e e2 he => ?_)
    obtain ⟨oe, q, ce⟩ := he
    have z2 : IsZip k2 z TI TO .ellipsis := e2 _ _ zi z1
    have ez : e ≠ z := by
      rintro rfl
      rw [z2] at q
      cases q
      simp at ce
    refine wpAny_setField_rec z2 (by simp) fun k3 _ e3 => fin k3 e (fun c o hc q => ?_) ⟨oe, e3.extBut _ _ ez q, ce⟩
    simp only [List.mem_cons, List.not_mem_nil, or_false, not_or] at hc
    exact e3.extBut _ _ hc.1 (e2 _ _ hc.2.2.1 (f1 c o (by simpa using hc.1) q))
  · refine wpAny_bind (m := Builtin.SmallTypes.nextOf (.ref i)) (g1 k1 f1 _ _ _ _ rfl fun k2 s2 e2 => wpAny_pure ?_)
    have o2 : IsPair k2 TO a b := e2.extBut _ _ Oi (f1 TO _ (by simpa using Ne.symm zO) hO)
    refine wpAny_bind (wpAny_seqItems o2 rfl (wpAny_bind (wpAny_updateSeq_pair o2 fun k3 o3 e3 => wpAny_bind (wpAny_letGo (wpAny_pure (wpAny_bind (wpAny_bind (wpAny_onRaise ?_))))))))
    have f3 : Kp [z, TO, i] s.heap k3 := fun c o hc q => by
      simp only [List.mem_cons, List.not_mem_nil, or_false, not_or] at hc
      exact e3.extBut _ _ hc.2.1 (e2.extBut _ _ hc.2.2 (f1 c o (by simpa using hc.1) q))
    refine wpAny_bind (m := Builtin.SmallTypes.nextOf (.ref j)) (ov k3 f3 _ _ _ _ hh rfl fun k4 e e4 he => ?_)
    obtain ⟨oe, q, ce⟩ := he
    have z4 : IsZip k4 z TI TO .ellipsis := e4 _ _ zj (e3.extBut _ _ zO (e2.extBut _ _ zi z1))
    have ez : e ≠ z := by
      rintro rfl
      rw [z4] at q
      cases q
      simp at ce
    refine wpAny_setField_rec z4 (by simp) fun k5 _ e5 => fin k5 e (fun c o hc q => ?_) ⟨oe, e5.extBut _ _ ez q, ce⟩
    simp only [List.mem_cons, List.not_mem_nil, or_false, not_or] at hc
    exact e5.extBut _ _ hc.1 (e4 _ _ hc.2.2.2 (f3 c o (by simp [hc.1, hc.2.1, hc.2.2.1]) q))
end
open L2
/-- the tuple at a and the list at b as they stand at each turn -/
def ItM (K : PySem.W.Frag) (a b : Addr) : It where
  go n H := ∃ (us ws : List V) (u v : V), SqT K H a us ∧ SqL K H b ws ∧ us[n]? = some u ∧ ws[n]? = some v
  yld n H r H' := ∃ (p : Addr) (u v : V), r = .ref p ∧ H p = none ∧ H' = upd H p (.tup [u, v]) ∧ (∀ us, SqT K H a us → us[n]? = some u) ∧ ∀ ws, SqL K H b ws → ws[n]? = some v
  stop n H := ∃ us ws : List V, SqT K H a us ∧ SqL K H b ws ∧ (us.length ≤ n ∨ ws.length ≤ n)
section
variable {prog : Program} {w : World}
theorem gives_tup {i l n : Nat} {its : Array Value} {x : Value} {k : Heap} (h : k.IsTupleIter i l n) (t : k.IsTuple l its) (e : its[n]? = some x) : Gives (model prog w) i x k fun k' => k'.IsTupleIter i l (n + 1) := by
  intro A E s Q hs fin
  subst hs
  exact RZ.nextOf_tuple_item h t e fin
theorem gives_lst {i l n : Nat} {its : Array Value} {x : Value} {k : Heap} (h : k.IsListIter i l n) (t : k.IsList l its) (e : its[n]? = some x) : Gives (model prog w) i x k fun k' => k'.IsListIter i l (n + 1) := by
  intro A E s Q hs fin
  subst hs
  exact wpAny_nextOf_list_item h t e fin
theorem over_tup {i l n : Nat} {its : Array Value} {k : Heap} (h : k.IsTupleIter i l n) (t : k.IsTuple l its) (e : its[n]? = none) : Over (model prog w) i k := by
  intro A E s Q hh hs fin
  subst hs
  exact RZ.nextOf_tuple_end hh h t e fin
theorem over_lst {i l n : Nat} {its : Array Value} {k : Heap} (h : k.IsListIter i l n) (t : k.IsList l its) (e : its[n]? = none) : Over (model prog w) i k := by
  intro A E s Q hh hs fin
  subst hs
  exact wpAny_nextOf_list_end hh h t e fin
end
theorem turnM {P : Program} {w : World} {K : PySem.W.Frag} {elts : List Expr} {kk : Nat} {tpos : Pos} {a b z TI TO i j : Addr} (hdis : [z, TI, TO, i, j].Nodup) (ha : a ∉ [z, TI, TO, i, j]) (hb : b ∉ [z, TI, TO, i, j]) :
    Turn P w K (.Tuple elts kk tpos) (ItM K a b) [z, TI, TO, i, j] z (fun n h => IsZip h z TI TO .none ∧ IsPair h TI (.ref i) (.ref j) ∧ (∃ x y, IsPair h TO x y) ∧ h.IsTupleIter i a n ∧ h.IsListIter j b n) where
  mem := List.mem_cons_self
  obj n h st c hc := by
    obtain ⟨hz, hI, ⟨x, y, hO⟩, ⟨o1, e1, _, d1⟩, ⟨o2, e2, _, d2⟩⟩ := st
    simp only [List.mem_cons, List.not_mem_nil, or_false] at hc
    rcases hc with rfl | rfl | rfl | rfl | rfl
    · exact ⟨_, hz, fun v => by simp⟩
    · exact ⟨_, hI, fun v => by simp⟩
    · exact ⟨_, hO, fun v => by simp⟩
    · exact ⟨o1, e1, fun v => by simp [d1]⟩
    · exact ⟨o2, e2, fun v => by simp [d2]⟩
  keep n h k st f := by
    obtain ⟨hz, hI, ⟨x, y, hO⟩, h1, h2⟩ := st
    exact ⟨f z (by simp) _ hz, f TI (by simp) _ hI, ⟨x, y, f TO (by simp) _ hO⟩, h1.at (f i (by simp)), h2.at (f j (by simp))⟩
  item X hP hw hK hc n pins s σ H E I hf st hg := by
    subst hP hw hK
    obtain ⟨hz, hI, ⟨x0, y0, hO⟩, h1, h2⟩ := st
    obtain ⟨us, ws, x, y, qx, qy, gx, gy⟩ := hg
    obtain ⟨its, rv, p, _⟩ := I.tuple qx
    obtain ⟨its2, rv2, p2, _⟩ := I.list qy
    obtain ⟨u, hu, ru⟩ := rv.get gx
    obtain ⟨u2, hu2, ru2⟩ := rv2.get gy
    have T1 : s.heap.IsTuple a its.toArray := p
    have T2 := p2.isList
    have hT : s.TypeIs (.ref z) "zip" := ⟨_, hz, rfl⟩
    have hd := hdis
    simp only [List.nodup_cons, List.mem_cons, List.not_mem_nil, or_false, not_or] at hd
    simp only [List.mem_cons, List.not_mem_nil, or_false, not_or] at ha hb
    have zlt : z < s.heap.objs.size := Heap.lt_size hz
    unfold pyNext
    refine wpAny_bind (wpAny_attempt (wpAny_callSpecial?_slot (name := Str.ofString "__next__") hT F.slot_zip_next (wpAny_call_entry F.slot_zip_next hT F.entry_zip_next
      (next_two (Q := fun v t => wpAny _ _ (pure (some v)) _ _ t) hdis hz hI hO (fun k f => gives_tup (h1.at fun o q => f i o (by simp [Ne.symm hd.1.2.2.1]) q) (T1.at fun o q => f a o (by simp [ha.1]) q) (x := u) (by simpa using hu))
        (fun k f => gives_lst (h2.at fun o q => f j o (by simp [Ne.symm hd.1.2.2.2, Ne.symm hd.2.2.1.2, Ne.symm hd.2.2.2.1]) q) (T2.at fun o q => f b o (by simp [hb.1, hb.2.2.1, hb.2.2.2.1]) q) (x := u2) (by simpa using hu2))
        (fun h k q f => q.at f) (fun h k q f => q.at f) fun k z1 o1 s1 t1 hp hn f => wpAny_pure ?_) (F.args_zip_next_1 _))))
    refine ⟨_, rfl, wpAny_letOwnedTupleGo_zip (s := { s with heap := k }) z1 fun k2 z2 e2 => ?_⟩
    have hp2 : k2.get? s.heap.objs.size = some { cls := .type "tuple", data := .seq #[u, u2] } := (e2.2 _ (Nat.ne_of_gt zlt)).trans hp
    have new : ObjOk X.prog X.w (upd H s.heap.objs.size (.tup [x, y])) k2 s.heap.objs.size (.tup [x, y]) :=
      ⟨by show 2 ≤ sizeLine; decide, [u, u2], .cons ru (.cons ru2 .nil), ⟨_, hp2, rfl, _, rfl⟩⟩
    have I1 : Inv X pins σ (upd H s.heap.objs.size (.tup [x, y])) { s with heap := k2 } :=
      I.turnedNew (t' := s.toks) (ch := [z, TI, TO, i, j]) (fun c o hb q => (e2.2 c fun n => hb (by simp [n])).trans (f c o (fun n => hb (by
        simp only [List.mem_cons, List.not_mem_nil, or_false] at n ⊢
        rcases n with n | n | n | n <;> simp [n])) q)) hf (Nat.le_refl _) new
    refine ⟨.ref s.heap.objs.size, _, I1, rfl, ⟨_, x, y, rfl, I.hok.fresh (Nat.le_refl _), rfl, fun l hl => by rw [I.tuple_inj hl qx]; exact gx, fun l hl => by rw [I.list_inj hl qy]; exact gy⟩, ⟨z2, ?_, ⟨u, u2, ?_⟩, ?_, ?_⟩, fun c hcm => ?_⟩
    · exact (e2.2 _ (Ne.symm hd.1.1)).trans (f TI _ (by simp [Ne.symm hd.1.1, hd.2.1.1, hd.2.1.2.1, hd.2.1.2.2]) hI)
    · exact (e2.2 _ (Ne.symm hd.1.2.1)).trans o1
    · exact s1.at fun o q => (e2.2 _ (Ne.symm hd.1.2.2.1)).trans q
    · exact t1.at fun o q => (e2.2 _ (Ne.symm hd.1.2.2.2)).trans q
    · have lt : c < s.heap.objs.size := by
        simp only [List.mem_cons, List.not_mem_nil, or_false] at hcm
        rcases hcm with rfl | rfl | rfl | rfl | rfl
        · exact zlt
        · exact Heap.lt_size hI
        · exact Heap.lt_size hO
        · exact let ⟨_, q, _⟩ := h1; Heap.lt_size q
        · exact let ⟨_, q, _⟩ := h2; Heap.lt_size q
      rw [upd_ne (Nat.ne_of_lt lt)]
      exact (hf c hcm).1
  done X hP hw hK hc n pins s σ H E I hf st hg := by
    subst hP hw hK
    obtain ⟨hz, hI, ⟨x0, y0, hO⟩, h1, h2⟩ := st
    obtain ⟨us, ws, qx, qy, hend⟩ := hg
    obtain ⟨its, rv, p, _⟩ := I.tuple qx
    obtain ⟨its2, rv2, p2, _⟩ := I.list qy
    have l1 := rv.length
    have l2 := rv2.length
    have T1 : s.heap.IsTuple a its.toArray := p
    have T2 := p2.isList
    have hT : s.TypeIs (.ref z) "zip" := ⟨_, hz, rfl⟩
    have hd := hdis
    simp only [List.nodup_cons, List.mem_cons, List.not_mem_nil, or_false, not_or] at hd
    simp only [List.mem_cons, List.not_mem_nil, or_false, not_or] at ha hb
    have J1 : ∀ k, Kp [z] s.heap k → k.IsTupleIter i a n ∧ k.IsTuple a its.toArray := fun k f => ⟨h1.at fun o q => f i o (by simp [Ne.symm hd.1.2.2.1]) q, T1.at fun o q => f a o (by simp [ha.1]) q⟩
    have J2 : ∀ k, Kp [z, TO, i] s.heap k → k.IsListIter j b n ∧ k.IsList b its2.toArray := fun k f => ⟨h2.at fun o q => f j o (by simp [Ne.symm hd.1.2.2.2, Ne.symm hd.2.2.1.2, Ne.symm hd.2.2.2.1]) q, T2.at fun o q => f b o (by simp [hb.1, hb.2.2.1, hb.2.2.2.1]) q⟩
    unfold pyNext
    refine wpAny_bind (wpAny_attempt (wpAny_callSpecial?_slot (name := Str.ofString "__next__") hT F.slot_zip_next (wpAny_call_entry F.slot_zip_next hT F.entry_zip_next
      (next_over (I.ok.hd hc) hdis hz hI hO ?_ fun k e f he => ?_) (F.args_zip_next_1 _))))
    · cases q : its.toArray[n]? with
      | none => exact .inl fun k f => over_tup (J1 k f).1 (J1 k f).2 q
      | some x =>
        have g : n < its.length := by
          have := (Array.getElem?_eq_some_iff.mp q).1
          simpa using this
        refine .inr ⟨⟨x, _, fun k f => gives_tup (J1 k f).1 (J1 k f).2 q⟩, fun k f => over_lst (J2 k f).1 (J2 k f).2 ?_⟩
        have : its2.length ≤ n := by rcases hend with q | q <;> omega
        simpa using this
    · obtain ⟨o, ho, hc⟩ := he
      refine wpAny_bind (wpAny_isInstance (T := "StopIteration") (b := true) ⟨o, ho, hc⟩ isSubtype_stop (wpAny_pure ⟨rfl, ?_⟩))
      exact I.turnedL (t' := s.toks) (ch := [z, TI, TO, i, j]) (fun c o hb q => f c o (fun n => hb (by
        simp only [List.mem_cons, List.not_mem_nil, or_false] at n ⊢
        rcases n with n | n | n | n <;> simp [n])) q) hf
  self A n s Q E st h := wpAny_pyIter_zip st.1 h
/-! ### the call -/
theorem at_size {h : Heap} {o : Obj} {n : Nat} (e : h.objs.size = n) (ho : o.isFreed = false) : (h.push o).get? n = some o := by
  rw [← e]
  exact Heap.get?_push_size h ho
def itrT (a : Addr) : Obj := { cls := .type "tuple_iterator", data := .fields #[.ref a, .int 0 0] }
def itrL (b : Addr) : Obj := { cls := .type "list_iterator", data := .fields #[.ref b, .int 0 0] }
def pairO (x y : Value) : Obj := { cls := .type "tuple", data := .seq #[x, y] }
def zipO (TI TO : Addr) : Obj := { cls := .type "zip", data := .fields #[.none, .bool false, .bool false, .ref TI, .ref TO] }
/-- the heap behind zip(a, b) -/
def hZip (h : Heap) (a b : Addr) : Heap :=
  ((((h.push (itrT a)).push (itrL b)).push (pairO (.ref h.objs.size) (.ref (h.objs.size + 1)))).push (pairO .none .none)).push (zipO (h.objs.size + 2) (h.objs.size + 3))
theorem meets_new (a b : Addr) (xs ys : Array Value) :
    Meets (Builtin.«zip.__new__» ⟨[.type "zip", .ref a, .ref b], []⟩) (fun _ R s => s.heap.IsTuple a xs ∧ s.heap.IsList b ys ∧ R (.ok (.ret (.ref (s.heap.objs.size + 4)))) { s with heap := hZip s.heap a b }) :=
  .of_wp fun prog w A R s h => by
    obtain ⟨hp, g, d, tk, os⟩ := s
    obtain ⟨ha, hb, h⟩ := h
    have hsub := sub_zip
    have hA : Heap.IsTuple (Shared.heap ⟨hp, g, d, tk, os⟩) a xs := ha
    have hB : Heap.IsList (Shared.heap ⟨hp.push { cls := .type "tuple_iterator", data := .fields #[.ref a, .int 0 0] }, g, d, tk, os⟩) b ys := Heap.IsList.push hb _
    wp_walk using wpAny_pyIter_tuple hA, wpAny_pyIter_list hB
    refine ⟨_, rfl, ?_⟩
    simp only [Heap.size_push]
    exact h
section
variable {X : Cx} {e e2 : Expr} {ta : TA} {p pos tpos : Pos} {elts : List Expr} {kk : Nat}
def iZipM (K : PySem.W.Frag) (ta : TA) : TI := fun σ H R => ta σ H fun vs H1 => ∃ a b us ws, vs = [.ref a, .ref b] ∧ SqT K H1 a us ∧ SqL K H1 b ws ∧ R (ItM K a b) H1
theorem pi_zipM (hg : Gl X "zip") (hm : X.mg "zip" = none) (ha : PA X [e, e2] ta)
    (hs : starEach [e, e2] X.env = (false, eval e X.env) :: starEach [e2] X.env := by rfl) (hpl : (backTo pos (starEach [e2] X.env)).any (·.1) = false := by rfl) :
    PI X (.Tuple elts kk tpos) (.Call (.Name "zip" p) [e, e2] [] pos) (iZipM X.K ta) := by
  refine ⟨fun pins s σ H R I h => ?_⟩
  refine Call_ (ld_blt I hg hm PyProof.Rows.boot_zip (PyProof.Rows.callWith_type1 (thn (ha.run pos pins s σ H _ I h) fun us s1 ⟨vs, H1, I1, r1, q1⟩ => ?_) hs hpl))
  obtain ⟨a, b, xs, ys, rfl, qx, qy, q⟩ := q1
  cases r1 with
  | cons r rr =>
    cases rr with
    | cons r' rr =>
      cases rr
      cases r
      cases r'
      obtain ⟨its, rv, p1, _⟩ := I1.tuple qx
      obtain ⟨its2, rv2, p2, _⟩ := I1.list qy
      have T1 : s1.heap.IsTuple a its.toArray := p1
      obtain ⟨o1, ho1, _⟩ := id T1
      have la : a < s1.heap.objs.size := Heap.lt_size ho1
      have lb : b < s1.heap.objs.size := p2.lt
      refine callType_new F.called_zip (by decide) (F.typeCall_zip_2 _ _) (F.newCall_zip_2 _ _) (fun obj => F.args_object_init_3 obj _ _) F.entry_zip_new (meets_new a b its.toArray _) ⟨T1, p2.isList, ?_⟩
      obtain ⟨n, hn⟩ : ∃ n, n = s1.heap.objs.size := ⟨_, rfl⟩
      have s5 : s1.heap.objs.size = n := hn.symm
      have gz : (hZip s1.heap a b).get? (n + 4) = some (zipO (n + 2) (n + 3)) := by
        unfold hZip; rw [s5]; exact at_size (by simp [Heap.size_push, s5]) rfl
      have gO : (hZip s1.heap a b).get? (n + 3) = some (pairO .none .none) := by
        unfold hZip; rw [s5]; exact Heap.get?_push_of_some _ (at_size (by simp [Heap.size_push, s5]) rfl)
      have gI : (hZip s1.heap a b).get? (n + 2) = some (pairO (.ref n) (.ref (n + 1))) := by
        unfold hZip; rw [s5]; exact Heap.get?_push_of_some _ (Heap.get?_push_of_some _ (at_size (by simp [Heap.size_push, s5]) rfl))
      have g2 : (hZip s1.heap a b).get? (n + 1) = some (itrL b) := by
        unfold hZip; rw [s5]; exact Heap.get?_push_of_some _ (Heap.get?_push_of_some _ (Heap.get?_push_of_some _ (at_size (by simp [Heap.size_push, s5]) rfl)))
      have g1 : (hZip s1.heap a b).get? n = some (itrT a) := by
        unfold hZip; rw [s5]; exact Heap.get?_push_of_some _ (Heap.get?_push_of_some _ (Heap.get?_push_of_some _ (Heap.get?_push_of_some _ (at_size s5 rfl))))
      have kp : ∀ c o, s1.heap.get? c = some o → (hZip s1.heap a b).get? c = some o := fun c o q => by
        unfold hZip
        exact Heap.get?_push_of_some _ (Heap.get?_push_of_some _ (Heap.get?_push_of_some _ (Heap.get?_push_of_some _ (Heap.get?_push_of_some _ q))))
      rw [s5]
      refine ⟨⟨_, gz, rfl⟩, wpAny_pyIter_zip gz ?_⟩
      rw [s5] at la lb
      have far : ∀ {c : Addr}, c < n → c ∉ [n + 4, n + 2, n + 3, n, n + 1] := fun {c} lc h => by
        have nk : ∀ k : Nat, c ≠ n + k := fun k => Nat.ne_of_lt (Nat.lt_of_lt_of_le lc (Nat.le_add_right n k))
        simp only [List.mem_cons, List.not_mem_nil, or_false] at h
        rcases h with h | h | h | h | h
        · exact nk 4 h
        · exact nk 2 h
        · exact nk 3 h
        · exact nk 0 h
        · exact nk 1 h
      have I2 : Inv X pins σ H1 { s1 with heap := hZip s1.heap a b } := I1.kept (t' := s1.toks) kp
      refine ⟨n + 4, [n + 4, n + 2, n + 3, n, n + 1], _, _, H1, rfl, I2, turnM (a := a) (b := b) (by simp) (far la) (far lb), ⟨gz, gI, ⟨_, _, gO⟩, ⟨_, g1, rfl, rfl⟩, ⟨_, g2, rfl, rfl⟩⟩, fun c hc => ?_, q⟩
      have : s1.heap.objs.size ≤ c := by
        rw [s5]
        simp only [List.mem_cons, List.not_mem_nil, or_false] at hc
        rcases hc with h | h | h | h | h <;> subst h <;> omega
      exact I1.fpOk this (I1.hok.fresh this)
end
end ZM
namespace R
open PySem L2 Evl
section
variable {K : PySem.W.Frag} {E : XK}
def wiZipTL (wa : DAW) : DIW := fun X env M Q => wa X env M fun ss M1 => match ss with
  | [.d (.tup as), .d (.lst bs)] => Q (zipS as bs) M1
  | _ => False
theorem walkZipM {a b : Addr} {xs ys : List V} : Walk (ZM.ItM K a b) (min xs.length ys.length) (fun H => SqT K H a xs ∧ SqL K H b ys) (YPair (fun i => xs[i]?) (fun i => ys[i]?)) := by
  refine ⟨fun i H hi q => ?_, fun H q => ⟨xs, ys, q.1, q.2, by omega⟩, fun i H v H' hi q y => ?_⟩
  · have g1 : i < xs.length := by omega
    have g2 : i < ys.length := by omega
    exact ⟨xs, ys, xs[i], ys[i], q.1, q.2, List.getElem?_eq_getElem g1, List.getElem?_eq_getElem g2⟩
  · obtain ⟨T, c, z, e1, e2, e3, e4, e5⟩ := y
    exact ⟨T, c, z, e1, e2, e3, e4 xs q.1, e5 ys q.2⟩
theorem okI_zipTL {ta : TA} {wa : DAW} (h : OkA K E ta wa) : OkI K E (ZM.iZipM K ta) (wiZipTL wa) := by
  intro u G H as M env σ Q Rv c hw fin
  refine h u G H as M env σ _ _ c hw fun vs G1 H1 as1 M1 ss sr1 l1 rs q1 => ?_
  split at q1
  · rename_i ds es
    obtain ⟨v, w, rfl, r1, r2⟩ := rs.two
    obtain ⟨p, xs, rfl, hp, hx⟩ := rep_tup.mp r1.d
    obtain ⟨q, ys, rfl, hq, hy⟩ := rep_lst.mp r2.d
    refine ⟨p, q, xs, ys, rfl, SqT.of (sr1.gh _ _ hp), SqL.of (sr1.gh _ _ hq), fin _ (zipS ds es) G1 H1 as1 M1 sr1 l1 ?_ q1⟩
    rw [zipS_len, ← hx.len, ← hy.len]
    exact (walkZipM (K := K) (a := p) (b := q) (xs := xs) (ys := ys)).mono (fun H e => ⟨SqT.of (e _ _ hp), SqL.of (e _ _ hq)⟩) fun i H x H' _ _ y => ys_zip hx hy y
  · exact q1.elim
end
section
variable {X : Cx} {E : XK} {a b : Expr} {wl : DAW} {p pos : Pos}
theorem i_zipTL {elts : List Expr} {kk : Nat} {tpos : Pos} (hm : X.mg "zip" = none) (ha : DA X E [a, b] wl) (hg : Gl X "zip" := by rfl) (hs : starEach [a, b] X.env = (false, eval a X.env) :: starEach [b] X.env := by rfl) (hpl : (backTo pos (starEach [b] X.env)).any (·.1) = false := by rfl) : DI X E (.Tuple elts kk tpos) (.Call (.Name "zip" p) [a, b] [] pos) (wiZipTL wl) := .mk' (ZM.pi_zipM hg hm ha.pe hs hpl) (okI_zipTL okAW)
end
end R
/-! Layer R, part 22: usages from bills. -/
namespace R
open PySem L2 Evl
/-- a cost that can be -/
def CostOk (p : Plan) (c : Int) : Prop := 0 ≤ c - p.fee ∧ (p.price = 0 → c - p.fee ≤ 0) ∧ (0 < p.price → (c - p.fee) % p.price = 0)
instance (p : Plan) (c : Int) : Decidable (CostOk p c) := by unfold CostOk; infer_instance
/-- further units that a cost tells -/
def furC (p : Plan) (c : Int) : Int := if 0 < p.price then (c - p.fee) / p.price else 0
def rng1 (p : Plan) (m c : Int) : D := if 0 < furC p c then .tup [.int (p.data + furC p c), .int (m + p.data + furC p c)] else .tup [.int 0, if 0 < p.price then .int (m + p.data) else .non]
def mst1 (p : Plan) (m c : Int) : Int := if furC p c = 0 then min p.cap (m + p.data) else 0
def rngD (p : Plan) : Int → List Int → List D
  | _, [] => []
  | m, c :: cs => rng1 p m c :: rngD p (mst1 p m c) cs
def mstL (p : Plan) : Int → List Int → Int
  | m, [] => m
  | m, c :: cs => mstL p (mst1 p m c) cs
def rangesD (p : Plan) (cs : List Int) : D := if ∀ c ∈ cs, CostOk p c then .lst (rngD p 0 cs) else .non
theorem mstL_snoc (p : Plan) : ∀ (cs : List Int) (m c : Int), mstL p m (cs ++ [c]) = mst1 p (mstL p m cs) c
  | [], _, _ => rfl
  | x :: cs, m, c => mstL_snoc p cs _ c
theorem rngD_snoc (p : Plan) : ∀ (cs : List Int) (m c : Int), rngD p m (cs ++ [c]) = rngD p m cs ++ [rng1 p (mstL p m cs) c]
  | [], _, _ => rfl
  | x :: cs, m, c => by
    show rng1 p m x :: rngD p (mst1 p m x) (cs ++ [c]) = _
    rw [rngD_snoc p cs]; rfl
theorem rngD_len (p : Plan) : ∀ (cs : List Int) (m : Int), (rngD p m cs).length = cs.length
  | [], _ => rfl
  | x :: cs, m => by
    show (rngD p _ cs).length + 1 = _
    rw [rngD_len p cs]; rfl
theorem rngD_get (p : Plan) : ∀ (cs : List Int) (m : Int) (i : Nat) (d : D), (rngD p m cs)[i]? = some d → ∃ c, cs[i]? = some c ∧ d = rng1 p (mstL p m (cs.take i)) c
  | [], m, i, d, h => by cases h
  | x :: cs, m, 0, d, h => ⟨x, rfl, (Option.some.inj h).symm⟩
  | x :: cs, m, i + 1, d, h => rngD_get p cs (mst1 p m x) i d h
def w_ur_rest : DSw := (wSeq (wAsg (wIf (wTst (wOp fGt (wVar 6) (wC (.int 0)))) (wOp fDiv (wVar 9) (wVar 6)) (wC (.int 0))) (wgName 10)) (wSeq (wAsg (wOp fAdd (wVar 7) (wVar 4)) (wgName 11)) (wSeq (wIfS (wTst (wOp fGt (wVar 10) (wC (.int 0)))) (wDrop (wAppend (wVar 8) (wTup (wCons (wOp fAdd (wVar 4) (wVar 10)) (wCons (wOp fAdd (wVar 11) (wVar 10)) wNil))))) (wDrop (wAppend (wVar 8) (wTup (wCons (wC (.int 0)) (wCons (wIf (wTst (wOp fGt (wVar 6) (wC (.int 0)))) (wVar 11) (wC .non)) wNil)))))) (wAsg (wIf (wTst (wOp fEq (wVar 10) (wC (.int 0)))) (wCB fMin2 (wCons (wVar 5) (wCons (wVar 11) wNil))) (wC (.int 0))) (wgName 7)))))
theorem ur_rest {Dn : DEnds} {p : Plan} {s1 : Option S} {m c : Int} {x10 x11 : Option S} {acc : List D} (ok : p.Ok) (hl : acc.length < 16000000) (h : ∀ x9 x10 x11, Dn.nx [some (.d p.D), s1, some (.d (.int c)), some (.d (.int p.fee)), some (.d (.int p.data)), some (.d (.int p.cap)), some (.d (.int p.price)), some (.d (.int (mst1 p m c))), some (.m 0), x9, x10, x11] [.lst (acc ++ [rng1 p m c])]) :
    w_ur_rest XF Dn [some (.d p.D), s1, some (.d (.int c)), some (.d (.int p.fee)), some (.d (.int p.data)), some (.d (.int p.cap)), some (.d (.int p.price)), some (.d (.int m)), some (.m 0), some (.d (.int (c - p.fee))), x10, x11] [.lst acc] := by
  by_cases hp : 0 < p.price
  · refine if_t (decide_eq_true hp) ⟨⟨hp, by have := ok.p1; omega⟩, ?_⟩
    have e : furC p c = (c - p.fee) / p.price := by unfold furC; rw [if_pos hp]
    unfold rng1 mst1 at h
    rw [e] at h
    refine ifd (fun hf => ?_) (fun hf => ?_)
    · have hf : 0 < (c - p.fee) / p.price := hf
      rw [if_pos hf, if_neg (by omega)] at h
      exact ⟨rfl, hl, trivial, trivial, if_f (by show ((c - p.fee) / p.price == 0) = false; simp; omega) (h _ _ _)⟩
    · have hf : ¬ 0 < (c - p.fee) / p.price := hf
      rw [if_neg hf, if_pos hp] at h
      refine if_t (decide_eq_true hp) ⟨rfl, hl, trivial, trivial, ite2 (fun z => ?_) (fun z => ?_)⟩
      · rw [if_pos (by simpa using (show ((c - p.fee) / p.price == 0) = true from z))] at h
        exact h _ _ _
      · rw [if_neg (by simpa using (show ¬ ((c - p.fee) / p.price == 0) = true from z))] at h
        exact h _ _ _
  · refine if_f (decide_eq_false hp) ?_
    have e : furC p c = 0 := by unfold furC; rw [if_neg hp]
    unfold rng1 mst1 at h
    simp only [e, Int.lt_irrefl, if_false, hp, if_true] at h
    refine if_f (decide_eq_false hp) ?_
    exact ⟨rfl, hl, trivial, trivial, h _ _ _⟩
def sp_usage_ranges : DSpec := fun ads Q => ∃ (p : Plan) (cs : List Int), ads = [.d p.D, .d (usD cs)] ∧ p.Ok ∧ BiOk cs ∧ Q (.d (rangesD p cs)) []
theorem l_usage_ranges : ∀ ads Q, sp_usage_ranges ads Q → ads.length = 2 := by rintro _ _ ⟨_, _, rfl, _⟩; rfl
def w_usage_ranges : DSw := (wSeq (wDrop (wCall sp_check_plan (wCons (wVar 0) wNil))) (wSeq (wDrop (wCall sp_check_bills (wCons (wVar 1) wNil))) (wSeq (wAsg (wVar 0) (wgTup 4 (wgCons (wgName 3) (wgCons (wgName 4) (wgCons (wgName 5) (wgCons (wgName 6) wgNil)))))) (wSeq (wPar 7 8 (wCons (wC (.int 0)) (wCons (wLstO wNil) wNil))) (wSeq (wFor (wiTup (wVar 1)) (wgName 2) (wSeq (wAsg (wOp fSub (wVar 2) (wVar 3)) (wgName 9)) (wSeq (wIfS (wOrT (wTst (wOp fLt (wVar 9) (wC (.int 0)))) (wOrT (wAndT (wTst (wOp fEq (wVar 6) (wC (.int 0)))) (wTst (wOp fGt (wVar 9) (wC (.int 0))))) (wAndT (wTst (wOp fGt (wVar 6) (wC (.int 0)))) (wTst (wOp fNe (wOp fMod (wVar 9) (wVar 6)) (wC (.int 0))))))) (wRet (wC .non)) wNext) (wSeq (wAsg (wIf (wTst (wOp fGt (wVar 6) (wC (.int 0)))) (wOp fDiv (wVar 9) (wVar 6)) (wC (.int 0))) (wgName 10)) (wSeq (wAsg (wOp fAdd (wVar 7) (wVar 4)) (wgName 11)) (wSeq (wIfS (wTst (wOp fGt (wVar 10) (wC (.int 0)))) (wDrop (wAppend (wVar 8) (wTup (wCons (wOp fAdd (wVar 4) (wVar 10)) (wCons (wOp fAdd (wVar 11) (wVar 10)) wNil))))) (wDrop (wAppend (wVar 8) (wTup (wCons (wC (.int 0)) (wCons (wIf (wTst (wOp fGt (wVar 6) (wC (.int 0)))) (wVar 11) (wC .non)) wNil)))))) (wAsg (wIf (wTst (wOp fEq (wVar 10) (wC (.int 0)))) (wCB fMin2 (wCons (wVar 5) (wCons (wVar 11) wNil))) (wC (.int 0))) (wgName 7)))))))) (wFrz 8 (wRet (wVar 8))))))))
theorem v_usage_ranges : Keeps w_usage_ranges 10 sp_usage_ranges := by
  rintro ads Q ⟨p, cs, rfl, ok, hb, q⟩
  have bl := hb.len
  refine ⟨nod0, p, rfl, ok, nod0, cs, rfl, hb, rfl, rfl, ?_⟩
  refine ⟨fun i env M => ∃ x2 x9 x10 x11, env = [some (.d p.D), some (.d (usD cs)), x2, some (.d (.int p.fee)), some (.d (.int p.data)), some (.d (.int p.cap)), some (.d (.int p.price)), some (.d (.int (mstL p 0 (cs.take i)))), some (.m 0), x9, x10, x11] ∧ M = [.lst (rngD p 0 (cs.take i))] ∧ ∀ c ∈ cs.take i, CostOk p c, ⟨_, _, _, _, rfl, rfl, fun c hc => by cases hc⟩, ?_, ?_⟩
  · rintro i s env M hs ⟨x2, x9, x10, x11, rfl, rfl, hok⟩
    obtain ⟨c, hc, rfl⟩ := dmap_get hs
    have e1 := take_suc hc
    have il : i < cs.length := (List.getElem?_eq_some_iff.mp hc).1
    have hl : (rngD p 0 (cs.take i)).length < 16000000 := by rw [rngD_len, List.length_take]; omega
    have bad : ¬ CostOk p c → Q (.d .non) [] := fun z => by
      unfold rangesD at q
      rw [if_neg (fun all => z (all c (List.mem_of_getElem? hc)))] at q
      exact q
    refine ifd (fun h1 => bad fun z => ?_) (fun h1 => ?_)
    · have := z.1
      have h1 : c - p.fee < 0 := h1
      omega
    have h1 : ¬ c - p.fee < 0 := h1
    refine ⟨trivial, trivial, ite2 (fun h2 => ifd (fun h3 => bad fun z => ?_) (fun h3 => ?_)) (fun h2 => ?_)⟩
    · have h2 : p.price = 0 := by simpa using (show (p.price == 0) = true from h2)
      have := z.2.1 h2
      have h3 : 0 < c - p.fee := h3
      omega
    · have h2 : p.price = 0 := by simpa using (show (p.price == 0) = true from h2)
      have h3 : ¬ 0 < c - p.fee := h3
      refine if_f (decide_eq_false (by omega)) ?_
      refine ur_rest ok hl fun y9 y10 y11 => ⟨some (.d (.int c)), y9, y10, y11, by rw [e1, mstL_snoc], by rw [e1, rngD_snoc], fun d hd => ?_⟩
      rw [e1] at hd
      rcases List.mem_append.mp hd with hd | hd
      · exact hok d hd
      · rw [List.mem_singleton.mp hd]
        exact ⟨by omega, fun _ => by omega, fun z => by omega⟩
    · have h2 : p.price ≠ 0 := fun z => h2 (show (p.price == 0) = true by rw [z]; rfl)
      have p0 := ok.p0
      have p1 := ok.p1
      refine if_f rfl (if_t (decide_eq_true (by omega)) ⟨(by show 0 < p.price; omega), trivial, trivial, ite2 (fun h3 => bad fun z => ?_) (fun h3 => ?_)⟩)
      · have := z.2.2 (by omega)
        have h3 : (!((c - p.fee) % p.price == 0)) = true := h3
        rw [this] at h3
        cases h3
      have h3 : (c - p.fee) % p.price = 0 := by
        have h3 : ¬ (!((c - p.fee) % p.price == 0)) = true := h3
        simpa using h3
      refine ur_rest ok hl fun y9 y10 y11 => ⟨some (.d (.int c)), y9, y10, y11, by rw [e1, mstL_snoc], by rw [e1, rngD_snoc], fun d hd => ?_⟩
      rw [e1] at hd
      rcases List.mem_append.mp hd with hd | hd
      · exact hok d hd
      · rw [List.mem_singleton.mp hd]
        exact ⟨by omega, fun z => absurd z h2, fun _ => h3⟩
  · rintro env M ⟨x2, x9, x10, x11, rfl, rfl, hok⟩
    rw [List.length_map, List.length_map, List.take_length] at hok
    rw [List.length_map, List.length_map, List.take_length]
    unfold rangesD at q
    rw [if_pos hok] at q
    exact q
end R
/-! Layer R, part 23: enumerate of a tuple, min of pairs. -/
namespace ZM
open PySem PyProof.Rows
section
variable {prog : Program} {w : World} {A : Around} {E : Value → Shared → Prop} {s : Shared} {e it : Addr} {n : Nat} {x old : Value} {S : Heap → Prop}
theorem enum_one {Q : Value → Shared → Prop} (ne : e ≠ it) (he : IsEnum s.heap e it n old) (g : Gives (model prog w) it x s.heap S) (p : ∀ h k, S h → (∀ o, h.get? it = some o → k.get? it = some o) → S k)
    (fin : ∀ k, IsEnumOut k e it ((n : Int) + 1) x s.heap.objs.size → S k → k.get? s.heap.objs.size = some { cls := .type "tuple", data := .seq #[.int n s.toks, x] } → k.objs.size = s.heap.objs.size + 1 → Kp [e, it] s.heap k → Q (.ref s.heap.objs.size) { s with heap := k, toks := s.toks + 1 }) :
    wpAny (model prog w) A (Builtin.«enumerate.__next__» ⟨[.ref e], []⟩) (fun r t => ∃ v, r = .done (.ret v) ∧ Q v t) E s := by
  obtain ⟨hp, gn, dd, tk, os⟩ := s
  refine wpAny_bind (m := field (.ref e) 2) (wpAny_field he rfl (x := .ref it) rfl (wpAny_bind (m := Builtin.SmallTypes.nextOf (.ref it)) (g _ _ _ _ rfl fun k1 s1 f1 => ?_)))
  have f1 : Heap.SameBut it hp k1 := f1
  have e1 : IsEnum k1 e it n old := (f1.2 e ne).trans he
  refine wpAny_bind (m := field (.ref e) 3) (s := ⟨k1, gn, dd, tk, os⟩) (wpAny_field e1 rfl (x := rawInt n) rfl (wpAny_bind (m := field (.ref e) 4) (wpAny_field e1 rfl (x := .none) rfl (wpAny_bind (m := mkInt n) (wpAny_mkInt ?_)))))
  refine wpAny_bind (m := setField (.ref e) 3 (rawInt ((n : Int) + 1))) (s := ⟨k1, gn, dd, tk + 1, os⟩) (wpAny_setField_rec e1 (by simp) fun k2 e2 f2 => ?_)
  have f2 : Heap.SameBut e k1 k2 := f2
  have e2 : IsEnum k2 e it ((n : Int) + 1) old := e2
  refine wpAny_bind (m := setField (.ref e) 4 .none) (s := ⟨k2, gn, dd, tk + 1, os⟩) (wpAny_setField_rec e2 (by simp) fun k3 e3 f3 => ?_)
  have f3 : Heap.SameBut e k2 k3 := f3
  have e3 : IsEnum k3 e it ((n : Int) + 1) old := e3
  refine wpAny_bind (m := newTuple [.int n tk, x]) (s := ⟨k3, gn, dd, tk + 1, os⟩) (wpAny_newTuple ?_)
  have sz : k3.objs.size = hp.objs.size := by rw [f3.1, f2.1, f1.1]
  have elt : e < hp.objs.size := Heap.lt_size he
  have s3 : S k3 := p k1 k3 s1 fun o q => f3.extBut _ _ (Ne.symm ne) (f2.extBut _ _ (Ne.symm ne) q)
  have kp3 : Kp [e, it] hp k3 := fun c o hc q => by
    simp only [List.mem_cons, List.not_mem_nil, or_false, not_or] at hc
    exact f3.extBut _ _ hc.1 (f2.extBut _ _ hc.1 (f1.extBut _ _ hc.2 q))
  obtain ⟨k4, hk4⟩ : ∃ k4, k4 = k3.push { cls := .type "tuple", data := .seq #[.int n tk, x] } := ⟨_, rfl⟩
  have e4 : IsEnum k4 e it ((n : Int) + 1) old := by rw [hk4]; exact Heap.get?_push_of_some _ e3
  have t4 : k4.get? hp.objs.size = some { cls := .type "tuple", data := .seq #[.int n tk, x] } := by rw [hk4]; exact at_size sz rfl
  have n4 : k4.objs.size = hp.objs.size + 1 := by rw [hk4, Heap.size_push, sz]
  have up : ∀ c o, k3.get? c = some o → k4.get? c = some o := fun c o q => by rw [hk4]; exact Heap.get?_push_of_some _ q
  rw [← hk4, sz]
  refine wpAny_bind (m := Builtin.SmallTypes.ownedTupleIsFree (.ref e)) (s := ⟨k4, gn, dd, tk + 1, os⟩) ?_
  unfold Builtin.SmallTypes.ownedTupleIsFree
  refine wpAny_bind (wpAny_field e4 rfl (x := .none) rfl (wpAny_pure ?_))
  simp only [if_true]
  refine wpAny_bind (wpAny_rule (wpAny_bind (wpAny_field e4 rfl (x := old) rfl (wpAny_bind (wpAny_setField_rec e4 (by simp) fun k5 e5 f5 => ?_)))))
  have f5 : Heap.SameBut e k4 k5 := f5
  have e5 : IsEnum k5 e it ((n : Int) + 1) x := e5
  refine wpAny_bind (m := Builtin.SmallTypes.ownedTupleHandOut (.ref e) (.ref hp.objs.size)) (s := ⟨k5, gn, dd, tk + 1, os⟩) ?_
  unfold Builtin.SmallTypes.ownedTupleHandOut
  refine wpAny_bind (wpAny_setField_rec e5 (by simp) fun k6 e6 f6 => wpAny_setField_rec (show IsEnumOut k6 e it ((n : Int) + 1) x hp.objs.size from e6) (by simp) fun k7 e7 f7 => ?_)
  have dn : ∀ c o, c ≠ e → k4.get? c = some o → k7.get? c = some o := fun c o nc q => f7.extBut _ _ nc (f6.extBut _ _ nc (f5.extBut _ _ nc q))
  refine wpAny_bind (wpAny_letGo (wpAny_pure ⟨_, rfl, fin k7 e7 (p k3 k7 s3 fun o q => dn _ o (Ne.symm ne) (up _ _ q)) (dn _ _ (Nat.ne_of_gt elt) t4) (by rw [f7.1, f6.1, f5.1, n4]) fun c o hc q => dn c o (fun z => hc (by simp [z])) (up _ _ (kp3 c o hc q))⟩))
theorem enum_over {Q : Option Value → Shared → Prop} (hh : A.handled = none) (he : IsEnum s.heap e it n old) (ov : Over (model prog w) it s.heap) (fin : ∀ k, Heap.ExtBut it s.heap k → Q none { s with heap := k }) : wpAny (model prog w) A (pyNext (.ref e)) Q E s := by
  have hT : s.TypeIs (.ref e) "enumerate" := ⟨_, he, rfl⟩
  unfold pyNext
  refine wpAny_bind (wpAny_attempt (wpAny_callSpecial?_slot (name := Str.ofString "__next__") hT F.slot_enumerate_next (wpAny_call_entry F.slot_enumerate_next hT F.entry_enumerate_next ?_ (F.args_enumerate_next_1 _))))
  refine wpAny_bind (m := field (.ref e) 2) (wpAny_field he rfl (x := .ref it) rfl (wpAny_bind (m := Builtin.SmallTypes.nextOf (.ref it)) (ov _ _ _ _ hh rfl fun k v f hv => ?_)))
  obtain ⟨o, ho, hc⟩ := hv
  exact wpAny_bind (wpAny_isInstance (T := "StopIteration") (b := true) ⟨o, ho, hc⟩ isSubtype_stop (wpAny_pure (fin _ f)))
end
end ZM
namespace ZM
open PySem PyProof.Rows L2
/-- the tuple at a as it stands at each turn, with the places -/
def ItE (K : PySem.W.Frag) (a : Addr) : It where
  go n H := ∃ (us : List V) (u : V), SqT K H a us ∧ us[n]? = some u
  yld n H r H' := ∃ (p : Addr) (u : V), r = .ref p ∧ H p = none ∧ H' = upd H p (.tup [.int (n : Nat), u]) ∧ ∀ us, SqT K H a us → us[n]? = some u
  stop n H := ∃ us : List V, SqT K H a us ∧ us.length ≤ n
theorem turnE {P : Program} {w : World} {K : PySem.W.Frag} {elts : List Expr} {kk : Nat} {tpos : Pos} {a e it : Addr} (ne : e ≠ it) :
    Turn P w K (.Tuple elts kk tpos) (ItE K a) [e, it] e (fun n h => (∃ old, IsEnum h e it ((n : Nat) : Int) old) ∧ h.IsTupleIter it a n) where
  mem := List.mem_cons_self
  obj n h st c hc := by
    obtain ⟨⟨old, he⟩, ⟨o, q, _, d⟩⟩ := st
    simp only [List.mem_cons, List.not_mem_nil, or_false] at hc
    rcases hc with rfl | rfl
    · exact ⟨_, he, fun v => by simp⟩
    · exact ⟨o, q, fun v => by simp [d]⟩
  keep n h k st f := ⟨let ⟨old, q⟩ := st.1; ⟨old, f e (by simp) _ q⟩, st.2.at (f it (by simp))⟩
  item X hP hw hK hc n pins s σ H E I hf st hg := by
    subst hP hw hK
    obtain ⟨⟨old, he⟩, hi⟩ := st
    obtain ⟨us, x, qx, gx⟩ := hg
    obtain ⟨its, rv, p, _⟩ := I.tuple qx
    obtain ⟨u, hu, ru⟩ := rv.get gx
    have T1 : s.heap.IsTuple a its.toArray := p
    have hT : s.TypeIs (.ref e) "enumerate" := ⟨_, he, rfl⟩
    have elt : e < s.heap.objs.size := Heap.lt_size he
    unfold pyNext
    refine wpAny_bind (wpAny_attempt (wpAny_callSpecial?_slot (name := Str.ofString "__next__") hT F.slot_enumerate_next (wpAny_call_entry F.slot_enumerate_next hT F.entry_enumerate_next
      (enum_one (Q := fun v t => wpAny _ _ (pure (some v)) _ _ t) ne he (gives_tup hi T1 (x := u) (by simpa using hu)) (fun h k q f => q.at f) fun k e1 s1 t1 n1 f => wpAny_pure ?_) (F.args_enumerate_next_1 _))))
    refine ⟨_, rfl, wpAny_letOwnedTupleGo_enum (s := { s with heap := k, toks := s.toks + 1 }) e1 fun k2 e2 f2 => ?_⟩
    have t2 : k2.get? s.heap.objs.size = some { cls := .type "tuple", data := .seq #[.int n s.toks, u] } := (f2.2 _ (Nat.ne_of_gt elt)).trans t1
    have new : ObjOk X.prog X.w (upd H s.heap.objs.size (.tup [.int (n : Nat), x])) k2 s.heap.objs.size (.tup [.int (n : Nat), x]) :=
      ⟨by show 2 ≤ sizeLine; decide, [.int n s.toks, u], .cons ⟨_, rfl⟩ (.cons ru .nil), ⟨_, t2, rfl, _, rfl⟩⟩
    have I1 : Inv X pins σ (upd H s.heap.objs.size (.tup [.int (n : Nat), x])) { s with heap := k2, toks := s.toks + 1 } :=
      I.turnedNew (ch := [e, it]) (fun c o hb q => (f2.2 c fun z => hb (by simp [z])).trans (f c o hb q)) hf (Nat.le_refl _) new
    refine ⟨.ref s.heap.objs.size, _, I1, rfl, ⟨_, x, rfl, I.hok.fresh (Nat.le_refl _), rfl, fun l hl => by rw [I.tuple_inj hl qx]; exact gx⟩, ⟨⟨u, ?_⟩, s1.at fun o q => (f2.2 it (Ne.symm ne)).trans q⟩, fun c hcm => ?_⟩
    · rw [show ((n + 1 : Nat) : Int) = (n : Int) + 1 from rfl]; exact e2
    · have lt : c < s.heap.objs.size := by
        simp only [List.mem_cons, List.not_mem_nil, or_false] at hcm
        rcases hcm with rfl | rfl
        · exact elt
        · exact let ⟨_, q, _⟩ := hi; Heap.lt_size q
      rw [upd_ne (Nat.ne_of_lt lt)]
      exact (hf c hcm).1
  done X hP hw hK hc n pins s σ H E I hf st hg := by
    subst hP hw hK
    obtain ⟨⟨old, he⟩, hi⟩ := st
    obtain ⟨us, qx, hl⟩ := hg
    obtain ⟨its, rv, p, _⟩ := I.tuple qx
    have l1 := rv.length
    have T1 : s.heap.IsTuple a its.toArray := p
    obtain ⟨f0, f1, f2, f3, f4, f5⟩ := hf it (by simp)
    exact enum_over (I.ok.hd hc) he (over_tup hi T1 (by simp; omega)) fun k f => ⟨rfl, I.turned (t' := s.toks) (fun b o hb q => f b o hb q) f0 f1 f3 f4 f5⟩
  self A n s Q E st h := let ⟨⟨_, q⟩, _⟩ := st; wpAny_pyIter_enum q h
def enumO (it : Addr) : Obj := { cls := .type "enumerate", data := .fields #[.none, .bool false, .ref it, rawInt 0, .none, .none] }
theorem meets_enumT (a : Addr) (xs : Array Value) :
    Meets (Builtin.«enumerate.__new__» ⟨[.type "enumerate", .ref a], []⟩) (fun _ R s => s.heap.IsTuple a xs ∧ R (.ok (.ret (.ref (s.heap.objs.size + 1)))) { s with heap := (s.heap.push (itrT a)).push (enumO s.heap.objs.size) }) :=
  .of_wp fun prog w A R s h => by
    obtain ⟨hp, g, d, tk, os⟩ := s
    obtain ⟨⟨o, ho, hc, n, hd⟩, h⟩ := h
    have hsub := sub_enumerate
    have hA : Heap.IsTuple (Shared.heap ⟨hp, g, d, tk, os⟩) a xs := ⟨o, ho, hc, n, hd⟩
    obtain ⟨oc, od, odt, osl⟩ := o
    simp only at hc hd
    subst hc hd
    wp_walk using AutoSeq1.wpAny_loadPart' ho
    refine wpAny_stack_any fun st => wpAny_pure ?_
    split
    · rename_i c _ _ _ _ _
      cases (c == Value.type "enumerate")
      · wp_walk using AutoSeq1.wpAny_loadPart' ho, wpAny_pyIter_tuple hA
        refine ⟨_, rfl, ?_⟩
        simp only [Heap.size_push]
        exact h
      · wp_walk using AutoSeq1.wpAny_loadPart' ho, wpAny_pyIter_tuple hA
        refine ⟨_, rfl, ?_⟩
        simp only [Heap.size_push]
        exact h
    · wp_walk using AutoSeq1.wpAny_loadPart' ho, wpAny_pyIter_tuple hA
      refine ⟨_, rfl, ?_⟩
      simp only [Heap.size_push]
      exact h
section
variable {X : Cx} {e : Expr} {ta : TA} {p pos tpos : Pos} {elts : List Expr} {kk : Nat}
def iEnumT (K : PySem.W.Frag) (ta : TA) : TI := fun σ H R => ta σ H fun vs H1 => ∃ a us, vs = [.ref a] ∧ SqT K H1 a us ∧ R (ItE K a) H1
theorem pi_enumT (hg : Gl X "enumerate") (hm : X.mg "enumerate" = none) (ha : PA X [e] ta) (hs : starEach [e] X.env = [(false, eval e X.env)] := by rfl) :
    PI X (.Tuple elts kk tpos) (.Call (.Name "enumerate" p) [e] [] pos) (iEnumT X.K ta) := by
  refine ⟨fun pins s σ H R I h => ?_⟩
  refine Call_ (ld_blt I hg hm boot_enumerate (PyProof.Rows.callWith_type1 (thn (ha.run pos pins s σ H _ I h) fun us s1 ⟨vs, H1, I1, r1, q1⟩ => ?_) hs rfl))
  obtain ⟨a, xs, rfl, qx, q⟩ := q1
  cases r1 with
  | cons r rr =>
    cases rr
    cases r
    obtain ⟨its, rv, p1, _⟩ := I1.tuple qx
    have T1 : s1.heap.IsTuple a its.toArray := p1
    refine callType_new F.called_enumerate (by decide) (F.typeCall_enumerate_1 _) (F.newCall_enumerate_1 _) (fun obj => F.args_object_init_2 obj _) F.entry_enumerate_new (meets_enumT a its.toArray) ⟨T1, ?_⟩
    have z1 : (s1.heap.push (itrT a)).objs.size = s1.heap.objs.size + 1 := Heap.size_push ..
    have ge : ((s1.heap.push (itrT a)).push (enumO s1.heap.objs.size)).get? (s1.heap.objs.size + 1) = some (enumO s1.heap.objs.size) := at_size z1 rfl
    have gi : ((s1.heap.push (itrT a)).push (enumO s1.heap.objs.size)).get? s1.heap.objs.size = some (itrT a) := Heap.get?_push_of_some _ (at_size rfl rfl)
    refine ⟨⟨_, ge, rfl⟩, wpAny_pyIter_enum (i := 0) (old := .none) ge ?_⟩
    have I2 : Inv X pins σ H1 { s1 with heap := (s1.heap.push (itrT a)).push (enumO s1.heap.objs.size) } := I1.kept (t' := s1.toks) fun c o q => Heap.get?_push_of_some _ (Heap.get?_push_of_some _ q)
    refine ⟨s1.heap.objs.size + 1, [s1.heap.objs.size + 1, s1.heap.objs.size], _, _, H1, rfl, I2, turnE (a := a) (Nat.succ_ne_self _), ⟨⟨.none, ge⟩, ⟨_, gi, rfl, rfl⟩⟩, fun c hc => ?_, q⟩
    have : s1.heap.objs.size ≤ c := by
      simp only [List.mem_cons, List.not_mem_nil, or_false] at hc
      rcases hc with h | h <;> subst h
      · exact Nat.le_add_right _ _
      · exact Nat.le_refl _
    exact I1.fpOk this (I1.hok.fresh this)
end
end ZM
namespace R
open PySem L2 Evl
section
variable {K : PySem.W.Frag} {E : XK}
def wiEnumT (wa : DAW) : DIW := fun X env M Q => wa X env M fun ss M1 => match ss with
  | [.d (.tup ds)] => Q (enumS 0 ds) M1
  | _ => False
theorem walkE {a : Addr} {xs : List V} : Walk (ZM.ItE K a) xs.length (fun H => SqT K H a xs) (YPair (fun i => some (.int (i : Nat))) (fun i => xs[i]?)) := by
  refine ⟨fun i H hi q => ⟨xs, xs[i], q, List.getElem?_eq_getElem hi⟩, fun H q => ⟨xs, q, Nat.le_refl _⟩, fun i H v H' hi q y => ?_⟩
  obtain ⟨T, c, e1, e2, e3, e4⟩ := y
  exact ⟨T, _, c, e1, e2, e3, rfl, e4 xs q⟩
theorem okI_enumT {ta : TA} {wa : DAW} (h : OkA K E ta wa) : OkI K E (ZM.iEnumT K ta) (wiEnumT wa) := by
  intro u G H as M env σ Q Rv c hw fin
  refine h u G H as M env σ _ _ c hw fun vs G1 H1 as1 M1 ss sr1 l1 rs q1 => ?_
  split at q1
  · rename_i ds
    obtain ⟨v, rfl, r⟩ := rs.one
    obtain ⟨p, xs, rfl, hp, hx⟩ := rep_tup.mp r.d
    refine ⟨p, xs, rfl, SqT.of (sr1.gh _ _ hp), fin _ (enumS 0 ds) G1 H1 as1 M1 sr1 l1 ?_ q1⟩
    rw [enumS_len, ← hx.len]
    refine (walkE (K := K) (a := p) (xs := xs)).mono (fun H e => SqT.of (e _ _ hp)) fun i H x H' hi _ y => ?_
    obtain ⟨T, y1, y2, rfl, hT, rfl, e1, e2⟩ := y
    obtain ⟨d, e3, r3⟩ := hx.get' e2
    refine ⟨_, enumS_get 0 ds i d e3, .inr ⟨T, [y1, y2], [.int (0 + (i : Int)), d], hT, rfl, rfl, rfl, ?_⟩⟩
    cases Option.some.inj e1
    exact reps_cons.mpr ⟨_, _, rfl, rep_int.mpr (by rw [Int.zero_add]), reps_one r3⟩
  · exact q1.elim
end
section
variable {X : Cx} {E : XK} {e : Expr} {wl : DAW} {p pos : Pos}
theorem i_enumT {elts : List Expr} {kk : Nat} {tpos : Pos} (hm : X.mg "enumerate" = none) (ha : DA X E [e] wl) (hg : Gl X "enumerate" := by rfl) (hs : starEach [e] X.env = [(false, eval e X.env)] := by rfl) : DI X E (.Tuple elts kk tpos) (.Call (.Name "enumerate" p) [e] [] pos) (wiEnumT wl) := .mk' (ZM.pi_enumT hg hm ha.pe hs) (okI_enumT okAW)
end
end R
/-! Layer R, part 24: sorted(set(list of ints)). -/
namespace ZM
open PySem PyProof.Rows L2
/-- a new set, nothing in it -/
abbrev noSet (w : World) : Obj := { cls := .type "set", dict := none, data := .set #[] 0 (.fresh 0 0 (!w.params.followText "set-order")) }
section
variable {P : Program} {w : World} {A : Around} {E : Value → Shared → Prop} {s : Shared}
theorem set_of_list {l : Addr} {its : Array Value} (ns : List Int) {Q : Value → Shared → Prop} (hh : A.handled = none) (hl : s.heap.IsList l its) (hi : IntsAre its.toList ns) (hb : ns.length + 1 < scanBound)
    (fin : ∀ (k : Heap) (tk c : Nat), SetR w k s.heap.objs.size (fun j => decide (j ∈ ns)) c → c ≤ ns.length → (∀ b o, s.heap.get? b = some o → k.get? b = some o) → Q (.ref s.heap.objs.size) { s with heap := k, toks := tk }) :
    wpAny (model P w) A (call (.type "set") [.ref l]) Q E s := by
  have sz : its.size = ns.length := (Array.length_toList (xs := its)).symm.trans (IntsAre.length hi)
  obtain ⟨c, tl, hmro⟩ := F.called_set.mro
  have hmade := F.called_set.made
  have hsub := F.called_set.sub
  refine wpAny_call (codeAny_of_tree (?_ : wpAny _ _ (callAny (.type "set") _) _ _ _))
  refine wpAny_pure ⟨Code.quiet_builtin _ (by decide +kernel), codeAny_builtin F.entry_type_call ?_⟩
  rw [Around.under_plain (weight_type_call_type "set" [.ref l] []) rfl]
  have c1 := F.called_set.notType
  have c2 := F.called_set.canCreate
  have c3 := F.typeCall_set_1 (.ref l)
  repeat (any_goals (first | assumption | wp_step))
  refine codeAny_mono (code_set_led1 (.ref l) (E := E) (Q₁ := fun ob t => ob = .ref s.heap.objs.size ∧ t = { s with heap := s.heap.push (noSet w) }) ⟨rfl, rfl⟩) fun r t hr => ?_
  cases r with
  | error e => exact hr
  | ok fl =>
    cases fl with
    | next => exact hr.elim
    | brk => exact hr.elim
    | cont => exact hr.elim
    | ret ob =>
      obtain ⟨rfl, rfl⟩ := hr
      have hS : (s.heap.push (noSet w)).get? s.heap.objs.size = some (noSet w) := at_size rfl rfl
      have hT : Shared.TypeIs { s with heap := s.heap.push (noSet w) } (.ref s.heap.objs.size) "set" := ⟨_, hS, rfl⟩
      have i1 := F.called_set.init.lookup
      have i2 := F.called_set.init.bind (.ref s.heap.objs.size)
      repeat (any_goals (first | assumption | wp_step))
      refine codeAny_mono (codeAny_call_builtin (R := wants (fun r t => r = .none ∧ ∃ k tk c, t = { s with heap := k, toks := tk } ∧ SetR w k s.heap.objs.size (fun j => decide (j ∈ ns)) c ∧ c ≤ ns.length ∧ ∀ b o, s.heap.get? b = some o → k.get? b = some o) E)
        F.called_set.init.plain F.entry_set_init (check_set_init_1 hT ?_)) fun r2 t2 hr2 => ?_
      · obtain ⟨⟨oc, od, ot, os⟩, ho, q1, nl, q2⟩ := hl
        simp only at q1 q2
        subst q1 q2
        have lt : l < s.heap.objs.size := Heap.lt_size ho
        have ho2 : (s.heap.push (noSet w)).get? l = some { cls := .type "list", dict := od, data := .seq its nl, slots := os } := Heap.get?_push_of_some _ ho
        have f1 := F.sub_list_set
        have f2 := F.sub_list_frozenset
        have f3 : (Value.type "list" == Value.type "dict") = false := by decide
        have hl2 : (s.heap.push (noSet w)).IsList l its := ⟨_, ho2, rfl, nl, rfl⟩
        unfold Builtin.«set.__init__» noKeywords Builtin.Frozenset.updateFrom
        generalize hPI : pyIter = PI
        wp_walk
        subst hPI
        refine wpAny_pyIter_list hl2 (wpAny_bind (wpAny_runValue ?_))
        have z1 : (s.heap.push (noSet w)).objs.size = s.heap.objs.size + 1 := Heap.size_push ..
        have nI : l ≠ (s.heap.push (noSet w)).objs.size := by rw [z1]; exact Nat.ne_of_lt (Nat.lt_succ_of_lt lt)
        have nS : s.heap.objs.size ∉ [(s.heap.push (noSet w)).objs.size, l] := fun h => by
          rw [z1] at h
          rcases List.mem_cons.mp h with h | h
          · exact absurd h (Nat.ne_of_lt (Nat.lt_succ_self _))
          · exact absurd (List.mem_singleton.mp h) (Nat.ne_of_gt lt)
        have val : ∀ (i : Nat) (v : Value), its[i]? = some v → ∃ k t, ns[i]? = some k ∧ v = .int k t := fun i v hv => by
          have hn : i < ns.length := by rw [← sz]; exact (Array.getElem?_eq_some_iff.mp hv).1
          obtain ⟨t, e⟩ := IntsAre.int_at hi i v (by rw [Array.getElem?_toList]; exact hv)
          rw [List.getD_eq_getElem?_getD, List.getElem?_eq_getElem hn] at e
          exact ⟨ns[i], t, List.getElem?_eq_getElem hn, e⟩
        refine set_update_ints ((Walks.list (by simp [hh]) _ l nI its).toS) s.heap.objs.size nS ns sz hb val (its.size - 0) 0 _ (by omega) (Nat.zero_le _) ⟨⟨_, at_size rfl rfl, rfl, rfl⟩, hl2.push _⟩
          ⟨0, Nat.le_refl 0, setR_new_at (Heap.get?_push_of_some _ hS)⟩ fun t c hm hc hR => ?_
        obtain ⟨k, g2, d2, tk2, os2⟩ := t
        obtain rfl : g2 = s.gens := hm.gens
        obtain rfl : d2 = s.drawn := hm.drawn
        obtain rfl : os2 = s.os := hm.os
        refine wpAny_pure (?_ : wpAny _ _ (ret Value.none) _ _ _)
        refine wpAny_pure ⟨rfl, k, tk2, c, rfl, hR, by omega, fun b o q => hm.heap b o (fun h => ?_) (Heap.get?_push_of_some _ (Heap.get?_push_of_some _ q))⟩
        have lb : b < s.heap.objs.size := Heap.lt_size q
        rcases List.mem_cons.mp h with h | h
        · exact absurd h (Nat.ne_of_lt lb)
        · have h := List.mem_singleton.mp h
          rw [z1] at h
          exact absurd h (Nat.ne_of_lt (Nat.lt_succ_of_lt lb))
      · cases r2 with
        | error e => exact hr2
        | ok fl2 =>
          cases fl2 with
          | next => exact hr2.elim
          | brk => exact hr2.elim
          | cont => exact hr2.elim
          | ret r =>
            obtain ⟨rfl, k, tk, c, rfl, q1, q2, q3⟩ := hr2
            repeat (any_goals (first | assumption | wp_step))
            exact fin k tk c q1 q2 q3
end
/-- sorted(set(xs)), ints -/
def tSortSet (K : PySem.W.Frag) (ta : TE) : TE := fun σ H Q => ta σ H fun x H1 => ∃ (l : Addr) (ns : List Int), x = V.ref l ∧ SqL K H1 l (ns.map V.int) ∧ ns.length < 60 ∧
  ∀ (out : List Int) (p : Addr), out.Pairwise (· < ·) → (∀ k, k ∈ out ↔ k ∈ ns) → H1 p = none → Q (.ref p) (upd H1 p (.lst (out.map V.int)))
theorem pe_sortSet {X : Cx} {a : Expr} {ta : TE} {p p2 q pos : Pos} (hg : Gl X "sorted") (hm : X.mg "sorted" = none) (hg2 : Gl X "set") (hm2 : X.mg "set" = none) (ha : PE X a ta) (hc : X.calm = true := by rfl)
    (na : starEach [a] X.env = (false, eval a X.env) :: starEach [] X.env := by rfl) : PE X (.Call (.Name "sorted" p) [.Call (.Name "set" p2) [a] [] q] [] pos) (tSortSet X.K ta) := by
  refine ⟨fun pins s σ H Q I h => ?_⟩
  refine Call_ (ld_blt I hg hm R.bt_sorted ?_)
  refine callWith_builtin1 (args_cons ?_ rfl) rfl rfl
  refine Call_ (ld_blt I hg2 hm2 boot_set ?_)
  refine callWith_type1 (args_cons (thn (ha.run pins s σ H _ I h) fun v s1 ⟨x, H1, I1, r1, q1⟩ => args_nil ?_) na) na rfl
  obtain ⟨l, ns, rfl, hq, hn, q1⟩ := q1
  cases r1
  obtain ⟨its, rv, pl, hz⟩ := I1.list hq
  refine set_of_list ns (I1.ok.hd hc) pl.isList (by simpa using rv.ints) (by unfold scanBound; omega) fun k tk c hR hc2 hk => args_nil ?_
  have I2 : Inv X _ σ H1 { s1 with heap := k, toks := tk } := I1.kept hk
  refine sorted_set hR (I1.ok.hd hc) (by omega) fun s' p out c' ms k2 g o hp hob hi hs hm hl => ?_
  have hlen : (ms.map V.int).length ≤ sizeLine := by rw [List.length_map, hl, sizeLine_eq]; omega
  have hnp : H1 p = none := I2.hok.fresh hp
  have J : Inv X _ σ (upd H1 p (.lst (ms.map V.int))) { ({ s1 with heap := k, toks := tk } : Shared) with heap := s'.heap, gens := s'.gens, drawn := s'.drawn, toks := s'.toks } :=
    I2.call (ch := []) (Un.laid k2 hp hnp) (I2.hok.laid k2 hp ⟨hlen, out.toList, c', vals_of_ints hi, hob⟩) (by rw [g]; exact I2.bare) (fun _ z => nomatch z)
  have e : s' = { ({ s1 with heap := k, toks := tk } : Shared) with heap := s'.heap, gens := s'.gens, drawn := s'.drawn, toks := s'.toks } := by
    cases s'
    cases s1
    cases o
    rfl
  rw [e]
  exact ⟨.ref p, _, J, rfl, q1 ms p hs (fun k => by rw [hm]; simp) hnp⟩
end ZM
/-! Layer R, part 25: min of pairs, sorted(set(..)), xs.index(x). -/
namespace R
open PySem L2 Evl PySem.W
/-! ### sorted(set(xs)) -/
/-- an ordered row of ints without doubles, with these members -/
def SortedOf (out ns : List Int) : Prop := out.Pairwise (· < ·) ∧ ∀ k, k ∈ out ↔ k ∈ ns
def wSortSetO (we : DW) : DW := fun X env M Q => we X env M fun s M1 => match s with
  | .d (.lst ds) => ∃ ns : List Int, ds = ns.map D.int ∧ ns.length < 60 ∧ ∀ out, SortedOf out ns → Q (.m M1.length) (M1 ++ [.lst (out.map D.int)])
  | _ => False
/-! ### the least pair -/
def ltP (a b : Int × Int) : Bool := decide (a.1 < b.1) || (decide (a.1 = b.1) && decide (a.2 < b.2))
def prD (x : Int × Int) : D := .tup [.int x.1, .int x.2]
def fMinP : DFC
  | [.d (.lst ds)], M, Q => ∃ ps : List (Int × Int), ds = ps.map prD ∧ 0 < ps.length ∧ ∀ m ∈ ps, (∀ y ∈ ps, ltP y m = false) → Q (.d (prD m)) M
  | _, _, _ => False
def prY (x : Int × Int) : PyData := .tuple [.int x.1, .int x.2]
theorem prY_eq (x : Int × Int) : (prD x).py = prY x := by
  unfold prD prY
  simp [D.py, pys]
theorem pys_map : ∀ ps : List (Int × Int), pys (ps.map prD) = ps.map prY
  | [] => rfl
  | x :: ps => by
    show (prD x).py :: pys (ps.map prD) = _
    rw [prY_eq, pys_map ps]; rfl
theorem dataLt_pr (a b : Int × Int) : dataLt (prY a) (prY b) = ltP a b := by
  have e : dataLt (prY a) (prY b) = rowLt ([a.1, a.2].map .int) ([b.1, b.2].map .int) := rfl
  rw [e, dataLt_ints]
  unfold ltP
  rw [Bool.eq_iff_iff]
  simp only [decide_eq_true_eq, Bool.or_eq_true, Bool.and_eq_true]
  constructor
  · intro h
    rcases List.cons_lt_cons_iff.mp h with h | ⟨h1, h2⟩
    · exact .inl h
    · rcases List.cons_lt_cons_iff.mp h2 with h2 | ⟨_, h2⟩
      · exact .inr ⟨h1, h2⟩
      · exact absurd h2 (List.lt_irrefl _)
  · rintro (h | ⟨h1, h2⟩)
    · exact List.cons_lt_cons_iff.mpr (.inl h)
    · exact List.cons_lt_cons_iff.mpr (.inr ⟨h1, List.cons_lt_cons_iff.mpr (.inl h2)⟩)
def minPr (x : Int × Int) (xs : List (Int × Int)) : Int × Int := xs.foldl (fun a y => if ltP y a = true then y else a) x
theorem minD_pr (x : Int × Int) : ∀ xs : List (Int × Int), minD (prY x) (xs.map prY) = prY (minPr x xs) := by
  intro xs
  unfold minD minPr
  induction xs generalizing x with
  | nil => rfl
  | cons y xs ih =>
    rw [List.map_cons, List.foldl_cons, List.foldl_cons, ← ih]
    show List.foldl _ (if dataLt (prY y) (prY x) = true then prY y else prY x) _ = _
    rw [dataLt_pr]
    congr 1
    split <;> rfl
theorem ltP_trans {a b c : Int × Int} (h1 : ltP a b = false) (h2 : ltP b c = false) : ltP a c = false := by
  unfold ltP at *
  simp only [Bool.or_eq_false_iff, Bool.and_eq_false_iff, decide_eq_false_iff_not] at *
  omega
theorem ltP_asym {a b : Int × Int} (h : ltP a b = true) : ltP b a = false := by
  unfold ltP at *
  simp only [Bool.or_eq_false_iff, Bool.and_eq_false_iff, decide_eq_false_iff_not, Bool.or_eq_true, Bool.and_eq_true, decide_eq_true_eq] at *
  omega
theorem ltP_irr (a : Int × Int) : ltP a a = false := by unfold ltP; simp
theorem minPr_spec : ∀ (xs : List (Int × Int)) (x : Int × Int), minPr x xs ∈ x :: xs ∧ ∀ y ∈ x :: xs, ltP y (minPr x xs) = false
  | [], x => ⟨by simp [minPr], fun y hy => by rw [List.mem_singleton.mp hy]; exact ltP_irr x⟩
  | z :: xs, x => by
    show minPr (if ltP z x = true then z else x) xs ∈ _ ∧ _
    obtain ⟨h1, h2⟩ := minPr_spec xs (if ltP z x = true then z else x)
    have e : minPr x (z :: xs) = minPr (if ltP z x = true then z else x) xs := rfl
    rw [e]
    by_cases h : ltP z x = true
    · rw [if_pos h] at h1 h2 ⊢
      refine ⟨List.mem_cons_of_mem _ h1, fun y hy => ?_⟩
      rcases List.mem_cons.mp hy with rfl | hy
      · exact ltP_trans (ltP_asym h) (h2 z List.mem_cons_self)
      · exact h2 y hy
    · rw [if_neg h] at h1 h2 ⊢
      have hf : ltP z x = false := by simpa using h
      refine ⟨?_, fun y hy => ?_⟩
      · rcases List.mem_cons.mp h1 with q | q
        · rw [q]; exact List.mem_cons_self
        · exact List.mem_cons_of_mem _ (List.mem_cons_of_mem _ q)
      · rcases List.mem_cons.mp hy with rfl | hy
        · exact h2 y List.mem_cons_self
        · rcases List.mem_cons.mp hy with rfl | hy
          · exact ltP_trans hf (h2 x List.mem_cons_self)
          · exact h2 y (List.mem_cons_of_mem _ hy)
def rMinP (K : PySem.W.Frag) : List V → Hp → VK → Prop := fun vs H Q => ∃ (a : Addr) (xs : List V) (p : Int × Int) (ps : List (Int × Int)), vs = [V.ref a] ∧ SqL K H a xs ∧ DpAll K H xs (prY p :: ps.map prY) ∧
  ∀ (i : Nat) (x : V), xs[i]? = some x → (p :: ps)[i]? = some (minPr p ps) → Q x H
theorem prY_inj {a b : Int × Int} (h : prY a = prY b) : a = b := by
  unfold prY at h
  injection h with h
  injection h with h1 h2
  injection h2 with h2 _
  injection h1 with h1
  injection h2 with h2
  exact Prod.ext h1 h2
theorem lay_pr (ps : List (Int × Int)) : PyData.canLayAll0 (ps.map prY) = true := by
  induction ps with
  | nil => simp [PyData.canLayAll0]
  | cons p ps ih =>
    rw [List.map_cons]
    unfold PyData.canLayAll0
    rw [ih]
    simp [prY, PyData.canLay0, PyData.canLayAll0]
theorem depth_pr (ps : List (Int × Int)) : PyData.depthAll (ps.map prY) ≤ 8 := by
  induction ps with
  | nil => simp [PyData.depthAll]
  | cons p ps ih =>
    rw [List.map_cons]
    unfold PyData.depthAll
    have : (prY p).depth ≤ 8 := by simp [prY, PyData.depth, PyData.depthAll]
    omega
theorem alike_pr (ps : List (Int × Int)) : AlikeAll (ps.map prY) := by
  refine ⟨fun x hx y hy => ?_, fun x hx => ?_⟩
  · obtain ⟨a, _, rfl⟩ := List.mem_map.mp hx
    obtain ⟨b, _, rfl⟩ := List.mem_map.mp hy
    simp [prY, alike, alikeAll]
  · obtain ⟨a, _, rfl⟩ := List.mem_map.mp hx
    simp [prY]
theorem cr_minP {X : Cx} {k : Nat} (hc : X.calm = true) (hr : Room k X.A) : CallR X (.builtin "min") (rMinP X.K) := by
  intro pins s σ H vs us Q I r h
  obtain ⟨a, xs, p, ps, rfl, hs, hd, q⟩ := h
  obtain ⟨its, rv, hl, _⟩ := I.list hs
  rw [Vals.ref1 r]
  obtain ⟨as, ra⟩ := Dp.readsAll I ((p :: ps).map prY) xs its hd rv
  have dp := depth_pr (p :: ps)
  refine min_list_data (I.ok.hd hc) hl.isList (vs := its.toArray) (by simpa using ra) (alike_pr (p :: ps)) (by have := hr.un; show X.A.units + 1 + PyData.depthAll ((p :: ps).map prY) < cLine; omega) fun i v h' tk bs hv hr' hk => ?_
  have hv : its[i]? = some v := by simpa using hv
  obtain ⟨bs2, r2, hi, _, _⟩ := readsAll_at ra i v hv
  have hi2 : i < (p :: ps).length := by rw [← List.length_map (f := prY)]; exact hi
  have e1 : ((p :: ps).map prY).getD i .none = prY ((p :: ps)[i]) := by rw [List.getD_eq_getElem?_getD, List.getElem?_map, List.getElem?_eq_getElem hi2]; rfl
  rw [e1] at r2
  rw [minD_pr] at hr'
  have e2 := ((reads_keeps hk r2).unique _ _ hr').1
  have hxl : i < xs.length := by
    rw [rv.length]
    exact (List.getElem?_eq_some_iff.mp hv).1
  have hx := List.getElem?_eq_getElem hxl
  obtain ⟨u, hu, ru⟩ := rv.get hx
  rw [hv] at hu
  cases hu
  exact ⟨xs[i], H, I.kept hk, ru, q i xs[i] hx (by rw [List.getElem?_eq_getElem hi2]; exact congrArg some (prY_inj e2))⟩
section
variable {K : PySem.W.Frag} {E : XK}
theorem okC_minP : OkC K (rMinP K) fMinP := by
  intro u G H as M xs ss Q Qv sr rs h fin
  unfold fMinP at h
  split at h
  · rename_i ds
    obtain ⟨ps, rfl, hn, h⟩ := h
    obtain ⟨v, rfl, r⟩ := rs.one
    obtain ⟨a, xs, rfl, ha, hx⟩ := rep_lst.mp r.d
    cases ps with
    | nil => exact absurd hn (by decide)
    | cons p ps =>
      refine ⟨a, xs, p, ps, rfl, SqL.of (sr.gh _ _ ha), ?_, fun i x hxi hpi => ?_⟩
      · have := Reps.dp sr.gh hx (K := K)
        rw [pys_map] at this
        exact this
      · obtain ⟨h1, h2⟩ := minPr_spec ps p
        obtain ⟨d, e, rd⟩ := hx.get' hxi
        rw [List.getElem?_map, hpi] at e
        cases e
        exact fin.here sr (s := .d (prD (minPr p ps))) rd (h _ h1 h2)
  · exact h.elim
theorem okE_sortSetO {te : TE} {we : DW} (he : OkE K E te we) : OkE K E (ZM.tSortSet K te) (wSortSetO we) := by
  intro u G H as M env σ Q Qv c h fin
  refine he u G H as M env σ _ _ c h fun x G1 H1 as1 M1 sx sr1 l1 rx q1 => ?_
  split at q1
  · rename_i ds
    obtain ⟨ns, rfl, hn, q1⟩ := q1
    obtain ⟨p, xs, rfl, hp, hxs⟩ := rep_lst.mp rx.d
    cases reps_ints.mp hxs
    exact ⟨p, ns, rfl, SqL.of (sr1.gh _ _ hp), hn, fun out l ho hm hl => (fin.from l1).own sr1 (reps_ints.mpr rfl) (q1 out ⟨ho, hm⟩) hl⟩
  · exact q1.elim
end
section
variable {X : Cx} {E : XK} {e : Expr} {we : DW} {p p2 q pos : Pos}
theorem d_sortSetO (hm : X.mg "sorted" = none) (hm2 : X.mg "set" = none) (he : DE X E e we) (hc : X.calm = true := by rfl) (hg : Gl X "sorted" := by rfl) (hg2 : Gl X "set" := by rfl) (na : starEach [e] X.env = (false, eval e X.env) :: starEach [] X.env := by rfl) :
    DE X E (.Call (.Name "sorted" p) [.Call (.Name "set" p2) [e] [] q] [] pos) (wSortSetO we) := .mk' (ZM.pe_sortSet hg hm hg2 hm2 he.pe hc na) (okE_sortSetO okW)
end
end R
/-! Layer R, part 26: xs.index(x), ints. -/
namespace R
open PySem L2 Evl
def wIndexI (wo we : DW) : DW := fun X env M Q => wo X env M fun o M1 => match o with
  | .d (.lst ds) => we X env M1 fun s M2 => (match s with
    | .d (.int k) => ∃ (ns : List Int) (j : Nat), ds = ns.map D.int ∧ ns[j]? = some k ∧ (∀ m : Nat, m < j → ns[m]? ≠ some k) ∧ Q (.d (.int (j : Int))) M2
    | _ => False)
  | _ => False
section
variable {K : PySem.W.Frag} {E : XK}
theorem okE_indexI {to te : TE} {wo we : DW} (ho : OkE K E to wo) (he : OkE K E te we) : OkE K E (tBM K "list" (rIndex K) to (tCons te tNil)) (wIndexI wo we) := by
  intro u G H as M env σ Q Qv c h fin
  refine ho u G H as M env σ _ _ c h fun ov G1 H1 as1 M1 so sr1 l1 ro q1 => ?_
  split at q1
  · rename_i ds
    obtain ⟨p, xs, rfl, hp, hxs⟩ := rep_lst.mp ro.d
    refine ⟨.inl ⟨rfl, _, SqL.of (sr1.gh _ _ hp)⟩, ?_⟩
    refine he u G1 H1 as1 M1 env σ _ _ (c.step sr1 l1) q1 fun v G2 H2 as2 M2 s sr2 l2 r q2 => ?_
    split at q2
    · rename_i k
      obtain ⟨ns, j, rfl, hj, hno, q⟩ := q2
      cases reps_ints.mp hxs
      cases rep_int.mp r.d
      refine ⟨p, ns.map V.int, .int k, j, .int k, rfl, rfl, SqL.of (sr2.gh _ _ (l2.ex _ _ hp)), rfl, flat_ints ns, by rw [List.getElem?_map, hj]; rfl, by show (k == k) = true; simp, fun m z hm hz => ?_, ?_⟩
      · rw [List.getElem?_map] at hz
        cases e : ns[m]? with
        | none => rw [e] at hz; cases hz
        | some a =>
          rw [e] at hz
          cases hz
          show (a == k) = false
          have : a ≠ k := fun w => hno m hm (by rw [e, w])
          simpa using this
      · exact fin _ G2 H2 as2 M2 (.d (.int (j : Int))) sr2 (l1.trans l2) srp_int q
    · exact q2.elim
  · exact q1.elim
end
section
variable {X : Cx} {E : XK} {a e : Expr} {wa we : DW} {apos cpos : Pos}
theorem d_indexI (ho : DE X E a wa) (he : DE X E e we) (hbase : attributeBase a "index" X.env (eval a X.env) = eval a X.env := by rfl)
    (hfew : ((backTo cpos (starEach [e] X.env)).all (fun x => !x.1) && (backToKw cpos (keywordEach [] X.env)).all (fun x => x.1.isSome)
      && decide ([e].length + ([] : List Keyword).length + (if ([] : List Keyword).isEmpty then 0 else 1) < 30)) = true := by rfl)
    (hline : (apos.endLine == cpos.line) = true := by rfl) (hs : starEach [e] X.env = (false, eval e X.env) :: starEach [] X.env := by rfl) (hplain : (backTo cpos (starEach [] X.env)).any (·.1) = false := by rfl) :
    DE X E (.Call (.Attribute a "index" apos) [e] [] cpos) (wIndexI wa we) :=
  .mk' (pe_bm PySem.F.plainAttrs_list PySem.F.slot_list_index PySem.F.type_list_index mt_index ho.pe (pa_cons he.pe pa_nil hs) hbase hfew hline hs hplain) (okE_indexI okW okW)
end
end R
/-! Layer R, part 27: a block's own lists end with it; menus. -/
namespace R
open PySem L2 Evl
def keepS (n : Nat) : Option S → Option S
  | some (.d d) => some (.d d)
  | some (.scr ns) => some (.scr ns)
  | some (.dic kvs) => some (.dic kvs)
  | some (.m k) => if k < n then some (.m k) else none
  | some (.acc k) => if k < n then some (.acc k) else none
  | _ => none
def keepE (n : Nat) (env : Env) : Env := env.map (keepS n)
/-- behind a block its own new objects are gone -/
def wTrim (w : DSw) : DSw := fun X Dn env M => w X { Dn with nx := fun env' M' => Dn.nx (keepE M.length env') (M'.take M.length), ct := fun env' M' => Dn.ct (keepE M.length env') (M'.take M.length) } env M
section
variable {K : PySem.W.Frag} {E : XK}
theorem okS_trim {t : TS} {w : DSw} (h1 : OkS K E t w) : OkS K E t (wTrim w) := by
  intro u G H as M env σ Dn Dv c e h
  have hl : as.length = M.length := c.sr.len
  have hn : u.as0.length ≤ M.length := by
    obtain ⟨t0, e0⟩ := c.sr.pre
    rw [← hl, e0, List.length_append]
    omega
  have key : ∀ (σ' : L2.St) (G' H' : Hp) (as' : List Addr) (M' : Mem) (env' : Env), SR u G' H' as' M' → Le G as G' as' → ER K as' G' env' σ' → SR u G' H' as (M'.take M.length) ∧ Le G as G' as ∧ ER K as G' (keepE M.length env') σ' := by
    intro σ' G' H' as' M' env' sr l er
    obtain ⟨t', rfl⟩ := l.pre
    have s2 := sr.trim M.length hn
    rw [← hl, List.take_left] at s2
    rw [← hl]
    refine ⟨s2, ⟨l.ex, [], by simp⟩, by unfold keepE; rw [List.length_map]; exact er.len, fun i s q => ?_⟩
    unfold keepE at q
    rw [List.getElem?_map] at q
    cases q2 : env'[i]? with
    | none => rw [q2] at q; cases q
    | some o =>
      rw [q2] at q
      have q : keepS as.length o = some s := Option.some.inj q
      cases o with
      | none => cases q
      | some s0 =>
        obtain ⟨v, hv, r⟩ := er.get i s0 q2
        cases s0 with
        | d d => cases q; exact ⟨v, hv, r⟩
        | scr ns => cases q; exact ⟨v, hv, r⟩
        | ml is => cases q
        | dic is => cases q; exact ⟨v, hv, r⟩
        | v is => cases q
        | acc k =>
          have q : (if k < as.length then some (S.acc k) else none) = some s := q
          split at q
          · rename_i hk
            cases q
            obtain ⟨C, a, dx, l0, hC, rfl, h1, ha⟩ := r
            rw [List.getElem?_append_left hk] at ha
            exact ⟨_, hv, C, a, dx, l0, hC, rfl, h1, ha⟩
          · cases q
        | m k =>
          have q : (if k < as.length then some (S.m k) else none) = some s := q
          split at q
          · rename_i hk
            cases q
            obtain ⟨a, ha, rfl⟩ := r
            rw [List.getElem?_append_left hk] at ha
            exact ⟨_, hv, a, ha, rfl⟩
          · cases q
  refine h1 u G H as M env σ { Dn with nx := fun env' M' => Dn.nx (keepE M.length env') (M'.take M.length), ct := fun env' M' => Dn.ct (keepE M.length env') (M'.take M.length) } Dv c ⟨fun σ' G' H' as' M' env' sr l er q => ?_, e.rt, e.bk, fun σ' G' H' as' M' env' sr l er q => ?_⟩ h
  · obtain ⟨s2, l2, e2⟩ := key σ' G' H' as' M' env' sr l er
    exact e.nx σ' G' H' as _ _ s2 l2 e2 q
  · obtain ⟨s2, l2, e2⟩ := key σ' G' H' as' M' env' sr l er
    exact e.ct σ' G' H' as _ _ s2 l2 e2 q
end
theorem s_trim {X : Cx} {E : XK} {sts : List Stmt} {w1 : DSw} (h : DSs X E sts w1) : DSs X E sts (wTrim w1) := .mk' h.pe (okS_trim okSW)
/-! ### menus -/
def mnD (ps : List Plan) : D := .tup (ps.map Plan.D)
structure MnOk (ps : List Plan) : Prop where
  l0 : 1 ≤ ps.length
  l1 : ps.length ≤ 6
  all : ∀ p ∈ ps, p.Ok
def sp_check_menu : DSpec := fun ads Q => ∃ ps : List Plan, ads = [.d (mnD ps)] ∧ MnOk ps ∧ Q (.d .non) []
theorem l_check_menu : ∀ ads Q, sp_check_menu ads Q → ads.length = 1 := by rintro _ _ ⟨_, rfl, _⟩; rfl
def w_check_menu : DSw := (wIfS (wOrT (wNotT (wTst (wIsi1 .tuple (wVar 0)))) (wOrT (wNotT (wTst (wChain fLe fLe (wC (.int 1)) (wCB fLen (wCons (wVar 0) wNil)) (wC (.int 6))))) (wNotT (wTst (wCB fAll (wCons (wLc (wiTup (wVar 0)) (wgName 1) wYes (wCall sp_is_plan (wCons (wVar 1) wNil)) [1]) wNil)))))) wNever wNext)
theorem v_check_menu : Keeps w_check_menu 1 sp_check_menu := by
  rintro ads Q ⟨ps, rfl, ok, q⟩
  have h0 := ok.l0
  have h1 := ok.l1
  have ml : (ps.map Plan.D).length = ps.length := List.length_map _
  refine if_t (c := decide ((1 : Int) ≤ ((ps.map Plan.D).length : Int))) (decide_eq_true (by omega)) ?_
  refine if_f (by show (!decide (((ps.map Plan.D).length : Int) ≤ 6)) = false; rw [decide_eq_true (by omega)]; rfl) ?_
  refine dLc_dmap ps Plan.D (fun _ => .bl true) (by omega) (fun p hp k hk => ⟨nod0, p.D, rfl, by rw [plan_ok (ok.all p hp)]; exact hk⟩) ?_
  refine ⟨ps.map fun _ => true, by rw [List.map_map]; rfl, if_f ?_ q⟩
  have : (ps.map fun _ => true).all id = true := by
    rw [List.all_map, List.all_eq_true]
    intro c _
    rfl
  rw [this]; rfl
/-- the least cost with its first place -/
def pairsM (ps : List Plan) (us : List Int) : List (Int × Int) := ps.zipIdx.map fun x => (costM x.1 us, (x.2 : Int))
def sp_cheapest : DSpec := fun ads Q => ∃ (ps : List Plan) (us : List Int), ads = [.d (mnD ps), .d (usD us)] ∧ MnOk ps ∧ UsOk us ∧ ∀ m, m ∈ pairsM ps us → (∀ y ∈ pairsM ps us, ltP y m = false) → Q (.d (prD m)) []
theorem l_cheapest : ∀ ads Q, sp_cheapest ads Q → ads.length = 2 := by rintro _ _ ⟨_, _, rfl, _⟩; rfl
def w_cheapest : DSw := (wSeq (wDrop (wCall sp_check_menu (wCons (wVar 0) wNil))) (wSeq (wDrop (wCall sp_check_usage (wCons (wVar 1) wNil))) (wRet (wCB fMinP (wCons (wLc (wiEnumT (wCons (wVar 0) wNil)) (wgTup 2 (wgCons (wgName 2) (wgCons (wgName 3) wgNil))) wYes (wTup (wCons (wCall sp_cost_of (wCons (wVar 3) (wCons (wVar 1) wNil))) (wCons (wVar 2) wNil))) [2, 3]) wNil)))))
theorem enum_map {α : Type} (f : α → D) : ∀ (xs : List α) (n : Nat), enumS (n : Int) (xs.map f) = (xs.zipIdx n).map fun x => S.d (.tup [.int (x.2 : Int), f x.1])
  | [], n => rfl
  | x :: xs, n => by
    show S.d (.tup [.int (n : Int), f x]) :: enumS ((n : Int) + 1) (xs.map f) = _
    rw [show (n : Int) + 1 = ((n + 1 : Nat) : Int) from rfl, enum_map f xs (n + 1)]
    rfl
theorem v_cheapest : Keeps w_cheapest 2 sp_cheapest := by
  rintro ads Q ⟨ps, us, rfl, ok, hu, q⟩
  have h0 := ok.l0
  have h1 := ok.l1
  have ul := hu.len
  refine ⟨nod0, ps, rfl, ok, nod0, us, rfl, hu, ?_⟩
  show dLc _ _ _ _ _ (enumS ((0 : Nat) : Int) (ps.map Plan.D)) _ _ _
  rw [enum_map]
  refine dLc_map ps.zipIdx _ (fun x => prD (costM x.1 us, (x.2 : Int))) (by rw [List.length_zipIdx]; show 0 + _ ≤ _; omega) (fun x hx k hk => ?_) ?_
  · have hp : x.1 ∈ ps := (List.mem_zipIdx' hx).2 ▸ List.getElem_mem _
    exact ⟨rfl, nod0, x.1, us, rfl, ok.all _ hp, by omega, rfl, hk⟩
  · refine ⟨pairsM ps us, ?_, ?_, fun m hm hle => q m hm hle⟩
    · unfold pairsM
      rw [List.map_map, List.nil_append]; rfl
    · unfold pairsM
      rw [List.length_map, List.length_zipIdx]
      omega
/-! ### needless plans -/
def pl (ps : List Plan) (i : Nat) : Plan := ps.getD i ⟨0, 0, 0, 0⟩
theorem pl_mem {ps : List Plan} {i : Nat} (h : i < ps.length) : pl ps i ∈ ps := by
  unfold pl
  rw [List.getD_eq_getElem?_getD, List.getElem?_eq_getElem h]
  exact List.getElem_mem h
theorem enum_get {n : Int} {ds : List D} {i : Nat} {s : S} (h : (enumS n ds)[i]? = some s) : ∃ d, ds[i]? = some d ∧ s = .d (.tup [.int (n + (i : Int)), d]) := by
  have hi : i < ds.length := by
    have := (List.getElem?_eq_some_iff.mp h).1
    rwa [enumS_len] at this
  have := enumS_get n ds i _ (List.getElem?_eq_getElem hi)
  rw [h] at this
  exact ⟨_, List.getElem?_eq_getElem hi, Option.some.inj this⟩
theorem enumP_get {ps : List Plan} {i : Nat} {s : S} (h : (enumS 0 (ps.map Plan.D))[i]? = some s) : i < ps.length ∧ s = .d (.tup [.int (i : Int), (pl ps i).D]) := by
  obtain ⟨d, hd, rfl⟩ := enum_get h
  obtain ⟨p, hp, rfl⟩ := map_get hd
  have e : pl ps i = p := by unfold pl; rw [List.getD_eq_getElem?_getD, hp]; rfl
  exact ⟨(List.getElem?_eq_some_iff.mp hp).1, by rw [e, Int.zero_add]⟩
def beatB (ps : List Plan) (j i : Nat) : Bool := !decide (j = i) && (ndB (pl ps j) (pl ps i) && (decide (j < i) || !ndB (pl ps i) (pl ps j)))
def anyB (ps : List Plan) (i : Nat) : Bool := (List.range ps.length).any fun j => beatB ps j i
def needL (ps : List Plan) : List Nat := (List.range ps.length).filter (anyB ps)
def natD (ns : List Nat) : List D := ns.map fun (i : Nat) => D.int (i : Int)
theorem anyB_iff {ps : List Plan} {i : Nat} : anyB ps i = true ↔ ∃ j, j < ps.length ∧ beatB ps j i = true := by
  unfold anyB
  rw [List.any_eq_true]
  constructor
  · rintro ⟨j, h1, h2⟩
    exact ⟨j, List.mem_range.mp h1, h2⟩
  · rintro ⟨j, h1, h2⟩
    exact ⟨j, List.mem_range.mpr h1, h2⟩
theorem sorted_ext : ∀ {xs ys : List Int}, xs.Pairwise (· < ·) → ys.Pairwise (· < ·) → (∀ k, k ∈ xs ↔ k ∈ ys) → xs = ys
  | [], [], _, _, _ => rfl
  | [], y :: ys, _, _, h => absurd ((h y).mpr List.mem_cons_self) (by simp)
  | x :: xs, [], _, _, h => absurd ((h x).mp List.mem_cons_self) (by simp)
  | x :: xs, y :: ys, h1, h2, h => by
    have a1 := List.pairwise_cons.mp h1
    have a2 := List.pairwise_cons.mp h2
    have e : x = y := by
      rcases List.mem_cons.mp ((h x).mp List.mem_cons_self) with e | e
      · exact e
      · rcases List.mem_cons.mp ((h y).mpr List.mem_cons_self) with e' | e'
        · exact e'.symm
        · have b1 := a1.1 y e'
          have b2 := a2.1 x e
          omega
    subst e
    rw [sorted_ext a1.2 a2.2 fun k => ?_]
    constructor
    · intro hk
      rcases List.mem_cons.mp ((h k).mp (List.mem_cons_of_mem _ hk)) with e | e
      · have := a1.1 k hk
        omega
      · exact e
    · intro hk
      rcases List.mem_cons.mp ((h k).mpr (List.mem_cons_of_mem _ hk)) with e | e
      · have := a2.1 k hk
        omega
      · exact e
theorem needL_sorted (ps : List Plan) {out : List Int} (fs : List Int) (h : SortedOf out fs) (hm : ∀ k : Int, k ∈ fs ↔ ∃ i : Nat, i < ps.length ∧ k = i ∧ anyB ps i = true) : out.map D.int = natD (needL ps) := by
  have e : out = (needL ps).map fun (i : Nat) => (i : Int) := by
    refine sorted_ext h.1 ?_ fun k => ?_
    · rw [List.pairwise_map]
      exact ((List.pairwise_lt_range).filter _).imp fun h => by omega
    · rw [h.2, hm, List.mem_map]
      constructor
      · rintro ⟨i, h1, h2, h3⟩
        exact ⟨i, List.mem_filter.mpr ⟨List.mem_range.mpr h1, h3⟩, h2.symm⟩
      · rintro ⟨i, h1, h2⟩
        obtain ⟨h3, h4⟩ := List.mem_filter.mp h1
        exact ⟨i, List.mem_range.mp h3, h2.symm, h4⟩
  rw [e]
  unfold natD
  rw [List.map_map]; rfl
def sp_needless : DSpec := fun ads Q => ∃ ps : List Plan, ads = [.d (mnD ps)] ∧ MnOk ps ∧ Q (.m 1) [.dead, .lst (natD (needL ps))]
theorem l_needless : ∀ ads Q, sp_needless ads Q → ads.length = 1 := by rintro _ _ ⟨_, rfl, _⟩; rfl
def w_needless : DSw := (wSeq (wDrop (wCall sp_check_menu (wCons (wVar 0) wNil))) (wSeq (wAsg (wLstO wNil) (wgName 1)) (wSeq (wFor (wiEnumT (wCons (wVar 0) wNil)) (wgTup 2 (wgCons (wgName 2) (wgCons (wgName 3) wgNil))) (wFor (wiEnumT (wCons (wVar 0) wNil)) (wgTup 2 (wgCons (wgName 4) (wgCons (wgName 5) wgNil))) (wIfS (wAndT (wTst (wOp fNe (wVar 4) (wVar 2))) (wAndT (wTst (wCall sp_at_most (wCons (wVar 5) (wCons (wVar 3) wNil)))) (wOrT (wTst (wOp fLt (wVar 4) (wVar 2))) (wNotT (wTst (wCall sp_at_most (wCons (wVar 3) (wCons (wVar 5) wNil)))))))) (wDrop (wAppend (wVar 1) (wVar 2))) wNext))) (wFrz 1 (wRet (wSortSetO (wVar 1)))))))
theorem v_needless : Keeps w_needless 5 sp_needless := by
  rintro ads Q ⟨ps, rfl, ok, q⟩
  have h0 := ok.l0
  have h1 := ok.l1
  refine ⟨nod0, ps, rfl, ok, rfl, ?_⟩
  refine ⟨fun i env M => ∃ (x2 x3 x4 x5 : Option S) (fs : List Int), env = [some (.d (mnD ps)), some (.m 0), x2, x3, x4, x5] ∧ M = [.lst (fs.map D.int)] ∧ fs.length ≤ 6 * i ∧ ∀ k : Int, k ∈ fs ↔ ∃ i' : Nat, i' < i ∧ k = i' ∧ anyB ps i' = true, ⟨_, _, _, _, [], rfl, rfl, Nat.le_refl 0, fun k => ⟨fun h => (by cases h), fun ⟨i', h, _⟩ => absurd h (Nat.not_lt_zero _)⟩⟩, ?_, ?_⟩
  · rintro i s env M hs ⟨x2, x3, x4, x5, fs, rfl, rfl, hl, hm⟩
    obtain ⟨hi, rfl⟩ := enumP_get hs
    refine ⟨rfl, ?_⟩
    refine ⟨fun j env M => ∃ (x4 x5 : Option S) (fs : List Int), env = [some (.d (mnD ps)), some (.m 0), some (.d (.int i)), some (.d (pl ps i).D), x4, x5] ∧ M = [.lst (fs.map D.int)] ∧ fs.length ≤ 6 * i + j ∧ ∀ k : Int, k ∈ fs ↔ (∃ i' : Nat, i' < i ∧ k = i' ∧ anyB ps i' = true) ∨ (k = i ∧ ∃ j', j' < j ∧ beatB ps j' i = true), ⟨_, _, fs, rfl, rfl, by omega, fun k => (by rw [hm]; exact ⟨fun h => .inl h, fun h => h.elim id fun h2 => (by obtain ⟨_, j', h3, _⟩ := h2; exact absurd h3 (Nat.not_lt_zero _))⟩)⟩, ?_, ?_⟩
    · rintro j s env M hs ⟨x4, x5, fs, rfl, rfl, hl, hm⟩
      obtain ⟨hj, rfl⟩ := enumP_get hs
      have oi := ok.all _ (pl_mem hi)
      have oj := ok.all _ (pl_mem hj)
      have no : beatB ps j i = false → ∃ (x4 x5 : Option S) (fs' : List Int), [some (S.d (mnD ps)), some (.m 0), some (.d (.int i)), some (.d (pl ps i).D), some (.d (.int j)), some (.d (pl ps j).D)] = [some (.d (mnD ps)), some (.m 0), some (.d (.int i)), some (.d (pl ps i).D), x4, x5] ∧ [MO.lst (fs.map D.int)] = [.lst (fs'.map D.int)] ∧ fs'.length ≤ 6 * i + (j + 1) ∧ ∀ k : Int, k ∈ fs' ↔ (∃ i' : Nat, i' < i ∧ k = i' ∧ anyB ps i' = true) ∨ (k = i ∧ ∃ j', j' < j + 1 ∧ beatB ps j' i = true) := fun hb => by
        refine ⟨_, _, fs, rfl, rfl, by omega, fun k => ?_⟩
        rw [hm]
        constructor
        · rintro (h | ⟨h, j', h2, h3⟩)
          · exact .inl h
          · exact .inr ⟨h, j', by omega, h3⟩
        · rintro (h | ⟨h, j', h2, h3⟩)
          · exact .inl h
          · by_cases z : j' = j
            · rw [z, hb] at h3
              cases h3
            · exact .inr ⟨h, j', by omega, h3⟩
      have yes : beatB ps j i = true → (fs.map D.int).length < 16000000 ∧ ∃ (x4 x5 : Option S) (fs' : List Int), [some (S.d (mnD ps)), some (.m 0), some (.d (.int i)), some (.d (pl ps i).D), some (.d (.int j)), some (.d (pl ps j).D)] = [some (.d (mnD ps)), some (.m 0), some (.d (.int i)), some (.d (pl ps i).D), x4, x5] ∧ [MO.lst (fs.map D.int ++ [.int i])] = [.lst (fs'.map D.int)] ∧ fs'.length ≤ 6 * i + (j + 1) ∧ ∀ k : Int, k ∈ fs' ↔ (∃ i' : Nat, i' < i ∧ k = i' ∧ anyB ps i' = true) ∨ (k = i ∧ ∃ j', j' < j + 1 ∧ beatB ps j' i = true) := fun hb => by
        refine ⟨by rw [List.length_map]; omega, _, _, fs ++ [(i : Int)], rfl, by rw [List.map_append]; rfl, by rw [List.length_append]; show fs.length + 1 ≤ _; omega, fun k => ?_⟩
        rw [List.mem_append, hm, List.mem_singleton]
        constructor
        · rintro ((h | ⟨h, j', h2, h3⟩) | h)
          · exact .inl h
          · exact .inr ⟨h, j', by omega, h3⟩
          · exact .inr ⟨h, j, by omega, hb⟩
        · rintro (h | ⟨h, _⟩)
          · exact .inl (.inl h)
          · exact .inr h
      refine ⟨rfl, trivial, trivial, ite2 (fun a1 => ?_) (fun a1 => ?_)⟩
      · have a1 : j ≠ i := by
          have a1 : (!((j : Int) == (i : Int))) = true := a1
          intro z
          rw [z] at a1
          simp at a1
        refine ⟨nod0, pl ps j, pl ps i, rfl, oj, oi, ite2 (fun a2 => ifd (fun a3 => yes ?_) (fun a3 => ⟨nod0, pl ps i, pl ps j, rfl, oi, oj, ite2 (fun a4 => yes ?_) (fun a4 => no ?_)⟩)) (fun a2 => if_f rfl (no ?_))⟩
        · have a3 : (j : Int) < (i : Int) := a3
          unfold beatB
          rw [a2, decide_eq_true (by omega : j < i), decide_eq_false a1]; rfl
        · unfold beatB
          rw [a2, a4, decide_eq_false a1]; simp
        · have a3 : ¬ (j : Int) < (i : Int) := a3
          unfold beatB
          rw [Bool.eq_false_iff.mpr a4, decide_eq_false (by omega : ¬ j < i)]; simp
        · unfold beatB
          rw [Bool.eq_false_iff.mpr a2]; simp
      · refine if_f rfl (no ?_)
        have a1 : j = i := by
          have a1 : ¬ (!((j : Int) == (i : Int))) = true := a1
          have : (j : Int) = (i : Int) := by simpa using a1
          omega
        unfold beatB
        rw [decide_eq_true a1]; rfl
    · rintro env M ⟨x4, x5, fs, rfl, rfl, hl, hm⟩
      rw [enumS_len, List.length_map] at hl hm
      refine ⟨_, _, _, _, fs, rfl, rfl, by omega, fun k => ?_⟩
      rw [hm]
      constructor
      · rintro (⟨i', h2, h3, h4⟩ | ⟨h, h2⟩)
        · exact ⟨i', by omega, h3, h4⟩
        · exact ⟨i, by omega, h, anyB_iff.mpr h2⟩
      · rintro ⟨i', h2, h3, h4⟩
        by_cases z : i' = i
        · subst z
          exact .inr ⟨h3, anyB_iff.mp h4⟩
        · exact .inl ⟨i', by omega, h3, h4⟩
  · rintro env M ⟨x2, x3, x4, x5, fs, rfl, rfl, hl, hm⟩
    rw [enumS_len, List.length_map] at hl hm
    refine ⟨fs, rfl, by omega, fun out ho => ?_⟩
    rw [needL_sorted ps fs ho hm]
    exact q
end R
/-! Layer R, part 28: dicts whose keys are pairs of ints. -/
namespace ZM
open PySem PySem.Spec PyProof.Rows L2
/-- ahead of a block a thing is locked for good -/
def tFrz (t : TS) : TS := fun D σ H => ∃ d u, H d = some u ∧ Mut (some u) ∧ ∀ od, t D σ (upd H d (.frz od u))
theorem pss_frz {X : Cx} {sts : List Stmt} {t : TS} (h : PSs X sts t) : PSs X sts (tFrz t) := by
  refine ⟨fun pins s σ H D I hw => ?_⟩
  obtain ⟨d, u, hd, mu, hw⟩ := hw
  obtain ⟨od, I1⟩ := I.lock hd mu
  exact h.run pins s σ _ D I1 (hw od)
section
variable {X : Cx} {pins : List (Addr × Obj)} {σ : L2.St} {H : Hp} {s : Shared} {d : Addr} {o : Obj}
theorem frzV {kvs : List (List L2.Key × V)} (I : Inv X pins σ H s) (h : H d = some (.frz o (.dT kvs))) :
    (d == sysModules) = false ∧ s.heap.get? d = some o ∧ o.ExactDict ∧ kvs.length ≤ sizeLine ∧ ∃ (es : Array DictEntry) (ep : Nat), o.data = .dict es ep ∧ es.size = kvs.length ∧
      ∀ (i : Nat) (k : List L2.Key) (v : V), kvs[i]? = some (k, v) → ∃ (en : DictEntry) (q : Addr), es[i]? = some en ∧ en.key = .ref q ∧ H q = some (.tup (k.map kV)) ∧ RelV v en.val := by
  obtain ⟨hd, z, hs, xs, pr, o', es, ep, ho, hx, hdt, he, _⟩ := I.hok d _ h
  rw [hd] at ho
  cases ho
  refine ⟨hs, hd, hx, z, es, ep, hdt, ?_, fun i k v e => ?_⟩
  · have l1 : es.size = xs.length := size_of_entries he
    have l2 : kvs.length = xs.length := Paired.length pr
    omega
  · obtain ⟨b, hb, e1, e2, e3⟩ := L2.paired_get pr e
    have q := entry_at he i
    rw [hb] at q
    exact ⟨_, b.2.1, q, rfl, e2, e3⟩
end
def Itit (d : Addr) (o : Obj) (kvs : List (List L2.Key × V)) : It :=
  ⟨fun i H => H d = some (.frz o (.dT kvs)) ∧ i < kvs.length, fun i H x H' => ∃ T q k v, kvs[i]? = some (k, v) ∧ x = .ref T ∧ H T = none ∧ H q = some (.tup (k.map kV)) ∧ H' = upd H T (.tup [.ref q, v]),
    fun i H => H d = some (.frz o (.dT kvs)) ∧ kvs.length ≤ i⟩
section
variable {P : Program} {w : World} {K : PySem.W.Frag} {d : Addr} {o : Obj} {es : Array DictEntry} {ep : Nat}
theorem turn_itemsT {kvs : List (List L2.Key × V)} {elts : List Expr} {kk : Nat} {tpos : Pos} (it : Addr) (hod : o.data = .dict es ep) :
    Turn P w K (.Tuple elts kk tpos) (Itit d o kvs) [it] it (fun i h => ∃ ok ov, IsItemIter h it d i es.size ep ok ov) where
  mem := by simp
  obj := fun i h st b hb => by
    have e : b = it := by simpa using hb
    rw [e]
    obtain ⟨ok, ov, e⟩ := st
    exact ⟨_, e, fun v z => nomatch z⟩
  keep := fun i h h' st k => let ⟨ok, ov, e⟩ := st; ⟨ok, ov, k it (by simp) _ e⟩
  item := by
    intro X hP hw hK hc i pins s σ H E I hf st hg
    subst hP hw hK
    obtain ⟨hd, hi⟩ := hg
    obtain ⟨hs, hgd, hx, _, es', ep', hdt, hsz, ent⟩ := frzV I hd
    obtain ⟨rfl, rfl⟩ := L2.dict_ep hod hdt
    obtain ⟨⟨k, v⟩, hkv⟩ : ∃ p, kvs[i]? = some p := ⟨kvs[i], List.getElem?_eq_getElem hi⟩
    obtain ⟨en, q, hen, hkey, hq, rv⟩ := ent i k v hkv
    obtain ⟨ok, ov, he⟩ := st
    have hlt : it < s.heap.objs.size := Heap.lt_size he
    have hle : i < es'.size := by omega
    have ee : es'[i] = en := by
      have z := Array.getElem?_eq_getElem hle
      rw [hen] at z
      exact (Option.some.inj z).symm
    refine wpAny_pyNext_items_item_raw he ⟨o, hgd, hx, hdt⟩ hle fun h' ho hT hz hk => ?_
    refine ⟨_, rfl, wpAny_letOwnedTupleGo_items (s := { s with heap := h' }) ho fun h'' he' sb => ?_⟩
    have hT2 : h''.get? s.heap.objs.size = some { cls := .type "tuple", data := .seq #[en.key, en.val] } := by
      rw [← ee]
      exact (sb.2 _ (Nat.ne_of_gt hlt)).trans hT
    have new : ObjOk X.prog X.w (upd H s.heap.objs.size (.tup [.ref q, v])) h'' s.heap.objs.size (.tup [.ref q, v]) :=
      ⟨by show 2 ≤ sizeLine; decide, [en.key, en.val], .cons hkey (.cons rv .nil), ⟨_, hT2, rfl, _, rfl⟩⟩
    have I1 : Inv X pins σ (upd H s.heap.objs.size (.tup [.ref q, v])) { s with heap := h'' } :=
      I.turnedNew (t' := s.toks) (ch := [it]) (fun b ob hb e => (sb.2 b (by simpa using hb)).trans (hk b ob (by simpa using hb) e)) hf (Nat.le_refl _) new
    refine ⟨.ref s.heap.objs.size, _, I1, rfl, ⟨_, q, k, v, hkv, rfl, I.hok.fresh (Nat.le_refl _), hq, rfl⟩, ⟨_, _, he'⟩, fun b hb => ?_⟩
    have e : b = it := by simpa using hb
    rw [e, upd_ne (Nat.ne_of_lt hlt)]
    exact (hf it (by simp)).1
  done := by
    intro X hP hw hK hc i pins s σ H E I hf st hg
    subst hP hw hK
    obtain ⟨hd, hi⟩ := hg
    obtain ⟨f0, f1, f2, f3, f4, f5⟩ := hf it (by simp)
    obtain ⟨hs, hgd, hx, _, es', ep', hdt, hsz, ent⟩ := frzV I hd
    obtain ⟨rfl, rfl⟩ := L2.dict_ep hod hdt
    obtain ⟨ok, ov, he⟩ := st
    exact wpAny_pyNext_items_end_raw (I.ok.hd hc) he ⟨o, hgd, hx, hdt⟩ (by omega) fun h' eb => ⟨rfl, I.turned (t' := s.toks) (fun b ob hb e => eb b ob hb e) f0 f1 f3 f4 f5⟩
  self := fun A i s Q E st h => let ⟨_, _, e⟩ := st; PySem.W.kcp_self e h
end
def iItemsT (td : TE) : TI := fun σ H R => td σ H fun x H1 => ∃ d o kvs, x = .ref d ∧ H1 d = some (.frz o (.dT kvs)) ∧ R (Itit d o kvs) H1
theorem pi_itemsT {X : Cx} {e : Expr} {td : TE} {apos cpos : Pos} {elts : List Expr} {kk : Nat} {tpos : Pos} (he : PE X e td) (hbase : attributeBase e "items" X.env (eval e X.env) = eval e X.env := by rfl) (hline : (apos.endLine == cpos.line) = true := by rfl) :
    PI X (.Tuple elts kk tpos) (.Call (.Attribute e "items" apos) [] [] cpos) (iItemsT td) := by
  refine ⟨fun pins s σ H R I h => ?_⟩
  refine wpAny_Call_method (T := "dict") (id := "dict.items") hbase rfl hline F.plainAttrs_dict F.slot_dict_items F.type_dict_items (thn (he.run pins s σ H _ I h) fun u s1 ⟨x, H1, I1, rx, d, o, kvs, ex, hd, q⟩ => ?_)
  subst ex
  obtain rfl : u = Value.ref d := rx
  obtain ⟨hs, hgd, hx, _, es, ep, hdt, hsz, ent⟩ := frzV I1 hd
  have hr : s1.heap.DictRaw d es ep := ⟨o, hgd, hx, hdt⟩
  refine ⟨hr.typeIs, fun b q => (by cases q; exact ⟨o, hgd, hx.2.1⟩), ?_⟩
  have I2 : Inv X pins σ H1 { s1 with heap := s1.heap.push { cls := .type "dict_items", data := .fields #[.ref d] } } := I1.kept (t' := s1.toks) fun b ob q => Heap.get?_push_of_some _ q
  have fin : wpAny (model X.prog X.w) X.A (pyIter (.ref s1.heap.objs.size)) (PIE X pins σ (.Tuple elts kk tpos) R) X.xe { s1 with heap := s1.heap.push { cls := .type "dict_items", data := .fields #[.ref d] } } := by
    refine wpAny_pyIter_items_raw (d := d) (es := es) (ep := ep) ⟨_, Heap.get?_push_size _ rfl, rfl, rfl⟩ (hr.at fun _ e => Heap.get?_push_of_some _ e) (pi_one (tk := s1.toks) I2 _ (turn_itemsT _ hdt) ⟨.none, .none, ?_⟩ q)
    exact Heap.get?_push_size _ rfl
  show wpAny _ _ (callWith cpos (.builtin "dict.items") [.ref d] [] []) _ X.xe s1
  exact method_meetsIn F.slot_dict_items F.entry_dict_items rfl (PySem.evalArgs_none ⟨rfl, hr.typeIs, F.args_dict_items_1 _, _, meets_dict_items_raw d hs, ⟨es, ep, hr⟩, fin⟩)
/-! ### list(d.values()) -/
theorem kdl_valsRaw {prog : Program} {w : World} {r d : Addr} {es : Array DictEntry} {ep : Nat} :
    PySem.W.KdlSrc prog w "dict_values" r d es.size (fun i v => ∃ hi : i < es.size, v = es[i].val) (fun h => h.IsValuesView r d ∧ h.DictRaw d es ep) where
  type := fun _ hm => hm.1.typeIs
  there := fun _ hm => ⟨let ⟨_, ho, _⟩ := hm.1; Heap.lt_size ho, let ⟨_, ho, _⟩ := hm.2; Heap.lt_size ho⟩
  keep := fun _ _ hm hk => ⟨let ⟨o, ho, x⟩ := hm.1; ⟨o, hk r (.inl rfl) o ho, x⟩, hm.2.at fun o e => hk d (.inr rfl) o e⟩
  notList := by decide
  notTuple := by decide
  hint := fun _ _ _ _ hm hq => PySem.W.kdl_hint_values hm.1.typeIs hq
  iter := fun _ _ hh hm => ⟨_, _, (fun _ _ hq => wpAny_pyIter_values_raw hm.1 hm.2 hq), Walks.rawValues hh _ d (Nat.ne_of_lt (let ⟨_, ho, _⟩ := hm.2; Heap.lt_size ho)) es ep, ⟨⟨_, Heap.get?_push_size _ rfl, rfl, rfl⟩, hm.2.at fun _ e => Heap.get?_push_of_some _ e⟩⟩
def tListVals (td : TE) : TE := fun σ H Q => td σ H fun x H1 => ∃ d o kvs, x = .ref d ∧ H1 d = some (.frz o (.dT kvs)) ∧ ∀ p, H1 p = none → Q (.ref p) (upd H1 p (.lst (kvs.map (·.2))))
theorem pe_listVals {X : Cx} {e : Expr} {td : TE} {p apos cpos pos : Pos} (hg : Gl X "list") (hm : X.mg "list" = none) (he : PE X e td) (hc : X.calm = true := by rfl) (hbase : attributeBase e "values" X.env (eval e X.env) = eval e X.env := by rfl)
    (hline : (apos.endLine == cpos.line) = true := by rfl)
    (na : starEach [.Call (.Attribute e "values" apos) [] [] cpos] X.env = (false, eval (.Call (.Attribute e "values" apos) [] [] cpos) X.env) :: starEach [] X.env := by rfl) :
    PE X (.Call (.Name "list" p) [.Call (.Attribute e "values" apos) [] [] cpos] [] pos) (tListVals td) := by
  refine ⟨fun pins s σ H Q I h => ?_⟩
  refine Call_ (ld_blt I hg hm R.bt_list ?_)
  refine callWith_type1 (args_cons ?_ na) na rfl
  refine wpAny_Call_method (T := "dict") (id := "dict.values") hbase rfl hline F.plainAttrs_dict F.slot_dict_values F.type_dict_values (thn (he.run _ s σ H _ I h) fun u s1 ⟨x, H1, I1, rx, d, o, kvs, ex, hd, q⟩ => ?_)
  subst ex
  obtain rfl : u = Value.ref d := rx
  obtain ⟨hs, hgd, hx, hz, es, ep, hdt, hsz, ent⟩ := frzV I1 hd
  have hr : s1.heap.DictRaw d es ep := ⟨o, hgd, hx, hdt⟩
  refine ⟨hr.typeIs, fun b q => (by cases q; exact ⟨o, hgd, hx.2.1⟩), ?_⟩
  show wpAny _ _ (callWith cpos (.builtin "dict.values") [.ref d] [] []) _ X.xe s1
  refine method_meetsIn F.slot_dict_values F.entry_dict_values rfl (PySem.evalArgs_none ⟨rfl, hr.typeIs, F.args_dict_values_1 _, _, meets_dict_values_raw d hs, ⟨es, ep, hr⟩, args_nil ?_⟩)
  have I2 : Inv X _ σ H1 { s1 with heap := s1.heap.push { cls := .type "dict_values", data := .fields #[.ref d] } } := I1.kept (t' := s1.toks) fun b ob q => Heap.get?_push_of_some _ q
  refine PySem.W.kdl_call (kdl_valsRaw (r := s1.heap.objs.size) (d := d) (es := es) (ep := ep)) (I2.ok.hd hc) ⟨⟨_, Heap.get?_push_size _ rfl, rfl, rfl⟩, hr.at fun _ e => Heap.get?_push_of_some _ e⟩ (by omega) fun h' tk acc' c' kp e it => ?_
  have l0 : acc'.toList.length = acc'.size := by simp
  have rv : Vals (kvs.map (·.2)) acc'.toList := by
    refine vals_of_at (by rw [List.length_map, l0, it.1, hsz]) fun j x w h1 h2 => ?_
    obtain ⟨hi, hv⟩ := it.2 j w (by rw [← Array.getElem?_toList]; exact h2)
    rw [List.getElem?_map] at h1
    cases hk : kvs[j]? with
    | none => rw [hk] at h1; cases h1
    | some kv =>
      rw [hk] at h1
      have h1 : some kv.2 = some x := h1
      cases h1
      obtain ⟨en, qq, hen, _, _, rr⟩ := ent j kv.1 kv.2 hk
      have z := Array.getElem?_eq_getElem hi
      rw [hen] at z
      rw [hv, ← Option.some.inj z]
      exact rr
  refine ⟨.ref _, _, I2.laid (t' := tk) (o := .lst (kvs.map (·.2))) kp (Nat.le_refl _) ⟨by rw [List.length_map]; exact hz, acc'.toList, c', rv, by rw [Array.toArray_toList]; exact e⟩, rfl, q _ (I2.hok.fresh (Nat.le_refl _))⟩
end ZM
namespace R
open PySem L2 Evl
abbrev DE2 := List ((Int × Int) × Int)
def encD (es : DE2) : List (List L2.Key × V) := es.map fun e => ([.inl e.1.1, .inl e.1.2], .int e.2)
def getD2 (es : DE2) (k : Int × Int) : Option Int := (es.find? fun e => decide (e.1 = k)).map (·.2)
def putD2 (es : DE2) (k : Int × Int) (z : Int) : DE2 := if (es.any fun e => decide (e.1 = k)) = true then es.map (fun e => if e.1 = k then (e.1, z) else e) else es ++ [(k, z)]
theorem enc_key {a b c d : Int} : (([.inl a, .inl b] : List L2.Key) = [.inl c, .inl d]) ↔ (a, b) = (c, d) := by simp
theorem enc_get (k : Int × Int) : ∀ es : DE2, valV (encD es) [.inl k.1, .inl k.2] = (getD2 es k).map V.int
  | [] => rfl
  | e :: r => by
    by_cases h : e.1 = k
    · have h2 : ([.inl e.1.1, .inl e.1.2] : List L2.Key) = [.inl k.1, .inl k.2] := by rw [h]
      show valV (([.inl e.1.1, .inl e.1.2], V.int e.2) :: encD r) _ = _
      rw [valV_pos h2]
      simp [getD2, List.find?_cons, h]
    · have h2 : ¬ ([.inl e.1.1, .inl e.1.2] : List L2.Key) = [.inl k.1, .inl k.2] := fun z => h (enc_key.mp z)
      show valV (([.inl e.1.1, .inl e.1.2], V.int e.2) :: encD r) _ = _
      rw [valV_neg h2, enc_get k r]
      simp [getD2, List.find?_cons, h]
theorem enc_any (k : Int × Int) (es : DE2) : ((encD es).any fun kv => decide (kv.1 = [.inl k.1, .inl k.2])) = es.any fun e => decide (e.1 = k) := by
  unfold encD
  rw [List.any_map]
  congr 1
  funext e
  show decide (([.inl e.1.1, .inl e.1.2] : List L2.Key) = [.inl k.1, .inl k.2]) = decide (e.1 = k)
  rw [decide_eq_decide]
  exact enc_key
theorem enc_put (k : Int × Int) (z : Int) (es : DE2) : putK (encD es) [.inl k.1, .inl k.2] (.int z) = encD (putD2 es k z) := by
  unfold putK putD2
  rw [enc_any]
  split
  · unfold encD
    rw [List.map_map, List.map_map]
    apply List.map_congr_left
    intro e _
    show (if ([.inl e.1.1, .inl e.1.2] : List L2.Key) = [.inl k.1, .inl k.2] then _ else _) = _
    by_cases h : e.1 = k
    · rw [if_pos (enc_key.mpr h)]
      simp [h]
    · rw [if_neg fun q => h (enc_key.mp q)]
      simp [h]
  · unfold encD
    rw [List.map_append]
    rfl
theorem enc_len (es : DE2) : (encD es).length = es.length := by unfold encD; simp
def wDNew : DW := fun _ _ M Q => Q (.m M.length) (M ++ [.raw (.dT [])])
/-- an own dict is locked for good: its slot holds its content -/
def wFrzD (i : Nat) (w : DSw) : DSw := fun X Dn env M => match env[i]? with
  | some (some (.m k)) => (match M[k]? with
    | some (.raw (.dT kvs)) => w X Dn (env.set i (some (.dic kvs))) (M.set k .dead)
    | _ => False)
  | _ => False
def wDGet2 (wd wk wx : DW) : DW := fun X env M Q => wd X env M fun s M1 => match s with
  | .m i => (match M1[i]? with
    | some (.raw (.dT _)) => wk X env M1 fun sk M2 => wx X env M2 fun sx M3 => (match sk with
      | .d (.tup [.int a, .int b]) => (match sx with
        | .d (.int z) => (∃ es, M3[i]? = some (.raw (.dT (encD es))) ∧ Q (.d (.int ((getD2 es (a, b)).getD z))) M3)
        | _ => False)
      | _ => False)
    | _ => False)
  | _ => False
def wDPut (wd wk wv : DW) : DSw := fun X Dn env M => wv X env M fun sv M1 => wd X env M1 fun s M2 => wk X env M2 fun sk M3 => match s with
  | .m i => (match sk with
    | .d (.tup [.int a, .int b]) => (match sv with
      | .d (.int z) => (∃ es, M3[i]? = some (.raw (.dT (encD es))) ∧ es.length < 16000000 ∧ Dn.nx env (M3.set i (.raw (.dT (encD (putD2 es (a, b) z))))))
      | _ => False)
    | _ => False)
  | _ => False
def wListVals (wd : DW) : DW := fun X env M Q => wd X env M fun s M1 => match s with
  | .dic kvs => ∃ es, kvs = encD es ∧ Q (.d (.lst (es.map fun e => .int e.2))) M1
  | _ => False
def putI (i j l : Nat) (env : Env) (e : (Int × Int) × Int) : Env := ((env.set i (some (.d (.int e.1.1)))).set j (some (.d (.int e.1.2)))).set l (some (.d (.int e.2)))
def dIt (i j l : Nat) (wt : DTW) (we : DW) (X : XC) (env : Env) : DE2 → List D → Mem → (List D → Mem → Prop) → Prop
  | [], acc, M, Q => Q acc M
  | e :: r, acc, M, Q => wt X (putI i j l env e) M fun b M1 => if b = true then we X (putI i j l env e) M1 fun v M2 => (match v with
      | .d d => acc.length < 16000000 ∧ dIt i j l wt we X env r (acc ++ [d]) M2 Q
      | _ => False) else dIt i j l wt we X env r acc M1 Q
def wLcIt (wd : DW) (i j l : Nat) (wt : DTW) (we : DW) (vs : List Nat) : DW := fun X env M Q => wd X env M fun s M1 => match s with
  | .dic kvs => ∃ es, kvs = encD es ∧ dIt i j l wt we X (wipeE env vs) es [] M1 fun acc M2 => Q (.d (.lst acc)) M2
  | _ => False
abbrev gIt (K : PySem.W.Frag) (i j l : Nat) : TG := gTup K 2 (gCons (gTup K 2 (gCons (gName i) (gCons (gName j) gNil))) (gCons (gName l) gNil))
section
variable {K : PySem.W.Frag} {E : XK} {u : Wr} {G H : Hp} {as : List Addr} {M : Mem}
theorem okE_dnew : OkE K E tDNewT wDNew := fun u G H as M env σ Q Qv c h fin p hp =>
  fin (.ref p) G _ (as ++ [p]) (M ++ [.raw (.dT [])]) (.m M.length) (c.sr.fresh (mo := .raw (.dT [])) hp ⟨c.sr.gnone hp, c.sr.bnone hp, upd_same⟩) (Le.app G as [p]) ⟨p, by rw [← c.sr.len]; simp, rfl⟩ (show Q (.m M.length) (M ++ [.raw (.dT [])]) from h)
/-- the i-th object is known from now on as ob -/
theorem SR.freezeRaw (sr : SR u G H as M) {i : Nat} {p : Addr} {o ob : HO} (hi : as[i]? = some p) (hm : M[i]? = some (.raw o)) : SR u (upd G p ob) (upd H p ob) as (M.set i .dead) ∧ Ex G (upd G p ob) := by
  obtain ⟨hg, hb, hx⟩ := sr.ms i p _ hi hm
  have e : Ex G (upd G p ob) := Ex.new hg
  refine ⟨⟨fun a w h => ?_, sr.g0.trans e, sr.nd, by simpa using sr.len, fun j a w h1 h2 => ?_, fun a h => ?_, fun a w h1 h2 => ?_, fun a h => ?_, fun a h1 h2 => ?_, sr.wr, sr.pre, fun a w h => ?_, fun t ht => (let ⟨t1, t2, t3⟩ := sr.tb t ht; have q : t.1 ≠ p := (fun z => t2 (z ▸ sr.mem hi)); ⟨t1.stay e (fun z => by rw [upd_ne q]; exact z) fun v z => by rw [upd_ne q]; exact z, t2, t3⟩)⟩, e⟩
  · by_cases ha : a = p
    · subst ha; rw [upd_same] at h ⊢; exact h
    · rw [upd_ne ha] at h ⊢; exact sr.gh a w h
  · by_cases hj : j = i
    · subst hj
      rw [List.getElem?_set_self (by rw [← sr.len]; exact (List.getElem?_eq_some_iff.mp hi).1)] at h2
      cases h2
      trivial
    · rw [List.getElem?_set_ne (Ne.symm hj)] at h2
      have ha : a ≠ p := fun z => hj (sr.inj h1 (z ▸ hi))
      exact (sr.ms j a w h1 h2).stay e (fun z => by rw [upd_ne ha]; exact z) fun v z => by rw [upd_ne ha]; exact z
  · by_cases ha : a = p
    · subst ha; rw [upd_same]; simp
    · rw [upd_ne ha]; exact sr.there a h
  · have : a ≠ p := by rintro rfl; rw [hb] at h1; cases h1
    rw [upd_ne this]; exact sr.fr a w h1 h2
  · have : a ≠ p := by rintro rfl; exact h hb
    rw [upd_ne this]; exact sr.th a h
  · have : a ≠ p := by rintro rfl; exact h1 hb
    rw [upd_ne this]; exact sr.nf a h1 h2
  · obtain ⟨h1, h2, h3⟩ := sr.hd a w h
    have q : a ≠ p := fun z => h3 (z ▸ sr.mem hi)
    exact ⟨by rw [upd_ne q]; exact h1, by rw [upd_ne q]; exact h2, h3⟩
theorem okS_frzD {i : Nat} {t : TS} {w : DSw} (h1 : OkS K E t w) : OkS K E (ZM.tFrz t) (wFrzD i w) := by
  intro u G H as M env σ Dn Dv c e h
  unfold wFrzD at h
  split at h
  · rename_i k ek
    split at h
    · rename_i kvs em
      obtain ⟨v, e1, p, hp, rfl⟩ := c.er.get i _ ek
      obtain ⟨hg, hb, hx⟩ := c.sr.ms k p _ hp em
      refine ⟨p, .dT kvs, hx, trivial, fun od => ?_⟩
      obtain ⟨sr', ex⟩ := c.sr.freezeRaw (ob := .frz od (.dT kvs)) hp em
      have l : Le G as (upd G p (.frz od (.dT kvs))) as := ⟨ex, [], by simp⟩
      refine h1 u _ _ as _ _ σ Dn Dv ⟨c.eE, c.xok, sr', ?_⟩ (e.from l) h
      have q := (c.er.mono l).set i (s := .dic kvs) (v := .ref p) ⟨p, od, rfl, upd_same⟩
      rw [set_id e1] at q
      exact q
    · exact h.elim
  · exact h.elim
theorem rep_pair {a b : Int} {v : V} (r : Rep G (.tup [.int a, .int b]) v) : ∃ p, v = .ref p ∧ G p = some (.tup [.int a, .int b]) := by
  obtain ⟨p, xs, rfl, hp, hx⟩ := rep_tup.mp r
  have e := (reps_ints (ns := [a, b])).mp hx
  subst e
  exact ⟨p, rfl, hp⟩
theorem okE_dget2 {td tk tx : TE} {wd wk wx : DW} (hd : OkE K E td wd) (hk : OkE K E tk wk) (hx : OkE K E tx wx) : OkE K E (tDGet2 td tk tx) (wDGet2 wd wk wx) := by
  intro u G H as M env σ Q Qv c h fin
  refine hd u G H as M env σ _ _ c h fun v G1 H1 as1 M1 s sr1 l1 r1 q1 => ?_
  split at q1
  · rename_i i
    split at q1
    · rename_i kvs em
      obtain ⟨p, hp, rfl⟩ := r1
      obtain ⟨hg, hb, hH⟩ := sr1.ms i p _ hp em
      refine ⟨p, rfl, .inr ⟨kvs, .inl hH⟩, ?_⟩
      refine hk u G1 H1 as1 M1 env σ _ _ (c.step sr1 l1) q1 fun v2 G2 H2 as2 M2 s2 sr2 l2 r2 q2 => ?_
      refine hx u G2 H2 as2 M2 env σ _ _ ((c.step sr1 l1).step sr2 l2) q2 fun v3 G3 H3 as3 M3 s3 sr3 l3 r3 q3 => ?_
      split at q3
      · rename_i a b
        split at q3
        · rename_i z
          obtain ⟨es, em3, q3⟩ := q3
          obtain ⟨t, rfl, ht⟩ := rep_pair (r2.d.mono l3.ex)
          obtain ⟨_, _, hH3⟩ := sr3.ms i p _ ((l2.trans l3).get hp) em3
          rw [rep_int.mp r3.d]
          refine ⟨_, DGet.t (k := [.inl a, .inl b]) hH3 (sr3.gh _ _ ht), ?_⟩
          have e := enc_get (a, b) es
          rw [e]
          refine fin _ G3 H3 as3 M3 _ sr3 ((l1.trans l2).trans l3) ?_ q3
          cases getD2 es (a, b) with
          | none => exact srp_int
          | some y => exact srp_int
        · exact q3.elim
      · exact q3.elim
    · exact q1.elim
  · exact q1.elim
theorem okS_dput {td tk tv : TE} {wd wk wv : DW} (hd : OkE K E td wd) (hk : OkE K E tk wk) (hv : OkE K E tv wv) : OkS K E (sDPut td tk tv) (wDPut wd wk wv) := by
  intro u G H as M env σ Dn Dv c e h
  refine hv u G H as M env σ _ _ c h fun v1 G1 H1 as1 M1 s1 sr1 l1 r1 q1 => ?_
  refine hd u G1 H1 as1 M1 env σ _ _ (c.step sr1 l1) q1 fun v2 G2 H2 as2 M2 s2 sr2 l2 r2 q2 => ?_
  refine hk u G2 H2 as2 M2 env σ _ _ ((c.step sr1 l1).step sr2 l2) q2 fun v3 G3 H3 as3 M3 s3 sr3 l3 r3 q3 => ?_
  split at q3
  · rename_i i
    split at q3
    · rename_i a b
      split at q3
      · rename_i z
        obtain ⟨es, em, hl, q3⟩ := q3
        obtain ⟨p, hp, rfl⟩ := r2
        have hp3 := l3.get hp
        obtain ⟨hg, hb, hH⟩ := sr3.ms i p _ hp3 em
        obtain ⟨t, rfl, ht⟩ := rep_pair r3.d
        rw [rep_int.mp r1.d]
        refine ⟨p, _, rfl, DPut.t (k := [.inl a, .inl b]) hH (sr3.gh _ _ ht) (by rw [enc_len]; exact Nat.lt_of_lt_of_le hl line16), ?_⟩
        have ee := enc_put (a, b) z es
        rw [ee]
        refine e.nx σ G3 _ as3 _ env (sr3.write (mo := .raw (.dT (encD (putD2 es (a, b) z)))) hp3 hg ⟨hg, hb, upd_same⟩) ((l1.trans l2).trans l3) (c.er.mono ((l1.trans l2).trans l3)) q3
      · exact q3.elim
    · exact q3.elim
  · exact q3.elim
theorem reps_vals : ∀ es : DE2, Reps G (es.map fun e => D.int e.2) ((encD es).map (·.2))
  | [] => reps_nil.mpr rfl
  | e :: r => reps_cons.mpr ⟨_, _, rfl, rep_int.mpr rfl, reps_vals r⟩
theorem okE_listVals {td : TE} {wd : DW} (hd : OkE K E td wd) : OkE K E (ZM.tListVals td) (wListVals wd) := by
  intro u G H as M env σ Q Qv c h fin
  refine hd u G H as M env σ _ _ c h fun v G1 H1 as1 M1 s sr1 l1 r1 q1 => ?_
  split at q1
  · rename_i kvs
    obtain ⟨es, rfl, q1⟩ := q1
    obtain ⟨p, od, rfl, hp⟩ := r1
    exact ⟨p, od, _, rfl, sr1.gh _ _ hp, fun t ht => (fin.from l1).lst sr1 (reps_vals es) q1 ht⟩
  · exact q1.elim
theorem walk_itemsT {d : Addr} {od : Obj} {es : DE2} : Walk (ZM.Itit d od (encD es)) es.length (fun H => H d = some (.frz od (.dT (encD es))))
    fun i H x H' => ∃ T q e, es[i]? = some e ∧ x = .ref T ∧ H T = none ∧ H q = some (.tup [.int e.1.1, .int e.1.2]) ∧ H' = upd H T (.tup [.ref q, .int e.2]) :=
  ⟨fun i H hi q => ⟨q, by rw [enc_len]; exact hi⟩, fun H q => ⟨q, by rw [enc_len]; exact Nat.le_refl _⟩, fun i H x H' hi q y => by
    obtain ⟨T, t, k, v, hk, rfl, hT, ht, rfl⟩ := y
    unfold encD at hk
    rw [List.getElem?_map] at hk
    cases he : es[i]? with
    | none => rw [he] at hk; cases hk
    | some e =>
      rw [he] at hk
      have hk : some (([.inl e.1.1, .inl e.1.2] : List L2.Key), V.int e.2) = some (k, v) := hk
      cases hk
      exact ⟨T, t, e, rfl, rfl, hT, ht, rfl⟩⟩
theorem okE_lcIt {td : TE} {tt : TT} {te : TE} {wd : DW} {i j l : Nat} {wt : DTW} {we : DW} {vs : List Nat} (hd : OkE K E td wd) (hw : GW (gIt K i j l) vs) (ht : OkT K E tt wt) (he : OkE K E te we) :
    OkE K E (tLc (ZM.iItemsT td) (gIt K i j l) tt te vs) (wLcIt wd i j l wt we vs) := by
  intro u G H as M env σ Qd Qv c h fin
  refine hd u G H as M env σ _ _ c h fun v G1 H1 as1 M1 s sr1 l1 r1 q1 => ?_
  split at q1
  · rename_i kvs
    obtain ⟨es, rfl, q1⟩ := q1
    obtain ⟨d, od, rfl, hGd⟩ := r1
    refine ⟨d, od, _, rfl, sr1.gh _ _ hGd, fun p hp => ?_⟩
    have hg1 := sr1.gnone hp
    have hb := sr1.bnone hp
    have hn : u.hid p = none := none_of_ne fun z => by
      cases q : u.hid p with
      | none => exact z q
      | some o => have := (sr1.hd p o q).1; rw [hp] at this; cases this
    have ha : p ∉ as1 := fun z => sr1.there p z hp
    refine lc_it walk_itemsT (fun n H => ∃ G2 as2 M2 acc xs, SR (u.hide p (.lst xs)) G2 H as2 M2 ∧ Le G1 as1 G2 as2 ∧ Reps G2 acc xs ∧ dIt i j l wt we u.XQ (wipeE env vs) (es.drop n) acc M2 fun acc M2 => Qd (.d (.lst acc)) M2) ?_ ?_ ?_ ?_
    · exact ⟨G1, as1, M1, [], [], (sr1.other hg1 ha hb hn (by rw [hp]; intro _ z; cases z)).hide upd_same hg1 ha, Le.refl _ _, reps_nil.mpr rfl, q1⟩
    · rintro n H2 _ ⟨G2, as2, M2, acc, xs, sr2, l2, _, _⟩
      exact sr2.gh _ _ (l2.ex _ _ hGd)
    · rintro n x H2 H3 hlt ⟨G2, as2, M2, acc, xs, sr2, l2, hr, hdd⟩ ⟨T, t, e, hes, rfl, hT, htt, rfl⟩
      have ed : es.drop n = e :: es.drop (n + 1) := by
        rw [List.drop_eq_getElem_cons hlt]
        congr 1
        rw [List.getElem?_eq_getElem hlt] at hes
        exact Option.some.inj hes
      rw [ed] at hdd
      unfold dIt at hdd
      have sr3 := sr2.laid (o := .tup [.ref t, .int e.2]) hT
      have l3 : Le G2 as2 (upd G2 T (.tup [.ref t, .int e.2])) as2 := sr2.le_laid hT
      have ne : t ≠ T := ne_of_none htt hT
      have er3 := (((((c.er.wipe vs).mono ((l1.trans l2).trans l3)).set i (s := .d (.int e.1.1)) srp_int).set j (s := .d (.int e.1.2)) srp_int).set l (s := .d (.int e.2)) srp_int)
      refine hw _ _ _ _ _ (fun σ2 H2 e2 q => ⟨?_, q⟩) (show gIt K i j l (.ref T) (L2.wipe σ vs) _ (fun σ2 H2 => tt σ2 H2 fun b H3 => if b = true then te σ2 H3 fun y H4 => ∃ acc, H4 p = some (.lst acc) ∧ acc.length < sizeLine ∧ _ else _) from
        ⟨T, _, rfl, SqT.of upd_same, rfl, _, _, rfl, ⟨t, _, rfl, SqT.of (by rw [upd_ne ne]; exact htt), rfl, _, _, rfl, _, _, rfl, rfl, _, _, rfl, rfl, ?_⟩⟩)
      · rw [e2]
        have : ∀ (ws vs : List Nat) (τ : L2.St), (∀ a ∈ ws, a ∈ vs) → L2.wipe (L2.wipe τ ws) vs = L2.wipe τ vs := by
          intro ws
          induction ws with
          | nil => intro vs τ _; rfl
          | cons w ws ih =>
            intro vs τ hh
            show L2.wipe ((L2.wipe τ ws).set w none) vs = _
            rw [wipe_set (hh w (by simp)), ih vs τ fun a z => hh a (by simp [z])]
        exact this vs vs σ fun a z => z
      · refine ht (u.hide p (.lst xs)) _ _ as2 M2 _ _ _ _ ⟨c.eE, c.xok.hide hn, sr3, er3⟩ hdd fun b G5 H5 as5 M5 sr5 l5 q5 => ?_
        have l35 := l3.trans l5
        cases b with
        | false =>
          rw [if_neg (by decide)] at q5 ⊢
          exact ⟨G5, as5, M5, acc, xs, sr5, l2.trans l35, hr.mono l35.ex, q5⟩
        | true =>
          rw [if_pos rfl] at q5 ⊢
          refine he (u.hide p (.lst xs)) G5 H5 as5 M5 _ _ _ _ ⟨c.eE, c.xok.hide hn, sr5, er3.mono l5⟩ q5 fun v G6 H6 as6 M6 sv sr6 l6 rv q6 => ?_
          have l36 := l35.trans l6
          obtain ⟨k1, k2, k3⟩ := sr6.seek
          split at q6
          · rename_i d
            obtain ⟨z1, z2⟩ := q6
            refine ⟨xs, k1, by rw [hr.len]; exact Nat.lt_of_lt_of_le z1 line16, ?_⟩
            exact ⟨G6, as6, M6, acc ++ [d], xs ++ [v], ((sr6.show_ hn).other k2 k3 hb hn (by rw [k1]; intro _ z; cases z)).hide upd_same k2 k3, l2.trans l36, (hr.mono l36.ex).append (reps_one rv.d), z2⟩
          · exact q6.elim
    · rintro H2 ⟨G2, as2, M2, acc, xs, sr2, l2, hr, hdd⟩
      rw [List.drop_length] at hdd
      obtain ⟨k1, k2, k3⟩ := sr2.seek
      have ex : Ex G2 (upd G2 p (.lst xs)) := Ex.new k2
      exact fin (.ref p) _ H2 as2 M2 (.d (.lst acc)) ((sr2.show_ hn).adopt k1 k2 k3 hb hn) ((l1.trans l2).trans ⟨ex, [], by simp⟩) (rep_lst.mpr ⟨p, xs, rfl, upd_same, hr.mono ex⟩) hdd
  · exact q1.elim
end
section
variable {X : Cx} {E : XK} {e f o k v : Expr} {wd wk wx we : DW} {sts : List Stmt} {w1 : DSw} {p apos cpos pos pos' : Pos}
theorem d_dnew : DE X E (.Dict [] [] pos) wDNew := .mk' pe_dnewT okE_dnew
theorem s_frzD (i : Nat) (h : DSs X E sts w1) : DSs X E sts (wFrzD i w1) := .mk' (ZM.pss_frz h.pe) (okS_frzD okSW)
theorem d_dget2 {n : Nat} (hr : Room n X.A) (ho : DE X E o wd) (he : DE X E e wk) (hf : DE X E f wx) (m : M2 X o "get" apos e f cpos) : DE X E (.Call (.Attribute o "get" apos) [e, f] [] cpos) (wDGet2 wd wk wx) :=
  .mk' (pe_dget2 (by have := hr.units; omega) ho.pe he.pe hf.pe m) (okE_dget2 okW okW okW)
theorem s_dput {n : Nat} (hr : Room n X.A) (ho : DE X E o wd) (hi : DE X E k wk) (hv : DE X E v wx) (hs : swapsWith v (some (.Subscript o k pos')) pos.line X.env = pure false := by rfl) : DS X E (.Assign [.Subscript o k pos'] v pos) (wDPut wd wk wx) :=
  .mk' (ps_dput (by have := hr.units; omega) ho.pe hi.pe hv.pe hs) (okS_dput okW okW okW)
theorem d_listVals (hm : X.mg "list" = none) (he : DE X E e wd) (hc : X.calm = true := by rfl) (hg : Gl X "list" := by rfl) (hbase : attributeBase e "values" X.env (eval e X.env) = eval e X.env := by rfl)
    (hline : (apos.endLine == cpos.line) = true := by rfl)
    (na : starEach [.Call (.Attribute e "values" apos) [] [] cpos] X.env = (false, eval (.Call (.Attribute e "values" apos) [] [] cpos) X.env) :: starEach [] X.env := by rfl) :
    DE X E (.Call (.Name "list" p) [.Call (.Attribute e "values" apos) [] [] cpos] [] pos) (wListVals wd) := .mk' (ZM.pe_listVals hg hm he.pe hc hbase hline na) (okE_listVals okW)
theorem d_lcIt {elt tgA tgB : Expr} {kk : Nat} {tpos : Pos} {ifs : List Expr} {scope : Scope} {own : List (Str × Nat)} {wg : DGW} {wt : DTW} {i j l : Nat} (hc : X.calm = true) (hN : X.N.Nodup) (hd : DE X E e wd) (ok : BlkOk X.N X.env.scope scope own) (hw : GW (gIt X.K i j l) (own.map (·.2)))
    (hg : ∀ (s : Shared) (H : Hp) (C : Addr) (cl : List (Str × Addr)) (fp : List Addr), DG (X.blk s H scope (compEnvC scope cl C X.env) fp) E (.Tuple [tgA, tgB] kk tpos) (gIt X.K i j l) wg) (ht : ∀ (s : Shared) (H : Hp) (C : Addr) (cl : List (Str × Addr)) (fp : List Addr), DTs (X.blk s H scope (compEnvC scope cl C X.env) fp) E ifs wt)
    (he : ∀ (s : Shared) (H : Hp) (C : Addr) (cl : List (Str × Addr)) (fp : List Addr), DE (X.blk s H scope (compEnvC scope cl C X.env) fp) E elt we)
    (hbase : attributeBase e "items" X.env (eval e X.env) = eval e X.env := by rfl) (hline : (apos.endLine == cpos.line) = true := by rfl) (hs : ∀ x, foldedSetIterable (.Call (.Attribute e "items" apos) [] [] cpos) X.env x = pure x := by intro _; rfl) :
    DE X E (.ListComp elt [⟨.Tuple [tgA, tgB] kk tpos, .Call (.Attribute e "items" apos) [] [] cpos, ifs, 0⟩] scope pos) (wLcIt wd i j l wt we (own.map (·.2))) :=
  .mk' (pe_lc hc hN (ZM.pi_itemsT hd.pe hbase hline) ok (fun s H C cl fp => (hg s H C cl fp).pe) (fun s H C cl fp => (ht s H C cl fp).pe) (fun s H C cl fp => (he s H C cl fp).pe) hs) (okE_lcIt okW hw okTW okW)
end
end R
/-! Layer R, part 29: a plan for each month. -/
namespace R
open PySem L2 Evl
theorem mn_at {ps : List Plan} {i : Nat} (h : i < ps.length) : atI (ps.map Plan.D) (i : Int) = some (pl ps i).D := by
  refine L2.atI_nat ?_
  rw [List.getElem?_map, List.getElem?_eq_getElem h]
  unfold pl
  rw [List.getD_eq_getElem?_getD, List.getElem?_eq_getElem h]; rfl
theorem mem_pairs {ps : List Plan} {us : List Int} {x : Int × Int} : x ∈ pairsM ps us ↔ ∃ i, i < ps.length ∧ x = (costM (pl ps i) us, (i : Int)) := by
  unfold pairsM
  rw [List.mem_map]
  constructor
  · rintro ⟨y, hy, rfl⟩
    obtain ⟨p, i⟩ := y
    have h := List.mem_zipIdx' hy
    refine ⟨i, h.1, ?_⟩
    have e : pl ps i = p := by
      unfold pl
      rw [List.getD_eq_getElem?_getD, List.getElem?_eq_getElem h.1]
      exact h.2.symm
    rw [e]
  · rintro ⟨i, hi, rfl⟩
    refine ⟨(pl ps i, i), ?_, rfl⟩
    rw [List.mk_mem_zipIdx_iff_getElem?]
    unfold pl
    rw [List.getD_eq_getElem?_getD, List.getElem?_eq_getElem hi]; rfl
/-! ### rows: (which plan, units) for each month -/
structure St3 where
  b : Option Nat
  k : Int
  c : Int
def St3.eff (s : St3) (i : Nat) : Int := if s.b = some i then s.k else 0
def mcM (p : Plan) (k u : Int) : Int := p.fee + p.price * fuM p.data k u
def stepR (ps : List Plan) (s : St3) (z : Nat × Int) : St3 := ⟨some z.1, nxM (pl ps z.1).data (pl ps z.1).cap (s.eff z.1) z.2, s.c + mcM (pl ps z.1) (s.eff z.1) z.2⟩
def runF (ps : List Plan) (s : St3) (zs : List (Nat × Int)) : St3 := zs.foldl (stepR ps) s
def runR (ps : List Plan) (zs : List (Nat × Int)) : St3 := runF ps ⟨none, 0, 0⟩ zs
structure RowZ (ps : List Plan) (us : List Int) (zs : List (Nat × Int)) : Prop where
  us : zs.map (·.2) = us
  lt : ∀ z ∈ zs, z.1 < ps.length
structure Least (ps : List Plan) (us : List Int) (m : Int) : Prop where
  there : ∃ zs, RowZ ps us zs ∧ (runR ps zs).c = m
  least : ∀ zs, RowZ ps us zs → m ≤ (runR ps zs).c
theorem Least.uniq {ps : List Plan} {us : List Int} {m m' : Int} (h : Least ps us m) (h' : Least ps us m') : m = m' := by
  obtain ⟨z, z1, z2⟩ := h.there
  obtain ⟨y, y1, y2⟩ := h'.there
  have a := h.least y y1
  have b := h'.least z z1
  omega
theorem runR_snoc (ps : List Plan) (zs : List (Nat × Int)) (z : Nat × Int) : runR ps (zs ++ [z]) = stepR ps (runR ps zs) z := by
  unfold runR runF
  rw [List.foldl_append]; rfl
theorem RowZ.snoc {ps : List Plan} {us : List Int} {zs : List (Nat × Int)} (h : RowZ ps us zs) {j : Nat} (u : Int) (hj : j < ps.length) : RowZ ps (us ++ [u]) (zs ++ [(j, u)]) :=
  ⟨by rw [List.map_append, h.us]; rfl, fun z hz => by
    rcases List.mem_append.mp hz with q | q
    · exact h.lt z q
    · rw [List.mem_singleton.mp q]; exact hj⟩
theorem RowZ.back {ps : List Plan} {us : List Int} {u : Int} {ys : List (Nat × Int)} (h : RowZ ps (us ++ [u]) ys) : ∃ zs j, ys = zs ++ [(j, u)] ∧ j < ps.length ∧ RowZ ps us zs := by
  have hu := h.us
  rcases List.eq_nil_or_concat ys with e | ⟨zs, z, e⟩
  · subst e
    simp at hu
  · rw [List.concat_eq_append] at e
    subst e
    rw [List.map_append] at hu
    have h2 := List.append_inj' hu rfl
    have h3 : z.2 = u := by simpa using h2.2
    obtain ⟨j, v⟩ := z
    have h3 : v = u := h3
    subst h3
    exact ⟨zs, j, rfl, h.lt (j, v) (by simp), h2.1, fun y hy => h.lt y (by simp [hy])⟩
theorem nx_mono {d c k k' u : Int} (h : k ≤ k') : nxM d c k u ≤ nxM d c k' u := by unfold nxM; omega
theorem nx_nonneg {d c k u : Int} (hc : 0 ≤ c) : 0 ≤ nxM d c k u := by unfold nxM; omega
theorem mc_mono {p : Plan} (h0 : 0 ≤ p.price) {k k' u : Int} (h : k ≤ k') : mcM p k' u ≤ mcM p k u := by
  unfold mcM
  have : fuM p.data k' u ≤ fuM p.data k u := by unfold fuM; omega
  have := Int.mul_le_mul_of_nonneg_left this h0
  omega
theorem mc_fee {p : Plan} (h0 : 0 ≤ p.price) (k u : Int) : p.fee ≤ mcM p k u := by
  unfold mcM
  have : 0 ≤ fuM p.data k u := by unfold fuM; omega
  have := Int.mul_nonneg h0 this
  omega
theorem month_mc (p : Plan) (k u : Int) : (monthM p k u).cost = mcM p k u := rfl
theorem month_nx (p : Plan) (k u : Int) : (monthM p k u).kept = nxM p.data p.cap k u := rfl
/-- s' is no better than s, but for C -/
structure Dm (s s' : St3) (C : Int) : Prop where
  e : ∀ i, s'.eff i ≤ s.eff i
  c : s.c ≤ s'.c + C
theorem Dm.step {ps : List Plan} (ok : ∀ p ∈ ps, p.Ok) {s s' : St3} {C : Int} (h : Dm s s' C) {z : Nat × Int} (hz : z.1 < ps.length) : Dm (stepR ps s z) (stepR ps s' z) C := by
  have o := ok _ (pl_mem hz)
  have h1 := h.e z.1
  refine ⟨fun i => ?_, ?_⟩
  · show (if some z.1 = some i then _ else (0 : Int)) ≤ if some z.1 = some i then _ else 0
    by_cases q : some z.1 = some i
    · rw [if_pos q, if_pos q]
      exact nx_mono h1
    · rw [if_neg q, if_neg q]
      exact Int.le_refl _
  · show s.c + mcM _ _ _ ≤ s'.c + mcM _ _ _ + C
    have := mc_mono (u := z.2) o.p0 h1
    have := h.c
    omega
theorem Dm.run {ps : List Plan} (ok : ∀ p ∈ ps, p.Ok) {C : Int} : ∀ (zs : List (Nat × Int)) {s s' : St3}, Dm s s' C → (∀ z ∈ zs, z.1 < ps.length) → Dm (runF ps s zs) (runF ps s' zs) C
  | [], _, _, h, _ => h
  | z :: zs, _, _, h, hz => Dm.run ok zs (h.step ok (hz z (by simp))) fun y hy => hz y (by simp [hy])
theorem run_pos {ps : List Plan} (ok : ∀ p ∈ ps, p.Ok) : ∀ (zs : List (Nat × Int)) (s : St3), 0 ≤ s.k → (∀ z ∈ zs, z.1 < ps.length) → 0 ≤ (runF ps s zs).k
  | [], _, h, _ => h
  | z :: zs, s, h, hz => run_pos ok zs (stepR ps s z) (nx_nonneg (ok _ (pl_mem (hz z (by simp)))).c0) fun y hy => hz y (by simp [hy])
theorem eff_pos {s : St3} (h : 0 ≤ s.k) (i : Nat) : 0 ≤ s.eff i := by
  unfold St3.eff
  split
  · exact h
  · exact Int.le_refl _
theorem runR_pos {ps : List Plan} (ok : ∀ p ∈ ps, p.Ok) {us : List Int} {zs : List (Nat × Int)} (h : RowZ ps us zs) : 0 ≤ (runR ps zs).k := run_pos ok zs _ (Int.le_refl 0) h.lt
/-! ### the states -/
def upd1 (L : DE2) (key : Int × Int) (v : Int) : DE2 := putD2 L key (min ((getD2 L key).getD v) v)
def Cmp (L : DE2) (key : Int × Int) (c : Int) : Prop := ∃ w, getD2 L key = some w ∧ w ≤ c
theorem getD2_mem {L : DE2} {key : Int × Int} {w : Int} (h : getD2 L key = some w) : (key, w) ∈ L := by
  unfold getD2 at h
  cases q : L.find? fun e => decide (e.1 = key) with
  | none => rw [q] at h; cases h
  | some e =>
    rw [q] at h
    have h1 := List.mem_of_find?_eq_some q
    have h2 := List.find?_some q
    have h2 : e.1 = key := of_decide_eq_true h2
    have h : some e.2 = some w := h
    cases h
    rw [← h2]
    exact h1
theorem putD2_len (L : DE2) (key : Int × Int) (z : Int) : (putD2 L key z).length ≤ L.length + 1 := by
  unfold putD2
  split
  · rw [List.length_map]; omega
  · rw [List.length_append]; exact Nat.le_refl _
theorem find_map (key k : Int × Int) (z : Int) : ∀ L : DE2, ((L.map fun e => if e.1 = key then (e.1, z) else e).find? fun e => decide (e.1 = k)).map (·.2) = if k = key then (L.find? fun e => decide (e.1 = k)).map (fun _ => z) else (L.find? fun e => decide (e.1 = k)).map (·.2)
  | [] => by simp
  | e :: r => by
    have ih := find_map key k z r
    rw [List.map_cons, List.find?_cons, List.find?_cons]
    by_cases h1 : e.1 = key
    · rw [if_pos h1]
      by_cases h2 : e.1 = k
      · have : k = key := h2.symm.trans h1
        simp [h2, this]
      · have e1 : decide (e.1 = k) = false := decide_eq_false h2
        simp only [e1]
        exact ih
    · rw [if_neg h1]
      by_cases h2 : e.1 = k
      · have : ¬ k = key := fun z => h1 (h2.trans z)
        simp [h2, this]
      · have e1 : decide (e.1 = k) = false := decide_eq_false h2
        simp only [e1]
        exact ih
theorem any_find (L : DE2) (key : Int × Int) : (L.any fun e => decide (e.1 = key)) = (getD2 L key).isSome := by
  unfold getD2
  induction L with
  | nil => rfl
  | cons e r ih =>
    rw [List.any_cons, List.find?_cons]
    cases decide (e.1 = key) with
    | true => rfl
    | false => rw [Bool.false_or]; exact ih
theorem getD2_put (L : DE2) (key k : Int × Int) (z : Int) : getD2 (putD2 L key z) k = if k = key then some z else getD2 L k := by
  unfold putD2
  cases q : L.any fun e => decide (e.1 = key) with
  | true =>
    rw [if_pos rfl]
    unfold getD2
    rw [find_map]
    by_cases h : k = key
    · rw [if_pos h, if_pos h]
      rw [any_find] at q
      unfold getD2 at q
      rw [h]
      cases q2 : L.find? fun e => decide (e.1 = key) with
      | none => rw [q2] at q; cases q
      | some e => rfl
    · rw [if_neg h, if_neg h]
  | false =>
    rw [if_neg (by decide)]
    rw [any_find] at q
    unfold getD2 at q ⊢
    rw [List.find?_append]
    by_cases h : k = key
    · rw [if_pos h, h]
      cases q2 : L.find? fun e => decide (e.1 = key) with
      | none => simp
      | some e => rw [q2] at q; cases q
    · rw [if_neg h]
      have : ¬ key = k := fun z => h z.symm
      cases q2 : L.find? fun e => decide (e.1 = k) with
      | none => simp [this]
      | some e => rfl
theorem upd1_cmp {L : DE2} {key k : Int × Int} {v c : Int} (h : Cmp L k c) : Cmp (upd1 L key v) k c := by
  obtain ⟨w, h1, h2⟩ := h
  unfold upd1 Cmp
  rw [getD2_put]
  by_cases q : k = key
  · rw [if_pos q]
    subst q
    rw [h1]
    refine ⟨_, rfl, ?_⟩
    show min w v ≤ c
    omega
  · rw [if_neg q]
    exact ⟨w, h1, h2⟩
theorem upd1_new (L : DE2) (key : Int × Int) (v : Int) : Cmp (upd1 L key v) key v := by
  unfold upd1 Cmp
  rw [getD2_put, if_pos rfl]
  exact ⟨_, rfl, by omega⟩
theorem upd1_mem {L : DE2} {key : Int × Int} {v : Int} {e : (Int × Int) × Int} (h : e ∈ upd1 L key v) : e ∈ L ∨ e = (key, v) := by
  unfold upd1 at h
  have hz : ∀ z, z = min ((getD2 L key).getD v) v → z = v ∨ getD2 L key = some z := fun z hz => by
    cases q : getD2 L key with
    | none =>
      rw [q] at hz
      left
      have hz : z = min v v := hz
      omega
    | some w =>
      rw [q] at hz
      have hz : z = min w v := hz
      rcases Int.le_total w v with h | h
      · right
        rw [hz, Int.min_eq_left h]
      · left
        omega
  generalize hzz : min ((getD2 L key).getD v) v = z at h
  have h3 := hz z hzz.symm
  have key3 : (key, z) ∈ L ∨ (key, z) = (key, v) := by
    rcases h3 with h3 | h3
    · right; rw [h3]
    · exact .inl (getD2_mem h3)
  unfold putD2 at h
  split at h
  · obtain ⟨x, hx, rfl⟩ := List.mem_map.mp h
    split
    · rename_i q
      rw [q]
      exact key3
    · exact .inl hx
  · rcases List.mem_append.mp h with h | h
    · exact .inl h
    · rw [List.mem_singleton.mp h]
      exact key3
theorem upd1_len (L : DE2) (key : Int × Int) (v : Int) : (upd1 L key v).length ≤ L.length + 1 := putD2_len _ _ _
/-- a state is dominated by a real row -/
def Snd (ps : List Plan) (us : List Int) (e : (Int × Int) × Int) : Prop := ∃ (zs : List (Nat × Int)) (j : Nat), RowZ ps us zs ∧ (runR ps zs).b = some j ∧ e.1.1 = j ∧ e.1.2 ≤ (runR ps zs).k ∧ (runR ps zs).c ≤ e.2
structure DPI (ps : List Plan) (us : List Int) (es : DE2) (best : Int) : Prop where
  s : ∀ e ∈ es, Snd ps us e
  c : ∀ zs, RowZ ps us zs → ∀ j, (runR ps zs).b = some j → Cmp es ((j : Int), (runR ps zs).k) (runR ps zs).c
  b : Least ps us best
theorem DPI.nil (ps : List Plan) : DPI ps [] [] 0 := by
  have nilr : ∀ zs, RowZ ps [] zs → zs = [] := fun zs h => List.map_eq_nil_iff.mp h.us
  refine ⟨fun e he => (by cases he), fun zs h j hj => ?_, ⟨[], ⟨rfl, fun z hz => (by cases hz)⟩, rfl⟩, fun zs h => ?_⟩
  · rw [nilr zs h] at hj
    cases hj
  · rw [nilr zs h]
    exact Int.le_refl _
/-- what is looked at for plan j -/
def smM (es : DE2) (best : Int) (j : Nat) : List (Int × Int) := (es.filter fun e => e.1.1 == (j : Int)).map (fun e => (e.1.2, e.2)) ++ [(0, best)]
def keyM (ps : List Plan) (j : Nat) (x : Int × Int) (u : Int) : Int × Int := ((j : Int), nxM (pl ps j).data (pl ps j).cap x.1 u)
def valM (ps : List Plan) (j : Nat) (x : Int × Int) (u : Int) : Int := x.2 + mcM (pl ps j) x.1 u
def aN (es : DE2) (j : Nat) : Nat := (es.filter fun e => decide (e.1.1 < (j : Int))).length + j
theorem aN_suc (j : Nat) : ∀ (es : DE2) (best : Int), aN es (j + 1) = aN es j + (smM es best j).length
  | [], best => by
    show 0 + (j + 1) = 0 + j + 1
    omega
  | e :: r, best => by
    have ih := aN_suc j r best
    unfold aN smM at ih ⊢
    simp only [List.length_append, List.length_map] at ih ⊢
    rw [List.filter_cons, List.filter_cons, List.filter_cons]
    by_cases h1 : e.1.1 < (j : Int)
    · have h2 : e.1.1 < ((j + 1 : Nat) : Int) := by omega
      have h3 : (e.1.1 == (j : Int)) = false := by
        rw [beq_eq_false_iff_ne]
        omega
      rw [if_pos (decide_eq_true h2), if_pos (decide_eq_true h1), h3, if_neg (by decide), List.length_cons, List.length_cons]
      omega
    · by_cases h3 : e.1.1 = (j : Int)
      · have h2 : e.1.1 < ((j + 1 : Nat) : Int) := by omega
        have h4 : (e.1.1 == (j : Int)) = true := by rw [beq_iff_eq]; exact h3
        rw [if_pos (decide_eq_true h2), if_neg (by rw [decide_eq_false h1]; decide), h4, if_pos rfl, List.length_cons, List.length_cons]
        omega
      · have h2 : ¬ e.1.1 < ((j + 1 : Nat) : Int) := by omega
        have h4 : (e.1.1 == (j : Int)) = false := by rw [beq_eq_false_iff_ne]; exact h3
        rw [if_neg (by rw [decide_eq_false h2]; decide), if_neg (by rw [decide_eq_false h1]; decide), h4, if_neg (by decide)]
        omega
theorem aN_le (es : DE2) (j : Nat) : aN es j ≤ es.length + j := by
  unfold aN
  have := List.length_filter_le (fun e : (Int × Int) × Int => decide (e.1.1 < (j : Int))) es
  omega
theorem snd_new {ps : List Plan} (ok : ∀ p ∈ ps, p.Ok) {us : List Int} {es : DE2} {best u : Int} (h : DPI ps us es best) {j : Nat} (hj : j < ps.length) {x : Int × Int} (hx : x ∈ smM es best j) : Snd ps (us ++ [u]) (keyM ps j x u, valM ps j x u) := by
  have o := ok _ (pl_mem hj)
  have key : ∀ zs, RowZ ps us zs → x.1 ≤ (runR ps zs).eff j → (runR ps zs).c ≤ x.2 → Snd ps (us ++ [u]) (keyM ps j x u, valM ps j x u) := fun zs hz h1 h2 => by
    refine ⟨zs ++ [(j, u)], j, hz.snoc u hj, by rw [runR_snoc]; rfl, rfl, ?_, ?_⟩
    · rw [runR_snoc]
      exact nx_mono h1
    · rw [runR_snoc]
      have := mc_mono (u := u) o.p0 h1
      show (runR ps zs).c + mcM (pl ps j) ((runR ps zs).eff j) u ≤ x.2 + mcM (pl ps j) x.1 u
      omega
  unfold smM at hx
  rcases List.mem_append.mp hx with hx | hx
  · obtain ⟨e, he, rfl⟩ := List.mem_map.mp hx
    obtain ⟨he, h1⟩ := List.mem_filter.mp he
    have h1 : e.1.1 = (j : Int) := by rw [beq_iff_eq] at h1; exact h1
    obtain ⟨zs, i, hz, hb, hi, hk, hc⟩ := h.s e he
    have : i = j := by omega
    subst this
    refine key zs hz ?_ hc
    unfold St3.eff
    rw [if_pos hb]
    exact hk
  · rw [List.mem_singleton.mp hx] at key ⊢
    obtain ⟨zs, hz, hc⟩ := h.b.there
    exact key zs hz (eff_pos (runR_pos ok hz) j) (by show (runR ps zs).c ≤ best; omega)
theorem cmp_mono {L : DE2} {k : Int × Int} {c c' : Int} (h : Cmp L k c) (hc : c ≤ c') : Cmp L k c' := let ⟨w, h1, h2⟩ := h; ⟨w, h1, by omega⟩
/-- all is seen -/
theorem DPI.next {ps : List Plan} (ok : MnOk ps) {us : List Int} {es L : DE2} {best u m : Int} (h : DPI ps us es best) (hs : ∀ e ∈ L, Snd ps (us ++ [u]) e) (hc : ∀ j, j < ps.length → ∀ x ∈ smM es best j, Cmp L (keyM ps j x u) (valM ps j x u))
    (hm : m ∈ L.map (·.2)) (hle : ∀ y ∈ L.map (·.2), m ≤ y) : DPI ps (us ++ [u]) L m := by
  have cc : ∀ zs, RowZ ps (us ++ [u]) zs → ∃ j, (runR ps zs).b = some j ∧ Cmp L ((j : Int), (runR ps zs).k) (runR ps zs).c := fun ys hy => by
    obtain ⟨zs, j, rfl, hj, hz⟩ := hy.back
    refine ⟨j, by rw [runR_snoc]; rfl, ?_⟩
    rw [runR_snoc]
    show Cmp L ((j : Int), nxM _ _ _ u) ((runR ps zs).c + mcM _ _ u)
    by_cases hb : (runR ps zs).b = some j
    · have e : (runR ps zs).eff j = (runR ps zs).k := by unfold St3.eff; rw [if_pos hb]
      obtain ⟨w, h1, h2⟩ := h.c zs hz j hb
      have hx : ((runR ps zs).k, w) ∈ smM es best j := by
        unfold smM
        refine List.mem_append.mpr (.inl (List.mem_map.mpr ⟨_, List.mem_filter.mpr ⟨getD2_mem h1, ?_⟩, rfl⟩))
        simp
      rw [e]
      refine cmp_mono (hc j hj _ hx) ?_
      show w + mcM (pl ps j) (runR ps zs).k u ≤ (runR ps zs).c + mcM (pl ps j) (runR ps zs).k u
      omega
    · have e : (runR ps zs).eff j = 0 := by unfold St3.eff; rw [if_neg hb]
      have hx : ((0 : Int), best) ∈ smM es best j := List.mem_append.mpr (.inr (by simp))
      have := h.b.least zs hz
      rw [e]
      refine cmp_mono (hc j hj _ hx) ?_
      show best + mcM (pl ps j) 0 u ≤ (runR ps zs).c + mcM (pl ps j) 0 u
      omega
  have low : ∀ zs, RowZ ps (us ++ [u]) zs → m ≤ (runR ps zs).c := fun zs hz => by
    obtain ⟨j, _, w, h1, h2⟩ := cc zs hz
    have := hle w (List.mem_map.mpr ⟨_, getD2_mem h1, rfl⟩)
    omega
  refine ⟨hs, fun zs hz j hj => ?_, ?_, low⟩
  · obtain ⟨i, h1, h2⟩ := cc zs hz
    rw [h1] at hj
    cases hj
    exact h2
  · obtain ⟨e, he, rfl⟩ := List.mem_map.mp hm
    obtain ⟨zs, j, hz, _, _, _, h2⟩ := hs e he
    exact ⟨zs, hz, Int.le_antisymm h2 (low zs hz)⟩
end R
/-! Layer R, part 30: least_with_changes. -/
namespace R
open PySem L2 Evl
theorem dIt_sel {i j l : Nat} {wt : DTW} {we : DW} {X : XC} {env : Env} {M : Mem} {Q : List D → Mem → Prop} (sel : (Int × Int) × Int → Bool) (f : (Int × Int) × Int → D) : ∀ (es : DE2) (acc : List D), acc.length + es.length ≤ 16000000 →
    (∀ e ∈ es, ∀ k : Bool → Mem → Prop, k (sel e) M → wt X (putI i j l env e) M k) → (∀ e ∈ es, ∀ k : DK, k (.d (f e)) M → we X (putI i j l env e) M k) → Q (acc ++ (es.filter sel).map f) M → dIt i j l wt we X env es acc M Q
  | [], acc, _, _, _, q => by simpa [dIt] using q
  | e :: r, acc, hl, h1, h2, q => by
    unfold dIt
    refine h1 e (by simp) _ ?_
    have rec_ := fun (acc : List D) (hl : acc.length + r.length ≤ 16000000) (q : Q (acc ++ (r.filter sel).map f) M) => dIt_sel (Q := Q) sel f r acc hl (fun e he => h1 e (by simp [he])) (fun e he => h2 e (by simp [he])) q
    have hl' : acc.length + (r.length + 1) ≤ 16000000 := hl
    cases hs : sel e with
    | true =>
      rw [if_pos rfl]
      rw [List.filter_cons_of_pos hs] at q
      refine h2 e (by simp) _ ⟨by omega, rec_ (acc ++ [f e]) (by rw [List.length_append]; show acc.length + 1 + r.length ≤ _; omega) ?_⟩
      rw [List.append_assoc]
      exact q
    | false =>
      rw [if_neg (by decide)]
      rw [List.filter_cons_of_neg (by rw [hs]; decide)] at q
      exact rec_ acc (by omega) q
theorem smM_len (es : DE2) (best : Int) (j : Nat) : (smM es best j).length ≤ es.length + 1 := by
  unfold smM
  rw [List.length_append, List.length_map]
  have := List.length_filter_le (fun e : (Int × Int) × Int => e.1.1 == (j : Int)) es
  show _ + 1 ≤ _
  omega
def sp_least_with_changes : DSpec := fun ads Q => ∃ (ps : List Plan) (us : List Int), ads = [.d (mnD ps), .d (usD us)] ∧ MnOk ps ∧ UsOk us ∧ ∀ m, Least ps us m → Q (.d (.int m)) []
theorem l_least_with_changes : ∀ ads Q, sp_least_with_changes ads Q → ads.length = 2 := by rintro _ _ ⟨_, _, rfl, _⟩; rfl
def w_least_with_changes : DSw := (wSeq (wDrop (wCall sp_check_menu (wCons (wVar 0) wNil))) (wSeq (wDrop (wCall sp_check_usage (wCons (wVar 1) wNil))) (wSeq (wAsg wDNew (wgName 2)) (wFrzD 2 (wSeq (wAsg (wC (.int 0)) (wgName 3)) (wSeq (wFor (wiTup (wVar 1)) (wgName 4) (wTrim (wSeq (wAsg wDNew (wgName 5)) (wSeq (wFor (wiEnumT (wCons (wVar 0) wNil)) (wgTup 2 (wgCons (wgName 6) (wgCons (wgName 7) wgNil))) (wSeq (wAsg (wOp fAdd (wLcIt (wVar 2) 13 9 10 (wTst (wOp fEq (wVar 13) (wVar 6))) (wTup (wCons (wVar 9) (wCons (wVar 10) wNil))) [10, 13, 9]) (wLst (wCons (wTup (wCons (wC (.int 0)) (wCons (wVar 3) wNil))) wNil))) (wgName 8)) (wFor (wiLst (wVar 8)) (wgTup 2 (wgCons (wgName 9) (wgCons (wgName 10) wgNil))) (wSeq (wAsg (wCall sp_month (wCons (wVar 7) (wCons (wVar 9) (wCons (wVar 4) wNil)))) (wgName 11)) (wSeq (wAsg (wTup (wCons (wVar 6) (wCons (wOp fIx (wVar 11) (wC (.int 1))) wNil))) (wgName 12)) (wDPut (wVar 5) (wVar 12) (wCB fMin2 (wCons (wDGet2 (wVar 5) (wVar 12) (wOp fAdd (wVar 10) (wOp fIx (wVar 11) (wC (.int 0))))) (wCons (wOp fAdd (wVar 10) (wOp fIx (wVar 11) (wC (.int 0)))) wNil))))))))) (wFrzD 5 (wSeq (wAsg (wVar 5) (wgName 2)) (wAsg (wCB fMinL (wCons (wListVals (wVar 2)) wNil)) (wgName 3)))))))) (wRet (wVar 3))))))))
theorem v_least_with_changes : Keeps w_least_with_changes 12 sp_least_with_changes := by
  rintro ads Q ⟨ps, us, rfl, ok, hu, q⟩
  have h0 := ok.l0
  have h1 := ok.l1
  have ul := hu.len
  refine ⟨nod0, ps, rfl, ok, nod0, us, rfl, hu, ?_⟩
  refine ⟨fun i env M => ∃ (es : DE2) (best : Int) (x4 x5 x6 x7 x8 x9 x10 x11 x12 x13 : Option S), env = [some (.d (mnD ps)), some (.d (usD us)), some (.dic (encD es)), some (.d (.int best)), x4, x5, x6, x7, x8, x9, x10, x11, x12, x13] ∧ M = [.dead] ∧ DPI ps (us.take i) es best ∧ es.length ≤ 6 * i,
    ⟨[], 0, _, _, _, _, _, _, _, _, _, _, rfl, rfl, DPI.nil ps, Nat.zero_le _⟩, ?_, ?_⟩
  · rintro i s env M hs ⟨es, best, x4, x5, x6, x7, x8, x9, x10, x11, x12, x13, rfl, rfl, dp, el⟩
    obtain ⟨u, hu2, rfl⟩ := dmap_get hs
    have hi : i < us.length := (List.getElem?_eq_some_iff.mp hu2).1
    have e1 := take_suc hu2
    refine ⟨fun j env M => ∃ (L : DE2) (x6 x7 x8 x9 x10 x11 x12 x13 : Option S), env = [some (.d (mnD ps)), some (.d (usD us)), some (.dic (encD es)), some (.d (.int best)), some (.d (.int u)), some (.m 1), x6, x7, x8, x9, x10, x11, x12, x13] ∧ M = [.dead, .raw (.dT (encD L))] ∧
      (∀ e ∈ L, Snd ps (us.take i ++ [u]) e) ∧ (∀ j', j' < j → ∀ x ∈ smM es best j', Cmp L (keyM ps j' x u) (valM ps j' x u)) ∧ L.length ≤ aN es j,
      ⟨[], _, _, _, _, _, _, _, _, rfl, rfl, fun e he => (by cases he), fun j' hj' => absurd hj' (Nat.not_lt_zero _), Nat.zero_le _⟩, ?_, ?_⟩
    · rintro j s env M hs ⟨L, x6, x7, x8, x9, x10, x11, x12, x13, rfl, rfl, hS, hC, hL⟩
      obtain ⟨hj, rfl⟩ := enumP_get hs
      have oj := ok.all _ (pl_mem hj)
      have sl := smM_len es best j
      have aj := aN_le es j
      refine ⟨rfl, es, rfl, ?_⟩
      refine dIt_sel (fun e => e.1.1 == (j : Int)) (fun e => prD (e.1.2, e.2)) es [] (by show 0 + _ ≤ _; omega) (fun e he k hk => ⟨trivial, trivial, hk⟩) (fun e he k hk => ⟨rfl, hk⟩) ?_
      have es1 : ([] : List D) ++ (es.filter fun e => e.1.1 == (j : Int)).map (fun e => prD (e.1.2, e.2)) ++ [D.tup [D.int 0, D.int best]] = (smM es best j).map prD := by
        unfold smM
        rw [List.map_append, List.map_map, List.nil_append]; rfl
      refine ⟨rfl, rfl, ?_, ?_⟩
      · have := congrArg List.length es1
        rw [List.length_append, List.length_map] at this
        show _ + 1 ≤ 16000000
        have t2 : (([] : List D) ++ (es.filter fun e => e.1.1 == (j : Int)).map (fun e => prD (e.1.2, e.2))).length + 1 = (smM es best j).length := this
        omega
      rw [es1]
      refine ⟨fun t env M => ∃ (L : DE2) (x9 x10 x11 x12 : Option S), env = [some (.d (mnD ps)), some (.d (usD us)), some (.dic (encD es)), some (.d (.int best)), some (.d (.int u)), some (.m 1), some (.d (.int (j : Int))), some (.d (pl ps j).D), some (.d (.lst ((smM es best j).map prD))), x9, x10, x11, x12, x13] ∧ M = [.dead, .raw (.dT (encD L))] ∧
        (∀ e ∈ L, Snd ps (us.take i ++ [u]) e) ∧ (∀ j', j' < j → ∀ x ∈ smM es best j', Cmp L (keyM ps j' x u) (valM ps j' x u)) ∧ (∀ x ∈ (smM es best j).take t, Cmp L (keyM ps j x u) (valM ps j x u)) ∧ L.length ≤ aN es j + t,
        ⟨L, _, _, _, _, rfl, rfl, hS, hC, fun x hx => (by cases hx), hL⟩, ?_, ?_⟩
      · rintro t s env M hs ⟨L, x9, x10, x11, x12, rfl, rfl, hS, hC, hT, hL⟩
        obtain ⟨x, hx, rfl⟩ := dmap_get hs
        have ht : t < (smM es best j).length := (List.getElem?_eq_some_iff.mp hx).1
        have xm := List.mem_of_getElem? hx
        refine ⟨rfl, nod0, pl ps j, x.1, u, rfl, oj, rfl, L, rfl, L, rfl, by omega, ?_⟩
        refine ⟨upd1 L (keyM ps j x u) (valM ps j x u), _, _, _, _, rfl, rfl, fun e he => ?_, fun j' hj' y hy => upd1_cmp (hC j' hj' y hy), fun y hy => ?_, by have := upd1_len L (keyM ps j x u) (valM ps j x u); omega⟩
        · rcases upd1_mem he with he | he
          · exact hS e he
          · rw [he]
            exact snd_new ok.all dp hj xm
        · rw [take_suc hx] at hy
          rcases List.mem_append.mp hy with hy | hy
          · exact upd1_cmp (hT y hy)
          · rw [List.mem_singleton.mp hy]
            exact upd1_new _ _ _
      · rintro env M ⟨L, x9, x10, x11, x12, rfl, rfl, hS, hC, hT, hL⟩
        rw [List.length_map, List.length_map] at hT hL
        rw [List.take_length] at hT
        refine ⟨L, _, _, _, _, _, _, _, _, rfl, rfl, hS, fun j' hj' x hx => ?_, by rw [aN_suc j es best]; exact hL⟩
        by_cases z : j' = j
        · subst z
          exact hT x hx
        · exact hC j' (by omega) x hx
    · rintro env M ⟨L, x6, x7, x8, x9, x10, x11, x12, x13, rfl, rfl, hS, hC, hL⟩
      rw [enumS_len, List.length_map] at hC hL
      have al := aN_le es ps.length
      have lp : 0 < L.length := by
        obtain ⟨w, h, _⟩ := hC 0 (by omega) (0, best) (List.mem_append.mpr (.inr (by simp)))
        exact List.length_pos_of_mem (getD2_mem h)
      refine ⟨L, rfl, L.map (·.2), by rw [List.map_map]; rfl, by rw [List.length_map]; exact lp, fun m hm hle => ?_⟩
      refine ⟨L, m, _, _, _, _, _, _, _, _, _, _, rfl, rfl, ?_, by omega⟩
      rw [e1]
      exact dp.next ok hS hC hm hle
  · rintro env M ⟨es, best, x4, x5, x6, x7, x8, x9, x10, x11, x12, x13, rfl, rfl, dp, el⟩
    rw [List.length_map, List.length_map, List.take_length] at dp
    exact q best dp.b
end R
/-! Layer R, part 31: a tuple from its end. -/
namespace ZM
open PySem PySem.Spec PyProof.Rows L2
theorem adjust_rev (n : Nat) : Builtin.Slice.sliceAdjust none none (-1) (n : Int) = ((n : Int) - 1, -1) := by
  unfold Builtin.Slice.sliceAdjust
  rfl
theorem places_rev (n : Nat) : Builtin.Slice.slicePlaces ((n : Int) - 1) (-1) (-1) = n := by
  unfold Builtin.Slice.slicePlaces
  simp
  omega
theorem pick_rev (xs : Array Value) : ((List.range xs.size).filterMap fun (m : Nat) => xs[(((xs.size : Int) - 1) + (m : Int) * (-1)).toNat]?).toArray = xs.toList.reverse.toArray := by
  congr 1
  have e : (List.range xs.size).filterMap (fun (m : Nat) => xs[(((xs.size : Int) - 1) + (m : Int) * (-1)).toNat]?) = ((List.range xs.size).map fun k => xs.size - 1 - k).filterMap (xs[·]?) := by
    rw [List.filterMap_map]
    have key : ∀ (l : List Nat), (∀ m ∈ l, m < xs.size) → l.filterMap (fun (m : Nat) => xs[(((xs.size : Int) - 1) + (m : Int) * (-1)).toNat]?) = l.filterMap ((fun x => xs[x]?) ∘ fun k => xs.size - 1 - k) := by
      intro l
      induction l with
      | nil => intro _; rfl
      | cons m l ih =>
        intro h
        have hm := h m (by simp)
        have e2 : (((xs.size : Int) - 1) + (m : Int) * (-1)).toNat = xs.size - 1 - m := by omega
        rw [List.filterMap_cons, List.filterMap_cons, ih fun y hy => h y (by simp [hy]), e2]
        rfl
    exact key _ fun m hm => List.mem_range.mp hm
  rw [e, PySem.W.krv_range, List.filterMap_reverse, PySem.W.krv_all]
section
variable {prog : Program} {w : World} {A : Around} {E : Value → Shared → Prop} {s : Shared}
theorem sliceApplied_rev {sl : Addr} {vl vu vs : Value} {n : Nat} {Q : Int × Int × Nat → Shared → Prop} (hs : s.heap.IsSliceOf sl vl vu vs) (pl : IsPart vl none) (pu : IsPart vu none) (ps : IsPart vs (some (-1)))
    (h : Q ((n : Int) - 1, -1, n) s) : wpAny (model prog w) A (Builtin.Slice.sliceApplied (.ref sl) (pure (n : Int))) Q E s := by
  obtain ⟨os, hos, hcs, hds⟩ := id hs
  unfold Builtin.Slice.sliceApplied Builtin.Slice.sliceFields
  refine wpAny_bind (wpAny_bind (wpAny_field hos hds (x := vl) rfl (wpAny_bind (wpAny_field hos hds (x := vu) rfl (wpAny_bind (wpAny_field hos hds (x := vs) rfl (wpAny_pure ?_)))))))
  refine wpAny_bind (HT.slicePart_ ps ?_)
  show wpAny _ _ (if ((-1 : Int) == 0) = true then _ else _) _ _ s
  rw [if_neg (by decide)]
  refine wpAny_bind (HT.slicePart_ pl (wpAny_bind (HT.slicePart_ pu (wpAny_bind (wpAny_pure ?_)))))
  show wpAny _ _ (match Builtin.Slice.sliceAdjust none none (-1) (n : Int) with | (lo, hi) => pure (lo, (-1 : Int), Builtin.Slice.slicePlaces lo hi (-1))) _ _ s
  rw [adjust_rev n]
  show wpAny _ _ (pure ((n : Int) - 1, (-1 : Int), Builtin.Slice.slicePlaces ((n : Int) - 1) (-1) (-1))) _ _ s
  rw [places_rev]
  exact wpAny_pure h
theorem getItem_tuple_rev {t sl : Addr} {items : Array Value} {vl vu vs : Value} {Q : Value → Shared → Prop} (ht : IsTup s.heap t items) (hs : s.heap.IsSliceOf sl vl vu vs) (pl : IsPart vl none) (pu : IsPart vu none) (ps : IsPart vs (some (-1)))
    (h : Q (.ref s.heap.objs.size) { s with heap := s.heap.push { cls := .type "tuple", data := .seq items.toList.reverse.toArray } }) (hsz : items.size ≤ sizeLine) : wpAny (model prog w) A (getItem (.ref t) (.ref sl)) Q E s := by
  have htake : sizeOk (.seq items.toList.reverse.toArray) := by
    show items.toList.reverse.toArray.size ≤ sizeLine
    rw [List.size_toArray, List.length_reverse, Array.length_toList]
    exact hsz
  obtain ⟨os, hos, hcs, hds⟩ := id hs
  have hTs : s.TypeIs (.ref sl) "slice" := ⟨os, hos, hcs⟩
  unfold getItem
  try with_reducible refine wpAny_holding ?_
  first | refine wpAny_bind (wpAny_pure ?_) | skip
  refine wpAny_bind (wpAny_sequenceKey ht.typeIs (by decide) ?_)
  refine wpAny_bind (wpAny_callSpecial?_slot (name := Str.ofString "__getitem__") ht.typeIs PyProof.Rows.slot_tuple_getitem
    (wpAny_call_entry PyProof.Rows.slot_tuple_getitem ht.typeIs entry_tuple_getitem ?_ (args_tuple_getitem _ _)))
  show wpAny _ _ (Builtin.Tuple.tupleItemsOf (.ref t) >>= _) _ _ s
  refine wpAny_bind (tupleItemsOf_ ht ?_)
  refine wpAny_bind (wpAny_typeOf hTs ?_)
  rw [if_pos (by decide)]
  refine wpAny_bind (sliceApplied_rev hs pl pu ps ?_)
  have hno : ¬ ((((items.size : Int) - 1) == 0 && (-1 : Int) == 1 && items.size == items.size) = true) := by
    rw [show ((-1 : Int) == 1) = false from rfl, Bool.and_false, Bool.false_and]
    decide
  show wpAny _ _ (if (((items.size : Int) - 1) == 0 && (-1 : Int) == 1 && items.size == items.size) = true then _ else _) _ _ s
  rw [if_neg hno, pick_rev]
  first
    | exact wpAny_bind (m := Builtin.Tuple.tupleExact _) (wpAny_newObj_type (wpAny_pure ⟨_, rfl, wpAny_pure h⟩) htake)
    | exact wpAny_bind (m := Builtin.Tuple.tupleExact _) (wpAny_newObj_type (wpAny_bind (wpAny_pure (wpAny_pure ⟨_, rfl, wpAny_pure h⟩))) htake)
    | exact wpAny_bind (wpAny_bind (m := Builtin.Tuple.tupleExact _) (wpAny_newObj_type (wpAny_pure (wpAny_pure ⟨_, rfl, wpAny_pure h⟩)) htake))
    | exact wpAny_bind (wpAny_bind (m := Builtin.Tuple.tupleExact _) (wpAny_newObj_type (wpAny_pure ⟨_, rfl, wpAny_pure h⟩) htake))
end
def tRevT (K : PySem.W.Frag) (te : TE) : TE := fun σ H Q => te σ H fun x H1 => ∃ a xs, x = .ref a ∧ SqT K H1 a xs ∧ ∀ p, H1 p = none → Q (.ref p) (upd H1 p (.tup xs.reverse))
theorem pe_revT {X : Cx} {e : Expr} {te : TE} {k : Nat} {p1 p2 p3 pos : Pos} (he : PE X e te) : PE X (.Subscript e (.Slice none none (some (.UnaryOp .USub (.Constant (.int 1) k p1) p2)) p3) pos) (tRevT X.K te) := by
  refine ⟨fun pins s σ H Q I h => ?_⟩
  refine Subscript_ (thn (he.run pins s σ H _ I h) fun v s1 ⟨x, H1, I1, r1, q1⟩ => ?_)
  obtain ⟨a, xs, ex, hx, q⟩ := q1
  subst ex
  cases r1
  have hst : PO X (some (.UnaryOp .USub (.Constant (.int 1) k p1) p2)) (tPart (tUn (rU fun i => .int (-i)) (tC (.int 1)))) := po_some (pe_un un_neg pe_int)
  refine wpAny_Slice (thn (po_none.run pins s1 σ H1 (fun o H2 => o = none ∧ H2 = H1) I1 ⟨rfl, rfl⟩) fun vl s2 ⟨l, H2, I2, pl, el, e2⟩ => ?_)
  subst el e2
  refine thn (po_none.run pins s2 σ H2 (fun o H3 => o = none ∧ H3 = H2) I2 ⟨rfl, rfl⟩) fun vu s3 ⟨u, H3, I3, pu, eu, e3⟩ => ?_
  subst eu e3
  refine thn (hst.run pins s3 σ H3 (fun o H4 => o = some (-1) ∧ H4 = H3) I3 ⟨1, rfl, -1, rfl, rfl, rfl⟩) fun vs s4 ⟨o, H4, I4, ps, eo, e4⟩ => ?_
  subst eo e4
  have I5 : Inv X pins σ H4 { s4 with heap := s4.heap.push { cls := .type "slice", data := .fields #[vl, vu, vs] } } := I4.kept (t' := s4.toks) fun b ob q => Heap.get?_push_of_some _ q
  obtain ⟨its, r, ht, hz⟩ := I5.tuple hx
  have hlen := r.length
  show wpAny (model X.prog X.w) X.A (subscriptTail e (.Slice none none (some (.UnaryOp .USub (.Constant (.int 1) k p1) p2)) p3) (.ref a) (.ref s4.heap.objs.size)) (EP X pins σ Q) X.xe { s4 with heap := s4.heap.push { cls := .type "slice", data := .fields #[vl, vu, vs] } }
  refine tail_any (ops := [.ref a, .ref s4.heap.objs.size]) ht.typeIs PyProof.Rows.slot_tuple_getitem.lookup ?_ (by with_unfolding_all rfl)
  refine getItem_tuple_rev ht (Heap.IsSliceOf.new _ vl vu vs) pl pu ps ?_ (by rw [List.size_toArray]; omega)
  refine ⟨.ref _, _, I5.laid (t' := s4.toks) (o := .tup xs.reverse) (fun b ob q => Heap.get?_push_of_some _ q) (Nat.le_refl _) ?_, rfl, q _ (I5.hok.fresh (Nat.le_refl _))⟩
  exact ⟨by rw [List.length_reverse]; exact hz, _, r.reverse, ⟨_, Heap.get?_push_size _ rfl, rfl, _, rfl⟩⟩
end ZM
namespace R
open PySem L2 Evl
def fRevT : DF1
  | .d (.tup ds), M, Q => Q (.d (.tup ds.reverse)) M
  | _, _, _ => False
theorem okE_revT {K : PySem.W.Frag} {E : XK} {te : TE} {we : DW} (he : OkE K E te we) : OkE K E (ZM.tRevT K te) (wUn fRevT we) := by
  intro u G H as M env σ Q Qv c h fin
  refine he u G H as M env σ _ _ c h fun x G1 H1 as1 M1 sx sr1 l1 rx q1 => ?_
  unfold fRevT at q1
  split at q1
  · rename_i ds
    obtain ⟨p, xs, rfl, hp, hxs⟩ := rep_tup.mp rx.d
    exact ⟨p, xs, rfl, SqT.of (sr1.gh _ _ hp), fun l hl => (fin.from l1).tup sr1 hxs.reverse q1 hl⟩
  · exact q1.elim
theorem d_revT {X : Cx} {E : XK} {e : Expr} {we : DW} {pos : Pos} {k : Nat} {p1 p2 p3 : Pos} (he : DE X E e we) : DE X E (.Subscript e (.Slice none none (some (.UnaryOp .USub (.Constant (.int 1) k p1) p2)) p3) pos) (wUn fRevT we) := .mk' (ZM.pe_revT he.pe) (okE_revT okW)
end R
/-! Layer R, part 32: a for over a generator whose body puts each item behind a list; raw steps. -/
namespace GZ
open PySem PySem.Spec PyProof.Rows L2 GenW
section
variable {X : Cx} {pins : List (Addr × Obj)} {σ : L2.St} {H : Hp} {s : Shared}
/-- nothing changed but the table of generators and the tokens -/
theorem inv_gens {g' : Array GenState} {t' : Nat} (I : Inv X pins σ H s) (hb : AllBare g') : Inv X pins σ H { s with gens := g', toks := t' } :=
  ⟨I.ok, I.os, hb, I.base, I.loc, I.cell, I.free, I.freeC, I.pin, I.hok, I.len⟩
/-- a local name is stored: the state behind it is told -/
theorem sto_raw {M : Model} {A : Around} {E : Value → Shared → Prop} {i : Nat} {x : Str} {v : V} {u : Value} {Q : Unit → Shared → Prop} (I : Inv X pins σ H s) (hN : X.N.Nodup) (hi : X.N[i]? = some x) (hk : X.env.scope.names.lookup x = some .local) (r : RelV v u)
    (h : ∀ h' t', Inv X pins (σ.set i (some v)) H { s with heap := h', toks := t' } → (∀ b o, b ≠ X.env.locals → s.heap.get? b = some o → h'.get? b = some o) → Q () { s with heap := h', toks := t' }) : wpAny M A (storeName X.env x u) Q E s := by
  obtain ⟨m, hn, hl⟩ := id I.loc
  have young : ∀ b o, X.s_0.heap.get? b = some o → b ≠ X.env.locals := fun b o e => Nat.ne_of_lt (Nat.lt_of_lt_of_le (Heap.lt_size e) I.ok.above)
  refine wpAny_storeName_local hk hn (fun h' hn' hs => ?_) (by rw [I.ok.kind]; rfl)
  have kp : ∀ b o, b ≠ X.env.locals → s.heap.get? b = some o → h'.get? b = some o := fun b o hb e => (hs.2 b hb).trans e
  have hiσ : i < σ.length := by
    rw [I.len]
    exact (List.getElem?_eq_some_iff.mp hi).1
  have new : ∀ (j : Nat) (y : Str) (v' : V), X.N[j]? = some y → (σ.set i (some v))[j]? = some (some v') → Vis X.env.scope y → ∃ u', RelV v' u' ∧ Look X.env h' (fun z => if z = x then some u else m z) y u' := by
    intro j y v' e1 e2 e3
    by_cases hj : j = i
    · rw [hj] at e1 e2
      rw [hi] at e1
      rw [List.getElem?_set_self hiσ] at e2
      cases e1
      cases e2
      exact ⟨u, r, .inl ⟨hk, by simp⟩⟩
    · rw [List.getElem?_set_ne (Ne.symm hj)] at e2
      obtain ⟨u', r', q⟩ := hl j y v' e1 e2 e3
      refine ⟨u', r', q.elim (fun ⟨k, e⟩ => .inl ⟨k, ?_⟩) fun ⟨k, c, e, z⟩ => .inr ⟨k, c, e, z.sameBut hs (I.cne y c e)⟩⟩
      have ne : y ≠ x := fun e => hj (nodup_ix hN e1 (e ▸ hi))
      simp [ne, e]
  have un : Un X.fs X.ex X.H_0 H X.s_0.heap h' := by
    refine ⟨fun b o e n hb hx => kp b o (young b o e) (I.base.keep b o e n hb hx), fun b o e n hb hx => ?_, I.base.free, fun b o e hx => ?_, I.base.tups, I.base.frzs, I.base.tbls⟩
    · obtain ⟨sl, q⟩ := I.base.slot b o e n hb hx
      exact ⟨sl, kp b _ (young b o e) q⟩
    · obtain ⟨o', q⟩ := I.base.there b o e hx
      exact ⟨o', kp b _ (young b o e) q⟩
  have hok : HOk X.prog X.w H h' := fun b ob e => by
    refine (I.hok b ob e).stay (fun c w' hc q => kp c w' (fun z => ?_) q) (fun _ q => q) fun _ _ q => q
    rw [z] at hc
    rcases hc with hc | hc
    · rw [← hc, I.free] at e
      cases e
    · rw [I.free] at hc
      cases hc
  exact h h' _ ⟨I.ok, I.os, I.bare, un, ⟨_, hn', new⟩, fun y c e => let ⟨w', z⟩ := I.cell y c e; ⟨w', z.sameBut hs (I.cne y c e)⟩, I.free, I.freeC,
    fun p hp => let ⟨e, n, ne, nf, d⟩ := I.pin p hp; ⟨kp p.1 p.2 ne e, n, ne, nf, d⟩, hok, by simpa using I.len⟩ kp
/-- a name is read: the state stays -/
theorem var_raw {E : Value → Shared → Prop} {Q : Value → Shared → Prop} {i : Nat} {x : Str} {v : V} {pos : Pos} (I : Inv X pins σ H s) (hN : X.N[i]? = some x) (hv : Vis X.env.scope x) (e : σ[i]? = some (some v)) (h : ∀ u, RelV v u → Q u s)
    (hd : (x == ("__debug__" : Str)) = false := by decide) (hcd : (x == ("__classdict__" : Str)) = false := by decide) : wpAny (model X.prog X.w) X.A (eval (.Name x pos) X.env) Q E s := by
  obtain ⟨m, hn, hl⟩ := I.loc
  obtain ⟨u, r, l⟩ := hl i x v hN e hv
  rcases l with ⟨hk, hm⟩ | ⟨hk | hk, c, hc, hcell⟩
  · exact wpAny_Name (wpAny_loadName_local I.ok.kind hk hn hm (h u r)) hd
  · exact wpAny_Name (wpAny_loadName_cell I.ok.kind hk hc hcell (h u r)) hd
  · exact wpAny_Name (wpAny_loadName_free I.ok.kind hk hc hcell (h u r) hcd) hd
/-- seen.append(row) -/
theorem app_raw {E : Value → Shared → Prop} {Q : Flow → Shared → Prop} {i j : Nat} {x y : Str} {S : Addr} {ys : List V} {v : V} {p1 p2 p3 p4 p5 : Pos} (I : Inv X pins σ H s) (hNi : X.N[i]? = some x) (hvi : Vis X.env.scope x) (hNj : X.N[j]? = some y) (hvj : Vis X.env.scope y)
    (ei : σ[i]? = some (some v)) (ej : σ[j]? = some (some (.ref S))) (hS : H S = some (.lst ys)) (hz : ys.length < sizeLine)
    (h : ∀ h' t', Inv X pins σ (upd H S (.lst (ys ++ [v]))) { s with heap := h', toks := t' } → (∀ b o, b ≠ S → s.heap.get? b = some o → h'.get? b = some o) → Q .next { s with heap := h', toks := t' })
    (hdi : (x == ("__debug__" : Str)) = false := by decide) (hci : (x == ("__classdict__" : Str)) = false := by decide) (hdj : (y == ("__debug__" : Str)) = false := by decide) (hcj : (y == ("__classdict__" : Str)) = false := by decide)
    (hbase : attributeBase (.Name y p1) "append" X.env (eval (.Name y p1) X.env) = eval (.Name y p1) X.env := by rfl)
    (hfew : ((backTo p4 (starEach [.Name x p3] X.env)).all (fun x => !x.1) && (backToKw p4 (keywordEach [] X.env)).all (fun x => x.1.isSome)
      && decide (([.Name x p3] : List Expr).length + ([] : List Keyword).length + (if ([] : List Keyword).isEmpty then 0 else 1) < 30)) = true := by rfl)
    (hline : (p2.endLine == p4.line) = true := by rfl) (hs : starEach [.Name x p3] X.env = (false, eval (.Name x p3) X.env) :: starEach [] X.env := by rfl) (hplain : (backTo p4 (starEach [] X.env)).any (·.1) = false := by rfl)
    (hsw : swapsWith (.Call (.Attribute (.Name y p1) "append" p2) [.Name x p3] [] p4) none p5.line X.env = pure false := by rfl) :
    wpAny (model X.prog X.w) X.A (execs [.Expr (.Call (.Attribute (.Name y p1) "append" p2) [.Name x p3] [] p4) p5] X.env) Q E s := by
  refine wpAny_execs_cons (wpAny_Expr_any ?_ I.quiet hsw)
  refine wpAny_Call_method_late hbase hfew hline rfl (var_raw I hNj hvj ej (fun u ru => ?_) hdj hcj)
  obtain rfl : u = Value.ref S := ru
  obtain ⟨_, its, n, r, hl, e⟩ := I.lstM hS
  refine ⟨"list", "list.append", PySem.F.plainAttrs_list, PySem.F.slot_list_append, PySem.F.type_list_append, ⟨_, e, rfl⟩, fun a q => (by cases q; exact ⟨_, e, rfl⟩), ?_⟩
  rw [hs]
  refine Calls.callWith_builtin (by show (false || (backTo p4 (starEach [] X.env)).any (·.1)) = false; rw [hplain] <;> rfl) (Calls.evalArgs_plain (Calls.spliced_cons (var_raw I hNi hvi ei (fun u ru => Calls.spliced_nil ?_) hdi hci)))
  refine call_meets F.slot_list_append ⟨_, e, rfl⟩ F.entry_list_append (F.args_list_append_2 _ _) (PySem.list_append S its.toArray n u (by rw [List.size_toArray]; omega)) ⟨e, ?_⟩
  refine wpAny_execs_nil (h _ _ (I.lset (its' := its ++ [u]) hS e (by simp) (r.append (.cons ru .nil)) (by rw [List.length_append, List.length_singleton]; omega)) fun b o hb q => ?_)
  exact (Heap.get?_update_other _ _ (Ne.symm hb)).trans q
end
end GZ
/-! Layer R, part 33: the turns of «yield from» over a list, told by the consumer's own state. -/
namespace GZ
open PySem PySem.Spec PyProof.Rows L2 GenW
section
variable {prog : Program} {w : World} {A : Around} {E : Value → Shared → Prop} {s : Shared} {it p : Addr} {i : Nat} {its : Array Value}
theorem lst_item {x : Value} {Q : Option Value → Shared → Prop} (hit : s.heap.IsListIter it p i) (hp : s.heap.IsList p its) (hx : its[i]? = some x)
    (hQ : ∀ h', h'.IsListIter it p (i + 1) → Heap.SameBut it s.heap h' → Q (some x) { s with heap := h' }) : wpAny (model prog w) A (callSpecial? (.ref it) "__next__") Q E s := by
  obtain ⟨oi, e1, c1, d1⟩ := id hit
  obtain ⟨ol, e2, _, n2, d2⟩ := hp
  refine wpAny_callSpecial?_slot (name := Str.ofString "__next__") hit.typeIs slot_listiter_next (wpAny_call_entry slot_listiter_next hit.typeIs entry_listiter_next ?_ (args_listiter_next _))
  show wpAny _ _ (field (.ref it) 0 >>= _) _ _ s
  refine wpAny_bind (wpAny_field e1 d1 (x := .ref p) rfl ?_)
  show wpAny _ _ (if (Value.ref p == Value.none) = true then _ else _) _ _ s
  rw [if_neg (show ¬ ((Value.ref p == Value.none) = true) from Bool.false_ne_true)]
  show wpAny _ _ (field (.ref it) 1 >>= _) _ _ s
  refine wpAny_bind (wpAny_field e1 d1 (x := .int i 0) rfl ?_)
  show wpAny _ _ (seqItems? (.ref p) >>= _) _ _ s
  refine wpAny_bind (wpAny_seqItems e2 d2 ?_)
  simp only [Int.toNat_natCast, hx]
  refine wpAny_bind (wpAny_setField e1 d1 (by simp) (wpAny_pure ⟨x, rfl, hQ _ ?_ (Heap.SameBut.update ..)⟩))
  exact ⟨_, Heap.get?_update_self _ e1 (Obj.isFreed_of_fields (Obj.data_mapFields d1 _)), (Obj.cls_mapFields ..).trans c1, by rw [Obj.data_mapFields d1]; simp [rawInt]⟩
theorem lst_end {Q : Option Value → Shared → Prop} (hh : A.handled = none) (hit : s.heap.IsListIter it p i) (hp : s.heap.IsList p its) (hx : its[i]? = none)
    (hE : ∀ e h', StopX e h' → Heap.ExtBut it s.heap h' → E e { s with heap := h' }) : wpAny (model prog w) A (callSpecial? (.ref it) "__next__") Q E s := by
  obtain ⟨oi, e1, c1, d1⟩ := id hit
  obtain ⟨ol, e2, _, n2, d2⟩ := hp
  refine wpAny_callSpecial?_slot (name := Str.ofString "__next__") hit.typeIs slot_listiter_next (wpAny_call_entry slot_listiter_next hit.typeIs entry_listiter_next ?_ (args_listiter_next _))
  show wpAny _ _ (field (.ref it) 0 >>= _) _ _ s
  refine wpAny_bind (wpAny_field e1 d1 (x := .ref p) rfl ?_)
  show wpAny _ _ (if (Value.ref p == Value.none) = true then _ else _) _ _ s
  rw [if_neg (show ¬ ((Value.ref p == Value.none) = true) from Bool.false_ne_true)]
  show wpAny _ _ (field (.ref it) 1 >>= _) _ _ s
  refine wpAny_bind (wpAny_field e1 d1 (x := .int i 0) rfl ?_)
  show wpAny _ _ (seqItems? (.ref p) >>= _) _ _ s
  refine wpAny_bind (wpAny_seqItems e2 d2 ?_)
  simp only [Int.toNat_natCast, hx]
  refine wpAny_bind (wpAny_rule (wpAny_bind (wpAny_setField e1 d1 (by simp) ?_)))
  show wpAny _ _ (newExc (.type "StopIteration") [] >>= _) _ _ _
  refine wpAny_bind ?_
  simp only [newExc, newTuple]
  refine wpAny_bind (wpAny_newObj_type ?_ (by size_fits))
  refine wpAny_bind (m := firstArgMember _ _) (wpAny_of_eq (a := Value.none) (by first | rfl | (simp only [firstArgMember]; rfl)) ?_)
  refine wpAny_newObj_type ?_ (by size_fits)
  simp only [raiseNew]
  refine wpAny_bind (wpAny_handled ?_)
  first | rw [show A.in1.handled = none from hh] | rw [hh]
  refine wpAny_bind (wpAny_pure (wpAny_throw ?_))
  refine hE _ _ ⟨_, _, _, rfl, Heap.get?_push_size _ rfl, rfl, rfl, ?_⟩ (((Heap.SameBut.update ..).extBut.push _).push _)
  first
    | rfl
    | (rw [Array.getElem?_append_left (by decide)]; rfl)
    | kernel_rfl
end
theorem close_lst : typeLookup (.type "list_iterator") "close" = pure none := by rw [typeLookup_type, builtinLookup_eq_fast]; kernel_rfl
/-- the consumer between two items: what it wants of its state is told by P; the generator sleeps ahead of the i-th of xs -/
structure LI (X : Cx) (pins : List (Addr × Obj)) (a : Addr) (g : Nat) (it p : Addr) (xs : List V) (i : Nat) (σ : L2.St) (H : Hp) (s : Shared) : Prop where
  inv : Inv X pins σ H s
  hp : H p = some (.lst xs)
  ok : FpOk X pins H it
  li : s.heap.IsListIter it p i
  oka : FpOk X pins H a
  ga : s.heap.IsGen a g
  ne : it ≠ a
abbrev YP := Addr → List V → Nat → L2.St → Hp → Prop
def YM (X : Cx) (pins : List (Addr × Obj)) (a : Addr) (g : Nat) (P : YP) : Protocol := fun n s₀ v s₁ kap =>
  ∃ it p xs i σ H x, n + 1 + i = sizeLine ∧ xs[i]? = some x ∧ RelV x v ∧ P p xs i σ H ∧ LI X pins a g it p xs (i + 1) σ H s₁ ∧ ∀ s', (∃ σ' H', P p xs (i + 1) σ' H' ∧ LI X pins a g it p xs (i + 1) σ' H' s') → kap (.send .none) s'
def FM (X : Cx) (pins : List (Addr × Obj)) (P : YP) : Nat → Shared → Shared → Prop := fun n s₀ s₁ => ∃ p xs σ H, P p xs xs.length σ H ∧ Inv X pins σ H s₁
def RM (X : Cx) (pins : List (Addr × Obj)) (P : YP) : GenEnd := fun n s₀ r s₁ => ((r = .ok (.ret .none) ∨ r = .ok .next) ∧ FM X pins P n s₀ s₁) ∨ ∃ e, r = .error e ∧ False
section
variable {X : Cx} {pins : List (Addr × Obj)} {a : Addr} {g : Nat} {P : YP} {it p : Addr} {xs : List V}
theorem LI.turned {i j : Nat} {σ : L2.St} {H : Hp} {s : Shared} {h' : Heap} {tk : Nat} (q : LI X pins a g it p xs i σ H s) (li : h'.IsListIter it p j) (k : ∀ b o, b ≠ it → s.heap.get? b = some o → h'.get? b = some o) : LI X pins a g it p xs j σ H { s with heap := h', toks := tk } := by
  obtain ⟨f0, f1, f2, f3, f4, f5⟩ := q.ok
  exact ⟨q.inv.turned k f0 f1 f3 f4 f5, q.hp, q.ok, li, q.oka, (let ⟨o, nm, qn, ho, r⟩ := q.ga; ⟨o, nm, qn, k a o (Ne.symm q.ne) ho, r⟩), q.ne⟩
theorem seg_turns {A : Around} {fs : List Frame} (hsp : splitAtGen fs = none) (hgd : fs.any Frame.guarded = false) (ho : (A.over (.builtin "proto.yield_from" ⟨[.ref it, .bool false, .none], []⟩) fs).handled = none)
    (hend : ∀ (n : Nat) (s₀ s : Shared), (∃ σ H, P p xs xs.length σ H ∧ Inv X pins σ H s) → Seg (model X.prog X.w) A (RM X pins P) (YM X pins a g P) n s₀ (.builtin "proto.yield_from" ⟨[.ref it, .bool false, .none], []⟩) (.pure (.done (.ret .none))) fs s) :
    ∀ (r j n : Nat) (s₀ s : Shared), j + r = xs.length → n + j = sizeLine → (∃ σ H, P p xs j σ H ∧ LI X pins a g it p xs j σ H s) →
      Seg (model X.prog X.w) A (RM X pins P) (YM X pins a g P) n s₀ (.builtin "proto.yield_from" ⟨[.ref it, .bool false, .none], []⟩) ((model X.prog X.w).den (.builtin "proto.yield_from" ⟨[.ref it, .bool false, .none], []⟩)) fs s := by
  intro r
  induction r with
  | zero =>
    rintro j n s₀ s hj hn ⟨σ, H, hP, q⟩
    have hj' : j = xs.length := by omega
    subst hj'
    obtain ⟨its, rv, pl, hz⟩ := q.inv.lstM q.hp |>.2 |> fun ⟨its, n, r, hl, e⟩ => (⟨its, r, (⟨_, e, rfl, n, rfl⟩ : s.heap.IsList p its.toArray), hl⟩ : ∃ its : List Value, Vals xs its ∧ s.heap.IsList p its.toArray ∧ xs.length = its.length)
    have hnone : its.toArray[xs.length]? = none := by simp [hz]
    rw [den_yf]
    unfold Builtin.«proto.yield_from»
    try dsimp only
    refine seg_bind (wpAny_pure ?_)
    try dsimp only
    refine seg_bind (wpAny_attempt (wpAny_holding ?_))
    rw [if_neg Bool.false_ne_true, if_pos (show (Value.none == Value.none) = true from rfl)]
    refine wpAny_bind (wpAny_rule (wpAny_bind ?_))
    refine lst_end ho q.li pl hnone fun e h' hS hk => ?_
    obtain ⟨f0, f1, f2, f3, f4, f5⟩ := q.ok
    have J : Inv X pins σ H { s with heap := h' } := q.inv.turned (t' := s.toks) (fun b o hb e => hk b o hb e) f0 f1 f3 f4 f5
    obtain ⟨b, o, vs, rfl, hoa, hcls, hdat, h5⟩ := hS
    try dsimp only
    refine seg_bind (wpAny_endsTurn hoa hcls ?_)
    try dsimp only
    rw [if_pos rfl]
    first
      | refine seg_bind (wpAny_rule ?_)
      | (rw [if_neg Bool.false_ne_true]; refine seg_bind (wpAny_rule ?_))
      | (rw [if_neg Bool.false_ne_true]; refine seg_bind (wpAny_pure ?_); refine seg_bind (wpAny_rule ?_))
    refine seg_bind (wpAny_field hoa hdat h5 ?_)
    exact hend n s₀ _ ⟨σ, H, hP, J⟩
  | succ r ih =>
    rintro j n s₀ s hj hn ⟨σ, H, hP, q⟩
    have hjl : j < xs.length := by omega
    obtain ⟨x, hx⟩ : ∃ x, xs[j]? = some x := ⟨xs[j], List.getElem?_eq_getElem hjl⟩
    obtain ⟨hz2, its, nl, rvs, hz, el⟩ := q.inv.lstM q.hp
    have pl : s.heap.IsList p its.toArray := ⟨_, el, rfl, nl, rfl⟩
    obtain ⟨n, rfl⟩ : ∃ m, n = m + 1 := ⟨n - 1, by omega⟩
    obtain ⟨u, hu, ru⟩ := rvs.get hx
    rw [den_yf]
    unfold Builtin.«proto.yield_from»
    try dsimp only
    refine seg_bind (wpAny_pure ?_)
    try dsimp only
    refine seg_bind (wpAny_attempt (wpAny_holding ?_))
    rw [if_neg Bool.false_ne_true, if_pos (show (Value.none == Value.none) = true from rfl)]
    refine wpAny_bind (wpAny_rule (wpAny_bind ?_))
    refine lst_item q.li pl (x := u) (by simpa using hu) fun h' li' hs => ?_
    have q' := q.turned (tk := s.toks) li' fun b o hb e => hs.extBut b o hb e
    have hoi := li'.typeIs (s := { s with heap := h' })
    refine wpAny_pure ?_
    try dsimp only
    refine seg_bind (wpAny_typeOf (T := "list_iterator") hoi ?_)
    try dsimp only
    first
      | (refine seg_bind (wpAny_of_eq close_lst ?_); refine seg_bind (wpAny_pure ?_))
      | refine seg_bind (wpAny_bind (wpAny_of_eq close_lst (wpAny_pure ?_)))
      | refine seg_bind (wpAny_of_eq close_lst ?_)
    try dsimp only
    obtain ⟨oi, ei, ci, di⟩ := id li'
    refine seg_bind (wpAny_sleptOver ei ci (by decide) ?_)
    refine seg_yield hsp rfl hgd ?_
    refine ⟨it, p, xs, j, σ, H, x, by omega, hx, ru, hP, q', fun s'' ⟨σ2, H2, hP2, q2⟩ => ?_⟩
    obtain ⟨oj, ej, cj, dj⟩ := id q2.li
    show Seg _ _ _ _ n s'' _ (Builtin.Generator.sleptOver (.ref it) false >>= fun _ => _) fs s''
    refine seg_bind (wpAny_sleptOver ej cj (by decide) ?_)
    try dsimp only
    refine seg_bind (wpAny_pure ?_)
    exact seg_again (plainId_quiet plain_yf _) (ih (j + 1) n s'' s'' (by omega) (by omega) ⟨σ2, H2, hP2, q2⟩)
end
end GZ
/-! Layer R, part 34: a generator def «a; b; yield from e» (e: a new list): its call; a for over it. -/
namespace GZ
open PySem PySem.Spec PyProof.Rows L2 GenW
abbrev SpM := List V → Hp → (List V → Hp → Prop) → Prop
/-- a generator that has not begun: it goes for every consumer -/
def Made (P : Program) (w : World) (k : Nat) (outer : List Env) (H : Hp) (s : Shared) (cont : List V → Hp → Prop) (u : Value) (s' : Shared) : Prop :=
  ∃ (a : Addr) (g : Nat) (c : Code), u = .ref a ∧ s.heap.objs.size ≤ a ∧ s'.heap.IsGen a g ∧ s'.gens[g]? = some (.fresh c) ∧ s'.os = s.os ∧ AllBare s'.gens ∧ s'.heap.NoLimit ∧ (∀ b o, s.heap.get? b = some o → s'.heap.get? b = some o) ∧ H a = none ∧
    ∀ (X : Cx) (pins : List (Addr × Obj)) (σ : L2.St) (Pq : YP), X.prog = P → X.w = w → X.stack = outer → Inv X pins σ H s → Room (k + 1) X.A.in1 → (∀ p xs H', H p = none → cont xs H' → Pq p xs 0 σ H') →
      Seg (model P w) X.A.in1 (RM X pins Pq) (YM X pins a g Pq) sizeLine (s'.setGen g .running) c ((model P w).den c) [] (s'.setGen g .running)
structure GenR (P : Program) (w : World) (K : PySem.W.Frag) (mg : Str → Option Value) (base : Heap) (k : Nat) (f : Addr) (sp : SpM) : Prop where
  run : ∀ (X : Cx) (pins : List (Addr × Obj)) (s : Shared) (σ : L2.St) (H : Hp) (us : List Value) (vs : List V) (cont : List V → Hp → Prop) (E : Value → Shared → Prop), X.prog = P → X.w = w → X.K = K → X.mg = mg → X.base = base → Room (k + 2) X.A → Inv X pins σ H s → Vals vs us → sp vs H cont →
    wpAny (model P w) X.A (call (.ref f) us) (fun u s' => Made P w k X.stack H s cont u s') E s
section
variable {P : Program} {w : World} {K : PySem.W.Frag} {mg : Str → Option Value} {base : Heap}
theorem gen_of {k : Nat} {f : Addr} {name qual : Str} {params : Arguments} {scope : Scope} {dV kV doc pm cdv ct oc : Value} {an od : Option Addr} {osl : Array (Option Value)} {N ps : List Str} {sp : SpM} {st1 st2 : Stmt} {e : Expr} {yp pos : Pos}
    (lk : K.lookup f = some ⟨oc, od, .func (PySem.W.fnOf name qual params [st1, st2, .Expr (.YieldFrom e yp) pos] scope dV kV doc pm an cdv ct), osl⟩) (hcd : PySem.W.codeIn K cdv qual = true) (S : GScope N ps scope)
    (hb : Binds K (PySem.W.fnOf name qual params [st1, st2, .Expr (.YieldFrom e yp) pos] scope dV kV doc pm an cdv ct) ps []) (len : ∀ vs H c, sp vs H c → vs.length = ps.length)
    (hd : ∀ (A : Around) (outer : List Env) (s : Shared) (H : Hp) (pn : List (Addr × Obj)), Room k (A.deeper (envOfC qual scope s.heap.objs.size f cdv)) →
      ∃ t1 t2 te, PS (gcxOf P w K mg base N qual scope f cdv A outer s H (fun _ _ _ => False) pn).nox st1 t1 ∧ PS (gcxOf P w K mg base N qual scope f cdv A outer s H (fun _ _ _ => False) pn).nox st2 t2 ∧ PE (gcxOf P w K mg base N qual scope f cdv A outer s H (fun _ _ _ => False) pn).nox e te ∧
        ∀ vs cont, sp vs H cont → t1 { nx := fun σ1 H1 => t2 { nx := fun σ2 H2 => te σ2 H2 fun v H3 => ∃ p xs, v = .ref p ∧ H3 p = some (.lst xs) ∧ H p = none ∧ cont xs H3, rt := fun _ _ => False } σ1 H1, rt := fun _ _ => False } (L2.start N vs) H) :
    GenR P w K mg base k f sp := by
  refine ⟨fun X pins s σ H us vs cont E hP hw hK hm hbs hr I r hsp => ?_⟩
  subst hP hw hK hm hbs
  have hl := len _ _ _ hsp
  have e0 := I.env0
  have KX : X.K.In s.heap := I.kIn
  have lim : s.heap.NoLimit := I.nolimit
  have hkind : ∀ y ∈ ps.zip us, scope.names.lookup y.1 = some .local ∨ (scope.names.lookup y.1 = some .cell ∧ ((cellsFrom (s.heap.objs.size + 1) scope.names []).lookup y.1).isSome = true) := fun ⟨n, v⟩ hy => by
    rcases S.par n (List.of_mem_zip hy).1 with q | q
    · exact .inl q
    · exact .inr ⟨q, PySem.W.cellsFrom_some _ _ _ (.inl q)⟩
  have hb2 := hb s us KX (by rw [List.append_nil, ← r.length]; exact hl)
  rw [List.append_nil] at hb2
  refine wpAny_call (codeAny_call_generator hr.depth (KX _ _ lk) rfl S.co S.gen rfl (PySem.W.codeRec_of KX hcd) (hb2 _ _ _ _ ?_))
  refine wpAny_newFunctionEnv_cells S.kind hkind fun env he s1 x => ?_
  subst he
  have lim1 : s1.heap.NoLimit := lim.keeps x.toInCall.keep
  refine ⟨lim1, ?_⟩
  obtain ⟨h1, tk, es1, hk1⟩ := x.done
  have os1 : s1.os = s.os := by rw [es1]
  have gen1 : s1.gens = s.gens := by rw [es1]
  have lt1 : s.heap.objs.size < s1.heap.objs.size := x.toInCall.ns.lt
  have sz1 : s.heap.objs.size ≤ s1.heap.objs.size := Nat.le_of_lt lt1
  have kp1 : ∀ b o, s.heap.get? b = some o → s1.heap.get? b = some o := x.toInCall.keep
  have main : ∀ (go : Obj) (nm qn : Value) (tk2 : Nat), go.cls = .type "generator" → go.data = .fields #[.int s1.gens.size 0, nm, qn] → go.slots = #[] → (∀ h : Heap, (h.push go).get? h.objs.size = some go) →
      Made X.prog X.w k X.stack H s cont (.ref s1.heap.objs.size) { s1 with gens := s1.gens.push (.fresh (.func [st1, st2, .Expr (.YieldFrom e yp) pos] (envOfC qual scope s.heap.objs.size f cdv))), toks := tk2, heap := s1.heap.push go } := by
    intro go nm qn tk2 hgc hgd0 hgs hgp
    have hgen : ∀ h : Heap, h.get? s1.heap.objs.size = some go → h.IsGen s1.heap.objs.size s1.gens.size := fun h e => ⟨go, nm, qn, e, hgc, hgd0, hgs⟩
    have hpushed : (s1.heap.push go).get? s1.heap.objs.size = some go := hgp _
    have bare2 : AllBare (s1.gens.push (.fresh (.func [st1, st2, .Expr (.YieldFrom e yp) pos] (envOfC qual scope s.heap.objs.size f cdv)))) := AllBare.push (by rw [gen1]; exact e0.bare) rfl
    refine ⟨s1.heap.objs.size, s1.gens.size, _, rfl, sz1, hgen _ hpushed, Array.getElem?_push_size .., os1, bare2, lim1.keeps fun b o e => Heap.get?_push_of_some _ e, fun b o e => Heap.get?_push_of_some _ (kp1 b o e), I.hok.fresh sz1, ?_⟩
    intro X2 pins2 σ2 Pq hP hw hst J hrw hPq
    have gd : ∀ v, go.data ≠ .cell v := fun v q => by rw [hgd0] at q; cases q
    -- the state that it is woken in
    generalize hs2 : ({ s1 with gens := s1.gens.push (.fresh (.func [st1, st2, .Expr (.YieldFrom e yp) pos] (envOfC qual scope s.heap.objs.size f cdv))), toks := tk2, heap := s1.heap.push go } : Shared).setGen s1.gens.size .running = s2
    have h2 : s2.heap = s1.heap.push go := by rw [← hs2]; rfl
    have o2 : s2.os = s1.os := by rw [← hs2]; rfl
    have b2 : AllBare s2.gens := by rw [← hs2]; exact allBare_setGen bare2 rfl
    have kp2 : ∀ b o, s1.heap.get? b = some o → s2.heap.get? b = some o := fun b o e => by rw [h2]; exact Heap.get?_push_of_some _ e
    have e0w : Env0 X.prog X.w X.K X.mg X.base X2.A.in1 X.stack s H := ⟨by rw [← hst]; exact J.ok.frames, e0.mod, e0.bs, e0.bsz, e0.funs, e0.frf, e0.hok, e0.bare⟩
    have I1 : Inv (gcxOf X.prog X.w X.K X.mg X.base N qual scope f cdv X2.A.in1 X.stack s H (fun _ _ _ => False) []) [] (L2.start N vs) H s1 := inv_startG S hrw.hd e0w hl r x
    have I2 : Inv (gcxOf X.prog X.w X.K X.mg X.base N qual scope f cdv X2.A.in1 X.stack s H (fun _ _ _ => False) []) [] (L2.start N vs) H s2 :=
      I1.call' (ch := []) o2 (Un.kept kp2) (I1.hok.kept kp2) b2 fun b z => by simp at z
    have hea : s2.heap.get? s1.heap.objs.size = some go := by rw [h2]; exact hpushed
    have I3 : Inv (gcxOf X.prog X.w X.K X.mg X.base N qual scope f cdv X2.A.in1 X.stack s H (fun _ _ _ => False) [(s1.heap.objs.size, go)]) [] (L2.start N vs) H s2 := by
      refine Inv.pinnedG I2 fun p hp => ?_
      have hp : p = (s1.heap.objs.size, go) := by simpa using hp
      rw [hp]
      exact ⟨hea, I1.hok.fresh (Nat.le_refl _), Nat.ne_of_gt lt1, I1.nofs (Nat.le_refl _), gd⟩
    obtain ⟨t1, t2, te, p1, p2, pe, hq⟩ := hd X2.A.in1 X.stack s H [(s1.heap.objs.size, go)] (hrw.deeper _)
    have hq := hq vs cont hsp
    refine seg_func ?_
    refine seg_execs_cons (seg_wrap ?_)
    rw [over_func]
    refine wpAny_mono (p1.run [] s2 _ H _ (I3.wish _) hq) (fun fl s3 q3 => ?_) fun _ _ z => False.elim z
    cases fl with
    | brk => obtain ⟨_, _, _, z⟩ := q3; exact False.elim z
    | cont => obtain ⟨_, _, _, z⟩ := q3; exact False.elim z
    | ret u => obtain ⟨_, _, _, _, _, z⟩ := q3; exact False.elim z
    | next =>
    obtain ⟨σ3, H3, J3, q3⟩ := q3
    refine seg_execs_cons (seg_wrap ?_)
    rw [over_func]
    refine wpAny_mono (p2.run [] s3 _ H3 _ J3 q3) (fun fl s4 q4 => ?_) fun _ _ z => False.elim z
    cases fl with
    | brk => obtain ⟨_, _, _, z⟩ := q4; exact False.elim z
    | cont => obtain ⟨_, _, _, z⟩ := q4; exact False.elim z
    | ret u => obtain ⟨_, _, _, _, _, z⟩ := q4; exact False.elim z
    | next =>
    obtain ⟨σ4, H4, J4, q4⟩ := q4
    refine seg_execs_cons ?_
    rw [exec_Expr (envOfC qual scope s.heap.objs.size f cdv) _ pos J4.quiet rfl]
    refine seg_at ?_
    refine segw_bind2 ?_
    rw [over_func]
    refine wpAny_mono (pe.run [] s4 _ H4 _ J4 q4) (fun v s5 q5 => ?_) fun _ _ z => False.elim z
    obtain ⟨x5, H5, J5, r5, p, xs, ex, hp, hnp, hc⟩ := q5
    subst ex
    obtain rfl : v = Value.ref p := r5
    obtain ⟨hz, its, nl, rvs, hzl, el⟩ := J5.lstM hp
    have pl : s5.heap.IsList p its.toArray := ⟨_, el, rfl, nl, rfl⟩
    refine seg_at ?_
    unfold yieldFrom
    refine seg_bind_wrap (wpAny_pure ?_)
    refine seg_bind_wrap (wpAny_typeOf (T := "list") pl.typeIs ?_)
    rw [if_neg (by decide)]
    refine seg_bind_wrap (wpAny_holding ?_)
    rw [over_func]
    refine wpAny_pyIter_list pl ?_
    have kpi : ∀ b o, s5.heap.get? b = some o → (s5.heap.push { cls := .type "list_iterator", data := .fields #[.ref p, .int 0 0] }).get? b = some o := fun b o e => Heap.get?_push_of_some _ e
    have J6 := J5.kept (t' := s5.toks) kpi
    have kps : s.heap.objs.size ≤ s5.heap.objs.size := J5.sz
    have JL : Inv X2 pins2 σ2 H5 { s5 with heap := s5.heap.push { cls := .type "list_iterator", data := .fields #[.ref p, .int 0 0] } } := by
      refine J.call' (ch := []) J6.os ?_ (by rw [hP, hw]; exact J6.hok) J6.bare fun b z => by simp at z
      rw [hst]
      exact J6.base
    have hpa := J5.pin (s1.heap.objs.size, go) (List.mem_append_left _ (List.mem_singleton.mpr rfl))
    refine seg_call fun pp => ?_
    have hia : s5.heap.objs.size ≠ s1.heap.objs.size := Nat.ne_of_gt (Heap.lt_size hpa.1)
    have l0 : LI X2 pins2 s1.heap.objs.size s1.gens.size s5.heap.objs.size p xs 0 σ2 H5 { s5 with heap := s5.heap.push { cls := .type "list_iterator", data := .fields #[.ref p, .int 0 0] } } :=
      ⟨JL, hp, J.fpOk kps (J5.hok.fresh (Nat.le_refl _)), ⟨_, Heap.get?_push_size _ rfl, rfl, rfl⟩, J.fpOk sz1 hpa.2.1, hgen _ (kpi _ _ hpa.1), hia⟩
    have hle : xs.length ≤ sizeLine := hz
    have A1 := @seg_turns X2 pins2 s1.heap.objs.size s1.gens.size Pq s5.heap.objs.size p xs X2.A.in1
    rw [hP, hw] at A1
    refine A1 ?_ ?_ ?_ (fun n' s₀' s' hx => ?_) xs.length 0 sizeLine s2 _ (Nat.zero_add _) rfl ⟨σ2, H5, hPq p xs H5 hnp hc, l0⟩
    · rfl
    · rfl
    · show (X2.A.in1.over (.func [st1, st2, .Expr (.YieldFrom e yp) pos] (envOfC qual scope s.heap.objs.size f cdv)) []).handled = none
      rw [over_func]
      exact hrw.hd
    · obtain ⟨σ7, H7, hP7, J7⟩ := hx
      refine seg_leaf (.ok (.ret .none)) ?_
      show Seg (model X.prog X.w) X2.A.in1 (RM X2 pins2 Pq) (YM X2 pins2 s1.heap.objs.size s1.gens.size Pq) n' s₀' _ (Sem.wrap (fun f => .pure (.done (.ret (match f with | .ret v => v | _ => .none)))) (fun e => (leaving (envOfC qual scope s.heap.objs.size f cdv) e).wrap (fun _ => .raise e) .raise id id) id id (execs [] (envOfC qual scope s.heap.objs.size f cdv))) [] s'
      refine seg_execs_nil ?_
      exact seg_end (.ok (.ret .none)) (.inl ⟨.inl rfl, p, xs, σ7, H7, hP7, J7⟩)
  exact main { cls := .type "generator", data := .fields #[.int s1.gens.size 0, .str name s1.toks, .str qual (s1.toks + 1)] } (.str name s1.toks) (.str qual (s1.toks + 1)) (s1.toks + 1 + 1) rfl rfl rfl fun h => Heap.get?_push_size _ rfl
end
end GZ
/-! Layer R, part 35: for row in gen(..): seen.append(row). -/
namespace GZ
open PySem PySem.Spec PyProof.Rows L2 GenW
/-- the slots behind the loop's turns -/
def setLast (σ : L2.St) (i : Nat) : List V → L2.St
  | [] => σ
  | x :: xs => σ.set i (some ((x :: xs).getLast (by simp)))
def tForGen (sp : SpM) (i j : Nat) (ta : TA) : TS := fun D σ H => ta σ H fun vs H1 => ∃ S ys, σ[j]? = some (some (.ref S)) ∧ H1 S = some (.lst ys) ∧
  sp vs H1 fun xs H2 => H2 S = some (.lst ys) ∧ ys.length + xs.length < sizeLine ∧ (xs = [] → D.nx σ H2) ∧ ∀ l x, xs = l ++ [x] → D.nx (σ.set i (some x)) (upd H2 S (.lst (ys ++ xs)))
section
variable {X : Cx} {k i j : Nat} {f : Addr} {sp : SpM} {ta : TA} {x y m : Str} {e : Expr} {es : List Expr} {p1 p2 p3 p4 p5 p6 p7 p8 p9 : Pos}
theorem ps_forGen (F : GenR X.prog X.w X.K X.mg X.base k f sp) (hr : Room (k + 2) X.A) (hg : Gl X m) (hm : X.mg m = some (.ref f)) (hk : PySem.W.keepIn X.K (.ref f) = true) (ha : PA X (e :: es) ta) (hN : X.N.Nodup)
    (hi : X.N[i]? = some x) (hix : X.env.scope.names.lookup x = some .local) (hj : X.N[j]? = some y) (hjy : Vis X.env.scope y) (ne : i ≠ j)
    (hdb : (m == ("__debug__" : Str)) = false := by decide) (hdi : (x == ("__debug__" : Str)) = false := by decide) (hci : (x == ("__classdict__" : Str)) = false := by decide) (hdj : (y == ("__debug__" : Str)) = false := by decide) (hcj : (y == ("__classdict__" : Str)) = false := by decide)
    (he : starEach (e :: es) X.env = (false, eval e X.env) :: starEach es X.env := by rfl) (hpl : (backTo p3 (starEach es X.env)).any (·.1) = false := by rfl)
    (hs : ∀ v, foldedSetIterable (.Call (.Name m p2) (e :: es) [] p3) X.env v = pure v := by intro _; rfl)
    (hbase : attributeBase (.Name y p4) "append" X.env (eval (.Name y p4) X.env) = eval (.Name y p4) X.env := by rfl)
    (hfew : ((backTo p7 (starEach [.Name x p6] X.env)).all (fun x => !x.1) && (backToKw p7 (keywordEach [] X.env)).all (fun x => x.1.isSome)
      && decide (([.Name x p6] : List Expr).length + ([] : List Keyword).length + (if ([] : List Keyword).isEmpty then 0 else 1) < 30)) = true := by rfl)
    (hline : (p5.endLine == p7.line) = true := by rfl) (hsa : starEach [.Name x p6] X.env = (false, eval (.Name x p6) X.env) :: starEach [] X.env := by rfl) (hplain : (backTo p7 (starEach [] X.env)).any (·.1) = false := by rfl)
    (hsw : swapsWith (.Call (.Attribute (.Name y p4) "append" p5) [.Name x p6] [] p7) none p8.line X.env = pure false := by rfl) :
    PS X (.For (.Name x p1) (.Call (.Name m p2) (e :: es) [] p3) [.Expr (.Call (.Attribute (.Name y p4) "append" p5) [.Name x p6] [] p7) p8] [] p9) (tForGen sp i j ta) := by
  refine ⟨fun pins s σ H D I h => ?_⟩
  refine wpAny_For ?_ hs
  refine wpAny_Call_Name_kw (ld_glob I hg hm ?_ hdb)
  refine PySem.W.callWith_K (h₀ := X.base) I.ok.mod.kin hk (thn (ha.run p3 pins s σ H _ I h) fun us s1 ⟨vs, H1, I1, r, S, ys, eS, hS1, q⟩ => ⟨I1.kIn, ?_⟩) he hpl
  rw [List.nil_append]
  refine wpAny_mono (F.run X pins s1 σ H1 us vs _ X.xe rfl rfl rfl rfl rfl hr I1 r q) (fun u s2 hmd => ?_) (fun _ _ z => z)
  obtain ⟨a, g, c, rfl, ha1, hga, hgs, os2, b2, l2, kp2, hna, wake⟩ := hmd
  refine wpAny_pyIter_gen hga ?_
  obtain ⟨Pq, hPq⟩ : ∃ Pq : YP, Pq = fun p xs n σ' H' => ∃ H2, p ≠ S ∧ H2 S = some (.lst ys) ∧ ys.length + xs.length < sizeLine ∧ (xs = [] → D.nx σ H2) ∧ (∀ l x, xs = l ++ [x] → D.nx (σ.set i (some x)) (upd H2 S (.lst (ys ++ xs)))) ∧
      ((n = 0 ∧ σ' = σ ∧ H' = H2) ∨ ∃ l x, xs.take n = l ++ [x] ∧ σ' = σ.set i (some x) ∧ H' = upd H2 S (.lst (ys ++ xs.take n))) := ⟨_, rfl⟩
  have hP0 : ∀ p xs H', H1 p = none → (H' S = some (.lst ys) ∧ ys.length + xs.length < sizeLine ∧ (xs = [] → D.nx σ H') ∧ ∀ l x, xs = l ++ [x] → D.nx (σ.set i (some x)) (upd H' S (.lst (ys ++ xs)))) → Pq p xs 0 σ H' := fun p xs H' hp ⟨c1, c2, c3, c4⟩ => by
    rw [hPq]
    exact ⟨H', fun z => (by rw [z, hS1] at hp; cases hp), c1, c2, c3, c4, .inl ⟨rfl, rfl, rfl⟩⟩
  have hW := wake X pins σ Pq rfl rfl rfl I1 hr.in1 hP0
  have hroom : X.A.depth < recursionLimit := hr.depth
  refine codeAny_forLoop_any (fun n s' => s'.heap.IsGen a g ∧ s'.heap.NoLimit ∧ ∃ gs, s'.gens[g]? = some gs ∧ gs.Goes (model X.prog X.w) X.A.in1 (RM X pins Pq) (YM X pins a g Pq) n (.send .none) (s'.setGen g .running)) ?_ sizeLine ⟨hga, l2, _, hgs, rfl, hW⟩
  rintro n s3 ⟨g3, l3, gs, e3, go⟩
  have hgl : g < s3.gens.size := (Array.getElem?_eq_some_iff.mp e3).1
  refine wpAny_gsz (n := g + 1) hgl (next_genG (F := FM X pins Pq) (Er := fun _ _ => False) hr.hd l3 hroom g3 e3 go (fun v s4 gs' hbare hv => ?_) (fun s4 hp h' hk2 => ?_) fun _ _ z => z.elim)
  · intro hsz
    obtain ⟨it, p, xs, i4, σ4, H4, x4, hn, hx, rx, hP, L, kap⟩ := hv
    rw [hPq] at hP
    obtain ⟨H2, hpS, c1, c2, c3, c4, c5⟩ := hP
    have hiσ : i < σ.length := by rw [I1.len]; exact (List.getElem?_eq_some_iff.mp hi).1
    have il : i4 < xs.length := (List.getElem?_eq_some_iff.mp hx).1
    have et : xs.take (i4 + 1) = xs.take i4 ++ [x4] := by rw [List.take_add_one, hx]; rfl
    -- the state's slots and list, in both cases
    have st : σ4.length = σ.length ∧ σ4[j]? = some (some (.ref S)) ∧ H4 S = some (.lst (ys ++ xs.take i4)) ∧ σ4.set i (some x4) = σ.set i (some x4) ∧ ∀ o, upd H4 S o = upd H2 S o := by
      rcases c5 with ⟨rfl, rfl, rfl⟩ | ⟨l, x', e1, rfl, rfl⟩
      · exact ⟨rfl, eS, by rw [List.take_zero, List.append_nil]; exact c1, rfl, fun _ => rfl⟩
      · exact ⟨by simp, by rw [List.getElem?_set_ne ne]; exact eS, upd_same, by rw [List.set_set], fun _ => upd_upd⟩
    obtain ⟨st1, st2, st3, st4, st5⟩ := st
    have I4 : Inv X pins σ4 H4 (s4.setGen g gs') := inv_gens L.inv (allBare_setGen L.inv.bare hbare)
    show wpAny _ _ (letOwnedTupleGo (.Name x p1) (.ref a) v) _ _ _
    unfold letOwnedTupleGo
    refine wpAny_pure (wpAny_assign_Name (sto_raw I4 hN hi hix rx fun h6 t6 I6 k6 => ?_))
    have hlen : ys.length + (xs.take i4).length < sizeLine := by rw [List.length_take]; omega
    refine app_raw I6 hi (.inl hix) hj hjy (by rw [List.getElem?_set_self (by rw [st1]; exact hiσ)]) (by rw [List.getElem?_set_ne ne]; exact st2) st3 (by rw [List.length_append]; exact hlen) (fun h7 t7 I7 k7 => ?_) hdi hci hdj hcj hbase hfew hline hsa hplain hsw
    obtain ⟨a0, a1, a2, a3, a4, a5⟩ := L.oka
    obtain ⟨t0, t1, t2, t3, t4, t5⟩ := L.ok
    have neS : ∀ b, H4 b = none → b ≠ S := fun b q z => by rw [z, st3] at q; cases q
    have kk : ∀ b o, b ≠ X.env.locals → b ≠ S → s4.heap.get? b = some o → h7.get? b = some o := fun b o z1 z2 q => k7 b o z2 (k6 b o z1 q)
    rw [st4, List.append_assoc, ← et, st5] at I7
    have I7' : Inv X pins (σ.set i (some x4)) (upd H2 S (.lst (ys ++ xs.take (i4 + 1)))) { s4 with gens := ((s4.setGen g gs').setGen g .running).gens, heap := h7, toks := t7 } := inv_gens I7 (allBare_setGen I7.bare rfl)
    have gz : g < s4.gens.size := by
      have q : (s4.setGen g gs').gens.size = s4.gens.size := setGen_size _ _ _
      have hsz' : g + 1 ≤ (s4.setGen g gs').gens.size := hsz
      omega
    have hap : (upd H2 S (.lst (ys ++ xs.take (i4 + 1)))) p = some (.lst xs) := by
      rw [← st5, upd_ne hpS]
      exact L.hp
    have frz : ∀ b, H4 b = none → (upd H2 S (.lst (ys ++ xs.take (i4 + 1)))) b = none := fun b q => by
      rw [← st5, upd_ne (neS b q)]
      exact q
    have gIs : h7.IsGen a g := let ⟨o, nm, qn, ho, r⟩ := L.ga; ⟨o, nm, qn, kk a o a1 (neS a a0) ho, r⟩
    have LL : LI X pins a g it p xs (i4 + 1) (σ.set i (some x4)) (upd H2 S (.lst (ys ++ xs.take (i4 + 1)))) { s4 with gens := ((s4.setGen g gs').setGen g .running).gens, heap := h7, toks := t7 } :=
      ⟨I7', hap, ⟨frz it t0, t1, t2, t3, t4, t5⟩, L.li.at fun o q => kk it o t1 (neS it t0) q, ⟨frz a a0, a1, a2, a3, a4, a5⟩, gIs, L.ne⟩
    have PP : Pq p xs (i4 + 1) (σ.set i (some x4)) (upd H2 S (.lst (ys ++ xs.take (i4 + 1)))) := by
      rw [hPq]
      exact ⟨H2, hpS, c1, c2, c3, c4, .inr ⟨_, x4, et, rfl, rfl⟩⟩
    have go' := kap _ ⟨_, _, PP, LL⟩
    cases n with
    | zero => exact go'.elim
    | succ n => exact ⟨n, Nat.lt_succ_self n, gIs, I7.nolimit, gs', setGen_at gz, go'⟩
  · intro hsz
    obtain ⟨p, xs, σ5, H5, hP, I5⟩ := hp
    rw [hPq] at hP
    obtain ⟨H2, hpS, c1, c2, c3, c4, c5⟩ := hP
    have I6 : Inv X pins σ5 H5 { s4.setGen g .finished with heap := h' } := inv_gens (t' := s4.toks) (I5.kept (t' := s4.toks) hk2) (allBare_setGen I5.bare rfl)
    refine wpAny_execs_nil ⟨σ5, H5, I6, ?_⟩
    rcases c5 with ⟨n0, rfl, rfl⟩ | ⟨l, x', e1, rfl, rfl⟩
    · exact c3 (List.eq_nil_of_length_eq_zero n0)
    · rw [List.take_length] at e1 ⊢
      exact c4 l x' e1
end
end GZ
/-! Layer R, part 36: generator defs over data. -/
namespace R
open PySem L2 Evl
/-- a generator def's promise over data: the arguments, what it will hand out -/
abbrev GSp := List D → (List D → Prop) → Prop
def spG (sp : GSp) : GZ.SpM := fun vs H cont => ∃ (G : Hp) (ds : List D) (Q : List D → Prop), Ex G H ∧ Reps G ds vs ∧ sp ds Q ∧ ∀ rows xs G' H' cs M', Q rows → SR (wr0 G H []) G' H' cs M' → Le G [] G' cs → Reps G' rows xs → cont xs H'
section
variable {K : PySem.W.Frag} {E : XK}
theorem argsD {G H : Hp} : ∀ {ds : List D} {vs : List V}, Reps G ds vs → ArgsR K G H (ds.map AD.d) vs []
  | [], vs, h => ⟨reps_nil.mp h, rfl⟩
  | d :: ds, vs, h => by
    obtain ⟨x, r, rfl, h1, h2⟩ := reps_cons.mp h
    exact ⟨x, r, rfl, h1, argsD h2⟩
theorem memD : ∀ ds : List D, adsMem (ds.map AD.d) = []
  | [] => rfl
  | d :: ds => memD ds
theorem srsD {as : List Addr} {G : Hp} : ∀ {ds : List D} {vs : List V}, SRs K as G (ds.map S.d) vs → Reps G ds vs
  | [], vs, h => by cases h; exact reps_nil.mpr rfl
  | d :: ds, vs, h => by
    cases h with
    | cons h1 h2 => exact reps_cons.mpr ⟨_, _, rfl, h1.d, srsD h2⟩
def gEnd (Q : List D → Prop) : DK := fun s M' => match s with
  | .m k => ∃ rows, M'[k]? = some (.lst rows) ∧ Q rows
  | _ => False
theorem reps_snoc {G : Hp} : ∀ {l : List V} {x : V} {rows : List D}, Reps G rows (l ++ [x]) → ∃ rl r, rows = rl ++ [r] ∧ Reps G rl l ∧ Rep G r x
  | [], x, [], h => by cases reps_nil.mp h
  | [], x, d :: r, h => by
    obtain ⟨y, z, e, h1, h2⟩ := reps_cons.mp h
    cases e
    have e : r = [] := List.eq_nil_of_length_eq_zero (by rw [← h2.len]; rfl)
    subst e
    exact ⟨[], d, rfl, reps_nil.mpr rfl, h1⟩
  | a :: l, x, [], h => by cases reps_nil.mp h
  | a :: l, x, d :: r, h => by
    obtain ⟨y, z, e, h1, h2⟩ := reps_cons.mp h
    cases e
    obtain ⟨rl, q, rfl, h3, h4⟩ := reps_snoc h2
    exact ⟨d :: rl, q, rfl, reps_cons.mpr ⟨_, _, rfl, h1, h3⟩, h4⟩
/-- what the body of a generator def keeps: two statements, then the list that it hands out -/
def KeepsG (w1 w2 : DSw) (we : DW) (n : Nat) (sp : GSp) : Prop := ∀ ds Q, sp ds Q →
  w1 (fun _ _ => False) { nx := fun env M => w2 (fun _ _ => False) { nx := fun env M => we (fun _ _ => False) env M (gEnd Q), rt := fun _ _ => False, bk := fun _ _ => False, ct := fun _ _ => False } env M, rt := fun _ _ => False, bk := fun _ _ => False, ct := fun _ _ => False } (envStart (ds.map AD.d) n) []
end
section
variable {P : Program} {w0 : World} {K : PySem.W.Frag} {mg : Str → Option Value} {base : Heap}
/-- THE RULE for a generator def -/
theorem gen_def {x : Str} {st st1 st2 : Stmt} {e : Expr} {yp pos : Pos} {f : Addr} {fd : FuncData} {N ps : List Str} {k n : Nat} {sp : GSp} {w1 w2 : DSw} {we : DW} (D : Def K mg x st ps f fd) (S : L2.GScope N ps (defScope st)) (hbd : defBody st = [st1, st2, .Expr (.YieldFrom e yp) pos]) (hn : N.length = ps.length + n)
    (hlen : ∀ ds Q, sp ds Q → ds.length = ps.length)
    (hd : ∀ (cdv : Value) (A : Around) (outer : List PySem.Env) (s : Shared) (H : Hp) (pn : List (Addr × Obj)), Room k (A.deeper (PyProof.Rows.envOfC x (defScope st) s.heap.objs.size f cdv)) →
      DS (L2.gcxOf P w0 K mg base N x (defScope st) f cdv A outer s H (fun _ _ _ => False) pn).nox E0 st1 w1 ∧ DS (L2.gcxOf P w0 K mg base N x (defScope st) f cdv A outer s H (fun _ _ _ => False) pn).nox E0 st2 w2 ∧ DE (L2.gcxOf P w0 K mg base N x (defScope st) f cdv A outer s H (fun _ _ _ => False) pn).nox E0 e we)
    (hv : KeepsG w1 w2 we n sp) : GZ.GenR P w0 K mg base k f (spG sp) := by
  obtain ⟨oc, od, kV, doc, pm, an, cdv, ct, osl, rfl, lk, hcd⟩ := D.fn.ex
  have hbd2 := D.bd
  rw [hbd] at lk hbd2
  refine GZ.gen_of lk hcd S hbd2 (fun vs H c ⟨G, ds, Q, _, hr, hs, _⟩ => by rw [hr.len]; exact hlen ds Q hs) fun A outer s H pn hr => ?_
  obtain ⟨d1, d2, de⟩ := hd cdv A outer s H pn hr
  refine ⟨_, _, _, d1.pe, d2.pe, de.pe, ?_⟩
  rintro vs cont ⟨G, ds, Q, ex, hreps, hs, fin⟩
  have ha : ArgsR K G H (ds.map AD.d) vs [] := argsD hreps
  have sr0 : SR (wr0 G H []) G H [] [] := by
    have q := start_sr ex List.nodup_nil (fun a ha => by cases ha) ha
    rw [memD] at q
    exact q
  have er0 : ER K [] G (envStart (ds.map AD.d) n) (L2.start N vs) := start_er ha (by rw [List.length_map]; exact hlen ds Q hs) hn
  refine ⟨wr0 G H [], G, [], [], _, _, ⟨rfl, ⟨fun _ _ _ _ _ _ _ z _ => z, fun z => z.elim⟩, sr0, er0⟩, ⟨?_, fun _ _ _ _ _ _ _ _ _ z => z, fun _ _ _ _ _ _ _ _ _ z => z, fun _ _ _ _ _ _ _ _ _ z => z⟩, hv ds Q hs⟩
  intro σ1 G1 H1 as1 M1 env1 sr1 l1 er1 q1
  refine ⟨wr0 G H [], G1, as1, M1, env1, _, ⟨rfl, ⟨fun _ _ _ _ _ _ _ z _ => z, fun z => z.elim⟩, sr1, er1⟩, ⟨?_, fun _ _ _ _ _ _ _ _ _ z => z, fun _ _ _ _ _ _ _ _ _ z => z, fun _ _ _ _ _ _ _ _ _ z => z⟩, q1⟩
  intro σ2 G2 H2 as2 M2 env2 sr2 l2 er2 q2
  refine ⟨wr0 G H [], G2, as2, M2, env2, _, ⟨rfl, ⟨fun _ _ _ _ _ _ _ z _ => z, fun z => z.elim⟩, sr2, er2⟩, q2, ?_⟩
  intro v G3 H3 as3 M3 s3 sr3 l3 rv q3
  unfold gEnd at q3
  split at q3
  · rename_i kk
    obtain ⟨rows, em, hQ⟩ := q3
    obtain ⟨p, hp, rfl⟩ := rv
    obtain ⟨hg, hb, xs, hx, hrx⟩ := sr3.ms kk p _ hp em
    exact ⟨p, xs, rfl, hx, hb, fin rows xs G3 H3 as3 M3 hQ sr3 ((l1.trans l2).trans l3) hrx⟩
  · exact q3.elim
end
def wForGen (sp : GSp) (i j : Nat) (wa : DAW) : DSw := fun X Dn env M => wa X env M fun ss M1 => ∃ (ds : List D) (k : Nat) (old : List D), ss = ds.map S.d ∧ env[j]? = some (some (.m k)) ∧ M1[k]? = some (.lst old) ∧
  sp ds fun rows => old.length + rows.length < 16000000 ∧ (rows = [] → Dn.nx env M1) ∧ ∀ l r, rows = l ++ [r] → Dn.nx (env.set i (some (.d r))) (M1.set k (.lst (old ++ rows)))
section
variable {K : PySem.W.Frag} {E : XK}
theorem okS_forGen {i j : Nat} {sp : GSp} {ta : TA} {wa : DAW} (ha : OkA K E ta wa) : OkS K E (GZ.tForGen (spG sp) i j ta) (wForGen sp i j wa) := by
  intro u G H as M env σ Dn Dv c e h
  refine ha u G H as M env σ _ _ c h fun vs G1 H1 as1 M1 ss sr1 l1 rs q1 => ?_
  obtain ⟨ds, k, old, rfl, ej, em, q⟩ := q1
  obtain ⟨v, hv, p, hp, rfl⟩ := (c.er.mono l1).get j _ ej
  obtain ⟨hg, hb, ys, hy, hry⟩ := sr1.ms k p _ hp em
  refine ⟨p, ys, hv, hy, G1, ds, _, sr1.gh, srsD rs, q, fun rows xs G' H' cs M' ⟨q1, q2, q3⟩ sr' l' hxs => ?_⟩
  have nob : ∀ (j i : Nat), ([] : List Nat)[j]? = some i → ∃ a, as1[i]? = some a ∧ ([] : List Addr)[j]? = some a := fun j i e => by simp at e
  have sb0 := sr1.back (is := []) (bs := []) rfl nob List.nodup_nil sr' l'
  have sb := sb0.trim M1.length (by rw [← sr1.len]; obtain ⟨t, et⟩ := sr1.pre; rw [et, List.length_append]; omega)
  have e1 : (as1 ++ cs.drop ([] : List Nat).length).take M1.length = as1 := by rw [← sr1.len]; exact List.take_left
  have e2 : (putAll M1 [] (M'.take ([] : List Nat).length) ++ M'.drop ([] : List Nat).length).take M1.length = M1 := List.take_left
  rw [e1, e2] at sb
  have l2 : Le G1 as1 G' as1 := ⟨l'.ex, [], by simp⟩
  obtain ⟨hg2, hb2, _, _, _⟩ := sb.ms k p _ hp em
  have hy2 : H' p = some (.lst ys) := sr'.fr p (.lst ys) hy (fun z => by rcases z with z | z <;> cases z)
  have hry2 := hry.mono l'.ex
  refine ⟨hy2, by rw [hry2.len, hxs.len]; exact Nat.lt_of_lt_of_le q1 line16, fun z => ?_, fun l x z => ?_⟩
  · subst z
    have er : rows = [] := List.eq_nil_of_length_eq_zero (by rw [← hxs.len]; rfl)
    exact e.nx σ G' H' as1 M1 env sb (l1.trans l2) (c.er.mono (l1.trans l2)) (q2 er)
  · subst z
    obtain ⟨rl, r, rfl, hr1, hr2⟩ := reps_snoc hxs
    exact e.nx _ G' _ as1 _ _ (sb.write (mo := .lst (old ++ (rl ++ [r]))) hp hg2 ⟨hg2, hb2, _, upd_same, hry2.append hxs⟩) (l1.trans l2) ((c.er.mono (l1.trans l2)).set i (s := .d r) hr2) (q3 rl r rfl)
end
section
variable {X : Cx} {E : XK} {e : Expr} {es : List Expr} {wl : DAW} {i j k : Nat} {f : Addr} {sp : GSp} {x y m : Str} {st : Stmt} {ps : List Str} {fd : FuncData} {p1 p2 p3 p4 p5 p6 p7 p8 p9 : Pos}
theorem s_forGen (RG : GZ.GenR X.prog X.w X.K X.mg X.base k f (spG sp)) (hr : Room (k + 2) X.A) (D : Def X.K X.mg m st ps f fd) (ha : DA X E (e :: es) wl) (hN : X.N.Nodup) (ne : i ≠ j) (hg : Gl X m := by rfl)
    (hi : X.N[i]? = some x := by rfl) (hix : X.env.scope.names.lookup x = some .local := by rfl) (hj : X.N[j]? = some y := by rfl) (hjy : Vis X.env.scope y := by first | exact Or.inl rfl | exact Or.inr (Or.inl rfl) | exact Or.inr (Or.inr rfl))
    (hdb : (m == ("__debug__" : Str)) = false := by decide) (hdi : (x == ("__debug__" : Str)) = false := by decide) (hci : (x == ("__classdict__" : Str)) = false := by decide) (hdj : (y == ("__debug__" : Str)) = false := by decide) (hcj : (y == ("__classdict__" : Str)) = false := by decide)
    (he : starEach (e :: es) X.env = (false, eval e X.env) :: starEach es X.env := by rfl) (hpl : (backTo p3 (starEach es X.env)).any (·.1) = false := by rfl)
    (hs : ∀ v, foldedSetIterable (.Call (.Name m p2) (e :: es) [] p3) X.env v = pure v := by intro _; rfl)
    (hbase : attributeBase (.Name y p4) "append" X.env (eval (.Name y p4) X.env) = eval (.Name y p4) X.env := by rfl)
    (hfew : ((backTo p7 (starEach [.Name x p6] X.env)).all (fun x => !x.1) && (backToKw p7 (keywordEach [] X.env)).all (fun x => x.1.isSome)
      && decide (([.Name x p6] : List Expr).length + ([] : List Keyword).length + (if ([] : List Keyword).isEmpty then 0 else 1) < 30)) = true := by rfl)
    (hline : (p5.endLine == p7.line) = true := by rfl) (hsa : starEach [.Name x p6] X.env = (false, eval (.Name x p6) X.env) :: starEach [] X.env := by rfl) (hplain : (backTo p7 (starEach [] X.env)).any (·.1) = false := by rfl)
    (hsw : swapsWith (.Call (.Attribute (.Name y p4) "append" p5) [.Name x p6] [] p7) none p8.line X.env = pure false := by rfl) :
    DS X E (.For (.Name x p1) (.Call (.Name m p2) (e :: es) [] p3) [.Expr (.Call (.Attribute (.Name y p4) "append" p5) [.Name x p6] [] p7) p8] [] p9) (wForGen sp i j wl) :=
  .mk' (GZ.ps_forGen RG hr hg D.gl D.fn.kp ha.pe hN hi hix hj hjy ne hdb hdi hci hdj hcj he hpl hs hbase hfew hline hsa hplain hsw) (okS_forGen okAW)
end
end R
/-! Layer R, part 37: list(gen(..)). -/
namespace GZ
open PySem PySem.Spec PyProof.Rows L2 GenW
section
variable {X : Cx} {e : Expr} {te : TE}
def tYfLst (te : TE) : TYf := fun σ H Q => te σ H fun x H1 => ∃ p xs, x = .ref p ∧ H1 p = some (.lst xs) ∧ Q xs H1
theorem yf_lst (he : PE X e te) : YfE X e (tYfLst te) := by
  refine ⟨fun pins s σ H Q I h => ?_⟩
  refine thn (he.run pins s σ H _ I h) fun v s1 ⟨x, H1, I1, r1, p, xs, ex, hp, hq⟩ => ?_
  subst ex
  obtain rfl : v = Value.ref p := r1
  obtain ⟨hz, its, nl, rvs, hzl, el⟩ := I1.lstM hp
  have pl : s1.heap.IsList p its.toArray := ⟨_, el, rfl, nl, rfl⟩
  refine ⟨"list", pl.typeIs, by decide, wpAny_pyIter_list pl ?_⟩
  have old : ∀ b o, s1.heap.get? b = some o → b ≠ s1.heap.objs.size := fun b o e => Nat.ne_of_lt (Heap.lt_size e)
  have kp : ∀ b o, s1.heap.get? b = some o → (s1.heap.push { cls := .type "list_iterator", data := .fields #[.ref p, .int 0 0] }).get? b = some o := fun b o e => Heap.get?_push_of_some _ e
  have hne : p ≠ s1.heap.objs.size := old p _ el
  refine ⟨s1.heap.objs.size, H1, xs, fun j h => h.IsListIter s1.heap.objs.size p j ∧ h.get? p = some { cls := .type "list", data := .seq its.toArray nl }, rfl, I1.kept (t' := s1.toks) kp, .inr I1.sz, Nat.ne_of_gt I1.lt, fun y c hy => ?_, I1.hok.fresh (Nat.le_refl _), fun q hq => ?_, ⟨⟨_, Heap.get?_push_size _ rfl, rfl, rfl⟩, kp _ _ el⟩, ?_, hq⟩
  · obtain ⟨v, o, ho, _⟩ := I1.cell y c hy
    exact old c o ho
  · exact old q.1 _ (I1.pin q hq).1
  · refine ⟨⟨"list_iterator", fun j h q => ?_, close_lst, by decide⟩, fun j h h' q hk => ?_, fun A' j x s2 Q' E' hA hx q hQ => ?_, fun A' s2 Q' E' hA q hE => ?_⟩
    · obtain ⟨⟨o, ho, hc, _⟩, _⟩ := q
      exact ⟨o, ho, hc⟩
    · exact ⟨q.1.at fun o e => hk _ o (.inl rfl) e, hk p _ (.inr (by rw [hp]; exact fun z => by cases z)) q.2⟩
    · obtain ⟨u, hu, ru⟩ := rvs.get hx
      exact lst_item q.1 ⟨_, q.2, rfl, nl, rfl⟩ (x := u) (by simpa using hu) fun h' q1 hs => hQ u h' s2.toks ru ⟨q1, (hs.2 p hne).trans q.2⟩ fun b o hb e => hs.extBut b o hb e
    · have hnone : its.toArray[xs.length]? = none := by simp [hzl]
      exact lst_end hA q.1 ⟨_, q.2, rfl, nl, rfl⟩ hnone fun e h' hS hk => hE e h' s2.toks hS fun b o hb eb => hk b o hb eb
theorem ps_nox {st : Stmt} {t : TS} (h : PS X.nox st t) : PS X st t := ⟨fun pins s σ H D I hw => wpAny_mono (h.run pins s σ H D (I.wish _) hw) (fun _ _ q => q.unwish) fun _ _ z => False.elim z⟩
end
end GZ
namespace R
open PySem L2 Evl
/-- what list() asks of the promise -/
def spGL (sp : GSp) : L2.SpG := fun vs H cont _ => spG sp vs H fun xs H' => xs.length ≤ sizeLine ∧ cont xs H'
section
variable {P : Program} {w0 : World} {K : PySem.W.Frag} {mg : Str → Option Value} {base : Heap}
theorem gen_fn {x : Str} {st st1 st2 : Stmt} {e : Expr} {yp pos : Pos} {f : Addr} {fd : FuncData} {N ps : List Str} {k n : Nat} {sp : GSp} {w1 w2 : DSw} {we : DW} (D : Def K mg x st ps f fd) (S : L2.GScope N ps (defScope st)) (hbd : defBody st = [st1, st2, .Expr (.YieldFrom e yp) pos]) (hn : N.length = ps.length + n)
    (hlen : ∀ ds Q, sp ds Q → ds.length = ps.length)
    (hd : ∀ (cdv : Value) (A : Around) (outer : List PySem.Env) (s : Shared) (H : Hp) (pn : List (Addr × Obj)), Room k (A.deeper (PyProof.Rows.envOfC x (defScope st) s.heap.objs.size f cdv)) →
      DS (L2.gcxOf P w0 K mg base N x (defScope st) f cdv A outer s H (fun _ _ _ => False) pn).nox E0 st1 w1 ∧ DS (L2.gcxOf P w0 K mg base N x (defScope st) f cdv A outer s H (fun _ _ _ => False) pn).nox E0 st2 w2 ∧ DE (L2.gcxOf P w0 K mg base N x (defScope st) f cdv A outer s H (fun _ _ _ => False) pn).nox E0 e we)
    (hv : KeepsG w1 w2 we n sp) : L2.GFn P w0 K mg base (k + 1) f fd ps (spGL sp) := by
  obtain ⟨oc, od, kV, doc, pm, an, cdv, ct, osl, rfl, lk, hcd⟩ := D.fn.ex
  have hbd2 := D.bd
  rw [hbd] at lk hbd2
  rw [hbd]
  refine L2.gfn_of lk hcd S (fun vs H c E ⟨G, ds, Q, _, hr, hs, _⟩ => by rw [hr.len]; exact hlen ds Q hs) fun A outer s H vs cont E pn hr hsp => ?_
  obtain ⟨d1, d2, de⟩ := hd cdv A outer s H pn hr
  have q1 : PS (L2.gcxOf P w0 K mg base N x (defScope st) f cdv A outer s H E pn) st1 _ := GZ.ps_nox d1.pe
  have q2 : PS (L2.gcxOf P w0 K mg base N x (defScope st) f cdv A outer s H E pn) st2 _ := GZ.ps_nox d2.pe
  have q3 : PE (L2.gcxOf P w0 K mg base N x (defScope st) f cdv A outer s H E pn) e _ := PE.nox de.pe
  refine ⟨_, L2.gss_cons (L2.gs_ps q1) (L2.gss_cons (L2.gs_ps q2) (L2.gss_cons (L2.gs_yieldFrom (GZ.yf_lst q3) hr.hd (by show interactive (PyProof.Rows.envOfC x (defScope st) s.heap.objs.size f cdv) = false; simp [interactive, PyProof.Rows.envOfC, S.kind])) L2.gss_nil)), ?_⟩
  obtain ⟨G, ds, Q, ex, hreps, hs, fin⟩ := hsp
  have ha : ArgsR K G H (ds.map AD.d) vs [] := argsD hreps
  have sr0 : SR (wr0 G H []) G H [] [] := by
    have q := start_sr ex List.nodup_nil (fun a ha => by cases ha) ha
    rw [memD] at q
    exact q
  have er0 : ER K [] G (envStart (ds.map AD.d) n) (L2.start N vs) := start_er ha (by rw [List.length_map]; exact hlen ds Q hs) hn
  refine ⟨wr0 G H [], G, [], [], _, _, ⟨rfl, ⟨fun _ _ _ _ _ _ _ z _ => z, fun z => z.elim⟩, sr0, er0⟩, ⟨?_, fun _ _ _ _ _ _ _ _ _ z => False.elim z, fun _ _ _ _ _ _ _ _ _ z => False.elim z, fun _ _ _ _ _ _ _ _ _ z => False.elim z⟩, hv ds Q hs⟩
  intro σ1 G1 H1 as1 M1 env1 sr1 l1 er1 q1
  refine ⟨wr0 G H [], G1, as1, M1, env1, _, ⟨rfl, ⟨fun _ _ _ _ _ _ _ z _ => z, fun z => z.elim⟩, sr1, er1⟩, ⟨?_, fun _ _ _ _ _ _ _ _ _ z => False.elim z, fun _ _ _ _ _ _ _ _ _ z => False.elim z, fun _ _ _ _ _ _ _ _ _ z => False.elim z⟩, q1⟩
  intro σ2 G2 H2 as2 M2 env2 sr2 l2 er2 q2
  refine ⟨wr0 G H [], G2, as2, M2, env2, _, ⟨rfl, ⟨fun _ _ _ _ _ _ _ z _ => z, fun z => z.elim⟩, sr2, er2⟩, q2, ?_⟩
  intro v G3 H3 as3 M3 s3 sr3 l3 rv q3
  unfold gEnd at q3
  split at q3
  · rename_i kk
    obtain ⟨rows, em, hQ⟩ := q3
    obtain ⟨p, hp, rfl⟩ := rv
    obtain ⟨hg, hb, xs, hx, hrx⟩ := sr3.ms kk p _ hp em
    obtain ⟨z1, z2⟩ := fin rows xs G3 H3 as3 M3 hQ sr3 ((l1.trans l2).trans l3) hrx
    exact ⟨p, xs, rfl, hx, by simpa using z1, z2⟩
  · exact q3.elim
end
def wListG (sp : GSp) (wa : DAW) : DW := fun X env M Q => wa X env M fun ss M1 => ∃ ds : List D, ss = ds.map S.d ∧ sp ds fun rows => rows.length ≤ 16000000 ∧ Q (.d (.lst rows)) M1
section
variable {K : PySem.W.Frag} {E : XK}
theorem okE_listG {sp : GSp} {ta : TA} {wa : DAW} (ha : OkA K E ta wa) : OkE K E (L2.tListG (L2.tCallG (spGL sp) [] (fun _ _ _ => False) ta)) (wListG sp wa) := by
  intro u G H as M env σ Q Qv c h fin
  refine ha u G H as M env σ _ _ c h fun vs G1 H1 as1 M1 ss sr1 l1 rs q1 => ?_
  obtain ⟨ds, rfl, q⟩ := q1
  rw [List.append_nil]
  refine ⟨G1, ds, _, sr1.gh, srsD rs, q, fun rows xs G' H' cs M' ⟨q1, q2⟩ sr' l' hxs => ⟨by rw [hxs.len]; exact Nat.le_of_lt (Nat.lt_of_le_of_lt q1 (by rw [sizeLine_eq]; decide)), fun p hp => ?_⟩⟩
  have nob : ∀ (j i : Nat), ([] : List Nat)[j]? = some i → ∃ a, as1[i]? = some a ∧ ([] : List Addr)[j]? = some a := fun j i e => by simp at e
  have sb0 := sr1.back (is := []) (bs := []) rfl nob List.nodup_nil sr' l'
  have sb := sb0.trim M1.length (by rw [← sr1.len]; obtain ⟨t, et⟩ := sr1.pre; rw [et, List.length_append]; omega)
  have e1 : (as1 ++ cs.drop ([] : List Nat).length).take M1.length = as1 := by rw [← sr1.len]; exact List.take_left
  have e2 : (putAll M1 [] (M'.take ([] : List Nat).length) ++ M'.drop ([] : List Nat).length).take M1.length = M1 := List.take_left
  rw [e1, e2] at sb
  exact (fin.from (l1.trans ⟨l'.ex, [], by simp⟩)).lst sb hxs q2 hp
end
section
variable {X : Cx} {E : XK} {e : Expr} {es : List Expr} {wl : DAW} {k : Nat} {f : Addr} {sp : GSp} {m : Str} {st : Stmt} {ps : List Str} {fd : FuncData} {p p1 p2 pos : Pos}
theorem d_listG (F : L2.GFn X.prog X.w X.K X.mg X.base k f fd ps (spGL sp)) (hr : Room (k + 3) X.A) (D : Def X.K X.mg m st ps f fd) (hml : X.mg "list" = none) (ha : DA X E (e :: es) wl) (hg : Gl X m := by rfl) (hgl : Gl X "list" := by rfl)
    (hdb : (m == ("__debug__" : Str)) = false := by decide) (he : starEach (e :: es) X.env = (false, eval e X.env) :: starEach es X.env := by rfl) (hpl : (backTo p2 (starEach es X.env)).any (·.1) = false := by rfl)
    (hs : starEach [.Call (.Name m p1) (e :: es) [] p2] X.env = (false, eval (.Call (.Name m p1) (e :: es) [] p2) X.env) :: starEach [] X.env := by rfl) :
    DE X E (.Call (.Name "list" p) [.Call (.Name m p1) (e :: es) [] p2] [] pos) (wListG sp wl) :=
  .mk' (L2.pe_listG (L2.pgen_call F (hr.mono (by omega)) hg D.gl D.fn.kp D.bd .nil ha.pe hdb he hpl) (fun _ _ _ _ _ _ _ c => (by obtain ⟨_, _, _, _, _, _, _, _, _, _, _, _, z⟩ := c; exact False.elim z)) (fun _ _ _ z => False.elim z) hr hgl hml bt_list (he := hs)) (okE_listG okAW)
end
end R
/-! Layer R, part 38: the sum of a tuple of ints. -/
namespace ZM
open PySem PySem.Spec PyProof.Rows L2
def rSumT (K : PySem.W.Frag) : List V → Hp → VK → Prop := fun vs H Q => ∃ (a : Addr) (ns : List Int), vs = [V.ref a] ∧ SqT K H a (ns.map V.int) ∧ Q (.int ns.sum) H
end ZM
namespace R
open PySem PySem.Spec PyProof.Rows L2 Evl
theorem cr_sumT {X : Cx} (hc : X.calm = true) : CallR X (.builtin "sum") (ZM.rSumT X.K) := by
  intro pins s σ H vs us Q I r h
  obtain ⟨a, ns, rfl, hs, q⟩ := h
  obtain ⟨its, rv, ht, _⟩ := I.tuple hs
  rw [Vals.ref1 r]
  have hi := rv.ints
  obtain ⟨xs, e⟩ := hi.allInts.items
  have hn : numsOf (intItems xs).toList = ns := by rw [← e]; exact hi.numsOf
  rw [nums_intItems] at hn
  have ht2 : s.heap.IsTuple a (intItems xs) := by rw [← e]; exact ht
  refine PySem.W.ktm_sumG (I.ok.hd hc) ht2 fun h' tk t' hk => ?_
  rw [preSum_eq, List.take_of_length_le (by simp), hn]
  exact ⟨.int _, H, I.kept hk, ⟨_, rfl⟩, q⟩
theorem okC_sumT {K : PySem.W.Frag} : OkC K (ZM.rSumT K) fSumT := by
  intro u G H as M xs ss Q Qv sr rs h fin
  unfold fSumT at h
  split at h
  · rename_i ds
    obtain ⟨ns, rfl, h⟩ := h
    obtain ⟨v, rfl, r⟩ := rs.one
    obtain ⟨p, ys, rfl, hp, hy⟩ := rep_tup.mp r.d
    rw [reps_ints.mp hy] at hp
    exact ⟨p, ns, rfl, SqT.of (sr.gh _ _ hp), fin.here sr (s := .d (.int _)) srp_int h⟩
  · exact h.elim
end R
/-! Layer R, part 39: defs that raise. -/
namespace R
open PySem L2 Evl
abbrev DSpecX := List AD → DK → XC → Prop
def TabsOk (T : List (Addr × Str)) (G H : Hp) (bs : List Addr) : Prop := ∀ p ∈ T, TabG G H p ∧ p.1 ∉ bs
def spX (K : PySem.W.Frag) (T : List (Addr × Str)) (sp : DSpecX) : Sp := fun vs H Qv Ev => ∃ (G : Hp) (ads : List AD) (bs : List Addr) (Q : DK) (X : XC), Ex G H ∧ bs.Nodup ∧ (∀ a ∈ bs, H a ≠ none) ∧ ArgsR K G H ads vs bs ∧ TabsOk T G H bs ∧ sp ads Q X ∧
  (∀ s M' v G' H' cs, Q s M' → SR (wrX T G H bs (fun _ _ _ => False) (fun _ _ => False)) G' H' cs M' → Le G bs G' cs → SRp K cs G' s v → Qv v H') ∧
  ∀ x cls M' G' H' cs, X x M' → PySem.W.nsIn K mainGlobals x = some (some cls) → SR (wrX T G H bs (fun _ _ _ => False) (fun _ _ => False)) G' H' cs M' → Le G bs G' cs → Ev cls none H'
/-- what is raised by a def: its own new objects are forgotten -/
def xEnds (t : Bool) (k : Nat) (X : XC) : XC := fun x M => if x = "<tables>" then t = true else X x (M.take k)
def tabsB (K : PySem.W.Frag) (t : Bool) : List (Addr × Str) := if t = true then tabsK K else []
theorem fin_bodyX {K : PySem.W.Frag} {b : Bool} {G H : Hp} {ads : List AD} {vs : List V} {bs : List Addr} {Q : DK} {X : XC} {Qv : VK} {Ev : XK} {N ps : List Str} {n : Nat} {w : DSw} {t : TS} (ok : OkS K Ev t w)
    (hl : ads.length = ps.length) (hn : N.length = ps.length + n) (e : Ex G H) (nd : bs.Nodup) (th : ∀ a ∈ bs, H a ≠ none) (h : ArgsR K G H ads vs bs) (tb : TabsOk (tabsB K b) G H bs) (hw : w (xEnds b (adsMem ads).length X) (dEnds (adsMem ads).length Q) (envStart ads n) (adsMem ads))
    (q : ∀ s M' v G' H' cs, Q s M' → SR (wrX (tabsB K b) G H bs (fun _ _ _ => False) (fun _ _ => False)) G' H' cs M' → Le G bs G' cs → SRp K cs G' s v → Qv v H')
    (qx : ∀ x cls M' G' H' cs, X x M' → PySem.W.nsIn K mainGlobals x = some (some cls) → SR (wrX (tabsB K b) G H bs (fun _ _ _ => False) (fun _ _ => False)) G' H' cs M' → Le G bs G' cs → Ev cls none H')
    (nt : PySem.W.nsIn K mainGlobals "<tables>" = some none) : t { nx := fun _ H' => Qv .non H', rt := Qv } (L2.start N vs) H := by
  have hb : bs.length = (adsMem ads).length := h.len.2
  have cut : ∀ {G' H' : Hp} {as' : List Addr} {M' : Mem}, SR (wrX (tabsB K b) G H bs Ev (xEnds b (adsMem ads).length X)) G' H' as' M' → Le G bs G' as' → SR (wrX (tabsB K b) G H bs (fun _ _ _ => False) (fun _ _ => False)) G' H' (as'.take (adsMem ads).length) (M'.take (adsMem ads).length) ∧ Le G bs G' (as'.take (adsMem ads).length) := by
    intro G' H' as' M' sr l
    have sr2 := sr.trim (adsMem ads).length (Nat.le_of_eq hb)
    refine ⟨sr2.reX, l.ex, ?_⟩
    obtain ⟨t, rfl⟩ := l.pre
    exact ⟨[], by rw [← hb]; simp⟩
  have leOf : ∀ {G' H' : Hp} {as' : List Addr} {M' : Mem}, SR (wrX (tabsB K b) G H bs Ev (xEnds b (adsMem ads).length X)) G' H' as' M' → Le G bs G' as' := fun sr => ⟨sr.g0, sr.pre⟩
  have trim : ∀ {G' H' : Hp} {as' : List Addr} {M' : Mem} {d : D} {v : V}, SR (wrX (tabsB K b) G H bs Ev (xEnds b (adsMem ads).length X)) G' H' as' M' → Le G bs G' as' → Rep G' d v → Q (.d d) (M'.take (adsMem ads).length) → Qv v H' := by
    intro G' H' as' M' d v sr l r z
    obtain ⟨s2, l2⟩ := cut sr l
    exact q _ _ v G' H' _ z s2 l2 r
  refine ok (wrX (tabsB K b) G H bs Ev (xEnds b (adsMem ads).length X)) G H bs (adsMem ads) (envStart ads n) (L2.start N vs) (dEnds (adsMem ads).length Q) _ ⟨rfl, ⟨?_, ?_⟩, start_srX e nd th h tb, start_er h hl hn⟩ ⟨?_, ?_, fun _ _ _ _ _ _ _ _ _ z => z, fun _ _ _ _ _ _ _ _ _ z => z⟩ hw
  · intro x cls G' H' as' M' sr hx hns
    have hx : (if x = "<tables>" then b = true else X x (M'.take (adsMem ads).length)) := hx
    by_cases hxt : x = "<tables>"
    · rw [hxt, nt] at hns; cases hns
    · rw [if_neg hxt] at hx
      obtain ⟨s2, l2⟩ := cut sr (leOf sr)
      exact qx x cls _ G' H' _ hx hns s2 l2
  · intro z
    have z : (if ("<tables>" : Str) = "<tables>" then b = true else X "<tables>" (([] : Mem).take (adsMem ads).length)) := z
    rw [if_pos rfl] at z
    show tabsB K b = tabsK K
    unfold tabsB
    rw [if_pos z]
  · intro σ' G' H' as' M' env' sr l er z
    exact trim sr l (rep_non.mpr rfl) z
  · intro v G' H' as' M' s sr l r z
    cases s with
    | d d => exact trim sr l r.d z
    | m k => exact q _ _ v G' H' as' z sr.reX l r
    | ml k => exact q _ _ v G' H' as' z sr.reX l r
    | scr ns => exact z.elim
    | dic ns => exact z.elim
    | v ns => exact z.elim
    | acc k => exact q _ _ v G' H' as' z sr.reX l r
abbrev KeepsX (w : DSw) (t : Bool) (n : Nat) (sp : DSpecX) : Prop := ∀ ads Q X, sp ads Q X → w (xEnds t (adsMem ads).length X) (dEnds (adsMem ads).length Q) (envStart ads n) (adsMem ads)
section
variable {P : Program} {w0 : World} {K : PySem.W.Frag} {mg : Str → Option Value} {base : Heap}
/-- a def that may raise -/
theorem fn_okX {x qual : Str} {st : Stmt} {f : Addr} {fd : FuncData} {N ps : List Str} {k n : Nat} {t : Bool} {sp : DSpecX} {w : DSw} (F : Fun K x qual st f fd) (S : FnScope N ps (defScope st)) (hn : N.length = ps.length + n) (hlen : ∀ ads Q X, sp ads Q X → ads.length = ps.length)
    (nt : PySem.W.nsIn K mainGlobals "<tables>" = some none)
    (hd : ∀ (cdv : Value) (A : Around) (outer : List PySem.Env) (s : Shared) (H : Hp) (E : XK), Room k (A.deeper (PyProof.Rows.envOfC qual (defScope st) s.heap.objs.size f cdv)) → DSs (cxOf (L2N.CX P w0) P w0 K mg base N qual (defScope st) f cdv A outer s H E) E (defBody st) w)
    (hw : KeepsX w t n sp) : FnOk P w0 K mg base (L2N.CX P w0) (k + 1) f fd ps (spX K (tabsB K t) sp) := by
  have lenK : ∀ vs H Q E, spX K (tabsB K t) sp vs H Q E → vs.length = ps.length := fun vs H Q E ⟨G, ads, bs, Qd, X, e, nd, th, h, tb, hs, _⟩ => by rw [h.len.1]; exact hlen ads Qd X hs
  obtain ⟨oc, od, kV, doc, pm, an, cdv, ct, osl, rfl, lk, hcd⟩ := F.ex
  refine fn_of lk hcd S lenK fun A outer s H vs Q E hr hs => ?_
  obtain ⟨G, ads, bs, Qd, X, e, nd, th, h, tb, hs, q, qx⟩ := hs
  exact ⟨_, (hd cdv A outer s H E hr).pe, fin_bodyX okSW (hlen ads Qd X hs) hn e nd th h tb (hw ads Qd X hs) q qx nt⟩
theorem fn_defX {x qual : Str} {st : Stmt} {f : Addr} {fd : FuncData} {N ps : List Str} {k n : Nat} {t : Bool} {sp : DSpecX} {w : DSw} (F : Fun K x qual st f fd) (S : FnScope N ps (defScope st)) (hb : Binds K fd ps []) (hn : N.length = ps.length + n) (hlen : ∀ ads Q X, sp ads Q X → ads.length = ps.length)
    (nt : PySem.W.nsIn K mainGlobals "<tables>" = some none)
    (hd : ∀ (cdv : Value) (A : Around) (outer : List PySem.Env) (s : Shared) (H : Hp) (E : XK), Room k (A.deeper (PyProof.Rows.envOfC qual (defScope st) s.heap.objs.size f cdv)) → DSs (cxOf (L2N.CX P w0) P w0 K mg base N qual (defScope st) f cdv A outer s H E) E (defBody st) w)
    (hw : KeepsX w t n sp) : FnR P w0 K mg base (L2N.CX P w0) (k + 1) f (spX K (tabsB K t) sp) := by
  refine ((fn_okX F S hn hlen nt hd hw).raw hb .nil).imp fun vs H Q E h => ?_
  rw [List.append_nil]
  exact h
end
theorem xEnds_of {t : Bool} {k : Nat} {X : XC} {x : Str} {M : Mem} (hx : x ≠ "<tables>") (h : X x (M.take k)) : xEnds t k X x M := by
  show (if x = "<tables>" then t = true else X x (M.take k))
  rw [if_neg hx]; exact h
theorem xEnds_t {k : Nat} {X : XC} {M : Mem} : xEnds true k X "<tables>" M := by
  show (if ("<tables>" : Str) = "<tables>" then true = true else X "<tables>" (M.take k))
  rw [if_pos rfl]
/-! ### calls of such defs -/
def backM (M : Mem) (is : List Nat) (M' : Mem) : Mem := putAll M is (M'.take is.length) ++ M'.drop is.length
def callK (t : Bool) (sp : DSpecX) (X : XC) (ss : List S) (M : Mem) (Q : DK) : Prop := (t = true → X "<tables>" []) ∧ match toAds ss M with
  | some (ads, is) => is.Nodup ∧ sp ads (fun s M' => Q (reS M.length is s) (backM M is M')) fun x M' => X x (backM M is M')
  | none => False
def wCallX (t : Bool) (sp : DSpecX) (wa : DAW) : DW := fun X env M Q => wa X env M fun ss M1 => callK t sp X ss M1 Q
section
variable {K : PySem.W.Frag} {E : XK}
theorem callK_ok {t : Bool} {sp : DSpecX} {u : Wr} {G H : Hp} {as : List Addr} {M : Mem} {env : Env} {σ : L2.St} {ss : List S} {vs : List V} {Q : DK} {Qv : VK} (c : CS K E u G H as M env σ) (rs : SRs K as G ss vs) (q1 : callK t sp u.XQ ss M Q) (fin : Fin K u G as Q Qv) : spX K (tabsB K t) sp vs H Qv E := by
  obtain ⟨ht, q1⟩ := q1
  have eT : tabsB K t = [] ∨ tabsB K t = u.T := by
    cases t with
    | false => exact .inl rfl
    | true => exact .inr (c.xok.2 (ht rfl)).symm
  revert q1
  split
  · rename_i ads is e
    rintro ⟨nd, hsp⟩
    have sr1 := c.sr
    obtain ⟨bs, hargs, hl, hb⟩ := toAds_args sr1 e rs
    have ndb : bs.Nodup := by
      rw [List.Nodup, List.pairwise_iff_getElem]
      intro i j hi hj hij e2
      obtain ⟨a1, h1, h2⟩ := hb i is[i] (List.getElem?_eq_getElem (by omega))
      obtain ⟨a2, h3, h4⟩ := hb j is[j] (List.getElem?_eq_getElem (by omega))
      rw [List.getElem?_eq_getElem hi, e2] at h2
      rw [List.getElem?_eq_getElem hj] at h4
      cases h2
      cases h4
      have e3 := sr1.inj h1 h3
      have e4 := (List.getElem_inj nd).mp e3
      omega
    have inb : ∀ a ∈ bs, a ∈ as := fun a ha => by
      obtain ⟨j, hj, e2⟩ := List.getElem_of_mem ha
      obtain ⟨b, h1, h2⟩ := hb j is[j] (List.getElem?_eq_getElem (by omega))
      rw [List.getElem?_eq_getElem hj, e2] at h2
      cases h2
      exact sr1.mem h1
    have tb : TabsOk (tabsB K t) G H bs := fun p hp => by
      rcases eT with z | z
      · rw [z] at hp; cases hp
      · rw [z] at hp
        exact ⟨(sr1.tb p hp).1, fun y => (sr1.tb p hp).2.1 (inb _ y)⟩
    refine ⟨G, ads, bs, _, _, sr1.gh, ndb, fun a ha => sr1.there a (inb a ha), hargs, tb, hsp, fun s M' v G' H' cs q sr' l rv => ?_, fun x cls M' G' H' cs q hn sr' l => ?_⟩
    · have rb := rv.back (as := as) hl hb l
      rw [sr1.len] at rb
      exact fin v G' H' _ _ _ (sr1.backX hl hb nd sr' l eT) ⟨l.ex, _, rfl⟩ rb q
    · have z := c.xok.1 x cls G' H' _ _ (sr1.backX hl hb nd sr' l eT) q hn
      rw [c.eE] at z
      exact z
  · exact False.elim
theorem okE_callX {t : Bool} {sp : DSpecX} {ta : TA} {wa : DAW} (ha : OkA K E ta wa) : OkE K E (fun σ H Q => ta σ H fun vs H1 => spX K (tabsB K t) sp vs H1 Q E) (wCallX t sp wa) := by
  intro u G H as M env σ Q Qv c h fin
  refine ha u G H as M env σ _ _ c h fun vs G1 H1 as1 M1 ss sr1 l1 rs q1 => ?_
  exact callK_ok (c.step sr1 l1) rs q1 (fin.from l1)
end
section
variable {X : Cx} {E : XK} {x : Str} {e : Expr} {es : List Expr} {wl : DAW} {p pos : Pos}
theorem passN (tk : L2N.Takes X fun cls d _ H => E cls d H) : Passes (L2N.CX X.prog X.w) X E := L2N.passes_call tk fun _ _ _ _ h => h
theorem d_callX {k : Nat} {f : Addr} {t : Bool} {sp : DSpecX} (F : FnR X.prog X.w X.K X.mg X.base (L2N.CX X.prog X.w) k f (spX X.K (tabsB X.K t) sp)) (tk : Passes (L2N.CX X.prog X.w) X E) (hr : Room k X.A) (hk : PySem.W.keepIn X.K (.ref f) = true) (hm : X.mg x = some (.ref f)) (ha : DA X E (e :: es) wl) (hg : Gl X x := by rfl)
    (hd : (x == ("__debug__" : Str)) = false := by decide) (he : starEach (e :: es) X.env = (false, eval e X.env) :: starEach es X.env := by rfl) (hpl : (backTo pos (starEach es X.env)).any (·.1) = false := by rfl) : DE X E (.Call (.Name x p) (e :: es) [] pos) (wCallX t sp wl) :=
  .mk' (pe_callR F hr hk hg hm tk ha.pe hd he hpl) (okE_callX okAW)
end
/-! ### raise -/
/-- an own exception class of the top -/
structure ExcD (K : PySem.W.Frag) (mg : Str → Option Value) (x : Str) (C : Addr) (bm : List Value) (nw : String) : Prop where
  q : PySem.W.excIn K C bm nw = true
  gl : mg x = some (.ref C)
  ns : PySem.W.nsIn K mainGlobals x = some (some (.ref C))
  kp : PySem.W.keepIn K (.ref C) = true
  sb : PySem.W.subIn K (.ref C) (.type "BaseException") = some true
  ty : PySem.W.typeIn K (.ref C) = some (.type "type")
abbrev ExcV (K : PySem.W.Frag) (mg : Str → Option Value) (x : Str) (C : Addr) : Prop := ExcD K mg x C [.type "ValueError", .type "Exception", .type "BaseException", .type "object"] "ValueError.__new__"
def wRaise (x : Str) : DSw := fun X _ _ M => X x M
theorem s_raise {X : Cx} {E : XK} {x m : Str} {C : Addr} {j : Nat} {p p2 pos pos' : Pos} (T : ExcV X.K X.mg x C) (tk : L2N.Takes X fun cls d _ H => E cls d H) (hc : X.calm = true := by rfl) (hg : Gl X x := by rfl) (hdb : (x == ("__debug__" : Str)) = false := by decide) :
    DS X E (.Raise (some (.Call (.Name x p) [.Constant (.str m) j p2] [] pos)) none pos') (wRaise x) :=
  .mk' (L2N.ps_raise hc tk (L2N.pmk_own PySem.F.excBase_ValueError T.q T.gl T.kp (raises_own T.sb T.ty) hg hdb)) (by
    intro u G H as M env σ Dn Dv c e h
    have z := c.xok.1 x (.ref C) G H as M c.sr h T.ns
    rw [c.eE] at z
    exact z)
end R
/-! Layer R, part 40: accounts: a frozen instance whose list of states is a mutable object. -/
namespace R
open PySem L2 Evl
/-- the class of the top -/
structure AccT (K : PySem.W.Frag) (mg : Str → Option Value) (C : Addr) : Prop where
  cl : Cls K C
  nS : NoAttr K C "states"
  gl : mg "Account" = some (.ref C)
  ns : PySem.W.nsIn K mainGlobals "Account" = some (some (.ref C))
theorem AccT.one {K : PySem.W.Frag} {mg : Str → Option Value} {C C' : Addr} (T : AccT K mg C) (h : PySem.W.nsIn K mainGlobals "Account" = some (some (.ref C'))) : C' = C := by
  have e := h.symm.trans T.ns
  cases e
  rfl
def wStates (w : DW) : DW := fun X env M Q => w X env M fun s M1 => match s with
  | .acc j => Q (.m j) M1
  | _ => False
section
variable {X : Cx} {E : XK} {C : Addr} {e : Expr} {we : DW} {pos : Pos}
theorem d_states (T : AccT X.K X.mg C) (he : DE X E e we) (hb : attributeBase e "states" X.env (eval e X.env) = eval e X.env := by rfl) : DE X E (.Attribute e "states" pos) (wStates we) :=
  .mk' (pe_fld he.pe hb) (by
    intro u G H as M env σ Q Qv c h fin
    refine ⟨u, G, as, M, env, _, c, h, fun v G1 H1 as1 M1 s sr1 l1 r q => ?_⟩
    split at q
    · rename_i j
      obtain ⟨C', a, dx, l, hC, rfl, hG, hl⟩ := r
      have e1 := T.one hC
      subst e1
      exact ⟨a, C', dx, _, .ref l, rfl, sr1.gh _ _ hG, T.cl, T.nS, rfl, (fin.from l1).here sr1 (s := .m j) ⟨l, hl, rfl⟩ q⟩
    · exact q.elim)
/-- a constant of the class -/
def wCon (d : D) (w : DW) : DW := fun X env M Q => w X env M fun s M1 => match s with
  | .acc _ => Q (.d d) M1
  | _ => False
theorem d_most {u0 : Value} {n : Int} (T : AccT X.K X.mg C) (k : Con X.K C "MOST" (.int n) u0) (he : DE X E e we) (hb : attributeBase e "MOST" X.env (eval e X.env) = eval e X.env := by rfl) : DE X E (.Attribute e "MOST" pos) (wCon (.int n) we) :=
  .mk' (pe_con he.pe hb) (by
    intro u G H as M env σ Q Qv c h fin
    refine ⟨u, G, as, M, env, _, c, h, fun v G1 H1 as1 M1 s sr1 l1 r q => ?_⟩
    split at q
    · rename_i j
      obtain ⟨C', a, dx, l, hC, rfl, hG, hl⟩ := r
      have e1 := T.one hC
      subst e1
      exact ⟨a, C', dx, _, .int n, u0, rfl, sr1.gh _ _ hG, T.cl, k, rfl, (fin.from l1).here sr1 (s := .d (.int n)) srp_int q⟩
    · exact q.elim)
end
/-! ### the list of states -/
def fLenX : DFC
  | [.m k], M, Q => match M[k]? with
    | some (.ext ds) => Q (.d (.int (ds.length : Int))) M
    | _ => False
  | _, _, _ => False
def wAppX (wo we : DW) : DW := fun X env M Q => wo X env M fun o M1 => match o with
  | .m k => (match M1[k]? with
    | some (.ext _) => we X env M1 fun s M2 => (match s with
      | .d d => (match M2[k]? with
        | some (.ext ds) => ds.length < 16000000 ∧ Q (.d .non) (M2.set k (.ext (ds ++ [d])))
        | _ => False)
      | _ => False)
    | _ => False)
  | _ => False
def wPopX (wo : DW) : DW := fun X env M Q => wo X env M fun o M1 => match o with
  | .m k => (match M1[k]? with
    | some (.ext ds) => atQ ds[ds.length - 1]? fun d => Q (.d d) (M1.set k (.ext ds.dropLast))
    | _ => False)
  | _ => False
theorem reps_dropLast {G : Hp} {ds : List D} {xs : List V} (h : Reps G ds xs) : Reps G ds.dropLast xs.dropLast := by
  rw [List.dropLast_eq_take, List.dropLast_eq_take, h.len]
  exact h.take _
section
variable {K : PySem.W.Frag} {E : XK}
theorem okC_lenX : OkC K (rLenD K) fLenX := by
  intro u G H as M xs ss Q Qv sr rs h fin
  unfold fLenX at h
  split at h
  · rename_i k
    obtain ⟨v, rfl, p, hp, rfl⟩ := rs.one
    split at h
    · rename_i ds e
      obtain ⟨_, ys, hy, hr⟩ := sr.ms k p _ hp e
      exact ⟨p, ys, rfl, .inl (SqL.of hy), by rw [hr.len]; exact fin.here sr (s := .d (.int _)) srp_int h⟩
    · exact h.elim
  · exact h.elim
theorem okE_appX {to te : TE} {wo we : DW} (ho : OkE K E to wo) (he : OkE K E te we) : OkE K E (tBM K "list" rAppend to (tCons te tNil)) (wAppX wo we) := by
  intro u G H as M env σ Q Qv c h fin
  refine ho u G H as M env σ _ _ c h fun ov G1 H1 as1 M1 so sr1 l1 ro q1 => ?_
  split at q1
  · rename_i k
    split at q1
    · rename_i ds0 e0
      obtain ⟨p, hp, rfl⟩ := ro
      obtain ⟨_, xs0, hx0, _⟩ := sr1.ms k p _ hp e0
      refine ⟨.inl ⟨rfl, _, SqL.of hx0⟩, ?_⟩
      refine he u G1 H1 as1 M1 env σ _ _ (c.step sr1 l1) q1 fun v G2 H2 as2 M2 s sr2 l2 r q2 => ?_
      split at q2
      · rename_i d
        split at q2
        · rename_i ds e
          have hp2 := l2.get hp
          obtain ⟨hg, xs, hx, hr⟩ := sr2.ms k p _ hp2 e
          refine ⟨p, xs, v, rfl, rfl, hx, by rw [hr.len]; exact Nat.lt_of_lt_of_le q2.1 line16, ?_⟩
          exact fin .non G2 _ as2 _ (.d .non) (sr2.write (mo := .ext (ds ++ [d])) hp2 hg ⟨hg, _, upd_same, hr.append (reps_one r.d)⟩) (l1.trans l2) srp_non q2.2
        · exact q2.elim
      · exact q2.elim
    · exact q1.elim
  · exact q1.elim
theorem okE_popX {to : TE} {wo : DW} (ho : OkE K E to wo) : OkE K E (tBM0 K "list" rPop to) (wPopX wo) := by
  intro u G H as M env σ Q Qv c h fin
  refine ho u G H as M env σ _ _ c h fun ov G1 H1 as1 M1 so sr1 l1 ro q1 => ?_
  split at q1
  · rename_i k
    split at q1
    · rename_i ds e0
      obtain ⟨p, hp, rfl⟩ := ro
      obtain ⟨hg, xs, hx, hr⟩ := sr1.ms k p _ hp e0
      obtain ⟨d, ed, q1⟩ := atQ_get q1
      obtain ⟨y, hy, ry⟩ := hr.get ed
      refine ⟨.inl ⟨rfl, _, SqL.of hx⟩, p, xs, y, rfl, rfl, hx, by rw [hr.len]; exact hy, ?_⟩
      exact fin y G1 _ as1 _ (.d d) (sr1.write (mo := .ext ds.dropLast) hp hg ⟨hg, _, upd_same, reps_dropLast hr⟩) l1 ry q1
    · exact q1.elim
  · exact q1.elim
end
section
variable {X : Cx} {E : XK} {C : Addr} {a e : Expr} {wa we : DW} {p apos cpos pos : Pos}
theorem d_appX (ho : DE X E a wa) (he : DE X E e we) (hbase : attributeBase a "append" X.env (eval a X.env) = eval a X.env := by rfl)
    (hfew : ((backTo cpos (starEach [e] X.env)).all (fun x => !x.1) && (backToKw cpos (keywordEach [] X.env)).all (fun x => x.1.isSome)
      && decide ([e].length + ([] : List Keyword).length + (if ([] : List Keyword).isEmpty then 0 else 1) < 30)) = true := by rfl)
    (hline : (apos.endLine == cpos.line) = true := by rfl) (hs : starEach [e] X.env = (false, eval e X.env) :: starEach [] X.env := by rfl) (hplain : (backTo cpos (starEach [] X.env)).any (·.1) = false := by rfl) :
    DE X E (.Call (.Attribute a "append" apos) [e] [] cpos) (wAppX wa we) :=
  .mk' (pe_bm PySem.F.plainAttrs_list PySem.F.slot_list_append PySem.F.type_list_append mt_append ho.pe (pa_cons he.pe pa_nil hs) hbase hfew hline hs hplain) (okE_appX okW okW)
theorem d_popX (ho : DE X E a wa) (hbase : attributeBase a "pop" X.env (eval a X.env) = eval a X.env := by rfl) (hline : (apos.endLine == cpos.line) = true := by rfl) :
    DE X E (.Call (.Attribute a "pop" apos) [] [] cpos) (wPopX wa) := .mk' (pe_bm0 PySem.F.plainAttrs_list PySem.F.slot_list_pop PySem.F.type_list_pop mt_pop ho.pe hbase hline) (okE_popX okW)
end
/-! ### methods -/
/-- a method of the class -/
structure MetD (K : PySem.W.Frag) (C : Addr) (m q : Str) (st : Stmt) (f : Addr) (fd : FuncData) : Prop where
  fn : Fun K m q st f fd
  mt : Meth K C m f
def wMethX (t : Bool) (sp : DSpecX) (wo : DW) (wa : DAW) : DW := fun X env M Q => wo X env M fun s M1 => match s with
  | .acc j => wa X env M1 fun ss M2 => callK t sp X (.acc j :: ss) M2 Q
  | _ => False
theorem pe_methR0 {X : Cx} {CX : CXT} {k : Nat} {C f : Addr} {m : Str} {sp : Sp} {E : XK} {o : Expr} {ta : TE} {apos pos : Pos} {pl : Sem Bool} (he : PE X o ta) (c : Cls X.K C) (hm : Meth X.K C m f)
    (F : FnR X.prog X.w X.K X.mg X.base CX k f sp) (hr : Room k X.A) (hx : Passes CX X E)
    (ht : eval (.Call (.Attribute o m apos) [] [] pos) X.env = (do
      let ov ← eval o X.env
      standAt apos.atName
      let (f, first) ← holding [ov] (getMethod ov m pl)
      callWith pos f first (backTo pos (starEach [] X.env)) (backToKw pos (keywordEach [] X.env))) := by rfl) :
    PE X (.Call (.Attribute o m apos) [] [] pos) (fun σ H Q => ta σ H fun x H1 => ∃ a dx fs, x = .ref a ∧ H1 a = some (.ins C dx fs) ∧ fs.lookup m = none ∧ sp [x] H1 Q E) := by
  refine ⟨fun pins s σ H Q I h => PySem.W.methodCall_KW (pl := pl) (thn (he.run pins s σ H _ I h) fun u s1 ⟨x, H1, I1, rx, a, dx, fs, ex, ea, l, q⟩ => ?_) ht⟩
  subst ex
  have eu : u = Value.ref a := rx
  subst eu
  exact getmeth_ok I1 ea c hm l (PySem.W.callWith_K0 (first := [.ref a]) I1.kIn hm.kp (wpAny_call (run_fnR (us := [.ref a]) (vs := [.ref a]) F hr hx I1 (.cons rfl .nil) q)))
section
variable {X : Cx} {E : XK} {C f : Addr} {t : Bool} {sp : DSpecX} {k : Nat} {o e : Expr} {es : List Expr} {wo : DW} {wl : DAW} {m : Str} {apos pos : Pos} {pl : Sem Bool}
theorem d_methX (T : AccT X.K X.mg C) (F : FnR X.prog X.w X.K X.mg X.base (L2N.CX X.prog X.w) k f (spX X.K (tabsB X.K t) sp)) (hm : Meth X.K C m f) (tk : Passes (L2N.CX X.prog X.w) X E) (hr : Room k X.A) (ho : DE X E o wo) (ha : DA X E (e :: es) wl) (hl : ([("states", V.non)] : List (Str × V)).lookup m = none := by rfl)
    (hst : starEach (e :: es) X.env = (false, eval e X.env) :: starEach es X.env := by rfl) (hpl : (backTo pos (starEach es X.env)).any (·.1) = false := by rfl)
    (ht : eval (.Call (.Attribute o m apos) (e :: es) [] pos) X.env = (do
      let ov ← eval o X.env
      standAt apos.atName
      let (f, first) ← holding [ov] (getMethod ov m pl)
      callWith pos f first (backTo pos (starEach (e :: es) X.env)) (backToKw pos (keywordEach [] X.env))) := by rfl) :
    DE X E (.Call (.Attribute o m apos) (e :: es) [] pos) (wMethX t sp wo wl) :=
  .mk' (pe_methR ho.pe T.cl hm F hr tk ha.pe hst hpl ht) (by
    intro u G H as M env σ Q Qv c h fin
    refine ⟨u, G, as, M, env, _, c, h, fun v G1 H1 as1 M1 s sr1 l1 r q => ?_⟩
    split at q
    · rename_i j
      obtain ⟨C', a, dx, l, hC, rfl, hG, hl1⟩ := id r
      have e1 := T.one hC
      subst e1
      refine ⟨a, dx, _, rfl, sr1.gh _ _ hG, ?_, u, G1, as1, M1, env, _, c.step sr1 l1, q, fun vs G2 H2 as2 M2 ss sr2 l2 rs q2 => ?_⟩
      · revert hl
        simp only [List.lookup]
        cases (m == "states") <;> simp
      · exact callK_ok (c.step sr2 (l1.trans l2)) (.cons (r.mono l2) rs) q2 (fin.from (l1.trans l2))
    · exact q.elim)
theorem d_methX0 (T : AccT X.K X.mg C) (F : FnR X.prog X.w X.K X.mg X.base (L2N.CX X.prog X.w) k f (spX X.K (tabsB X.K t) sp)) (hm : Meth X.K C m f) (tk : Passes (L2N.CX X.prog X.w) X E) (hr : Room k X.A) (ho : DE X E o wo) (hl : ([("states", V.non)] : List (Str × V)).lookup m = none := by rfl)
    (ht : eval (.Call (.Attribute o m apos) [] [] pos) X.env = (do
      let ov ← eval o X.env
      standAt apos.atName
      let (f, first) ← holding [ov] (getMethod ov m pl)
      callWith pos f first (backTo pos (starEach [] X.env)) (backToKw pos (keywordEach [] X.env))) := by rfl) :
    DE X E (.Call (.Attribute o m apos) [] [] pos) (wMethX t sp wo wNil) :=
  .mk' (pe_methR0 ho.pe T.cl hm F hr tk ht) (by
    intro u G H as M env σ Q Qv c h fin
    refine ⟨u, G, as, M, env, _, c, h, fun v G1 H1 as1 M1 s sr1 l1 r q => ?_⟩
    split at q
    · rename_i j
      obtain ⟨C', a, dx, l, hC, rfl, hG, hl1⟩ := id r
      have e1 := T.one hC
      subst e1
      refine ⟨a, dx, _, rfl, sr1.gh _ _ hG, ?_, callK_ok (c.step sr1 l1) (.cons r .nil) q (fin.from l1)⟩
      revert hl
      simp only [List.lookup]
      cases (m == "states") <;> simp
    · exact q.elim)
end
end R
/-! Layer R, part 41: accounts are made; properties, lengths; star parameters of defs that raise. -/
namespace R
open PySem L2 Evl
/-- the same of other wishes -/
def Wr.wish (u : Wr) (E : XK) (X : XC) : Wr := { u with E := E, XQ := X }
section
variable {u : Wr} {G H : Hp} {as : List Addr} {M : Mem}
theorem SR.wish (sr : SR u G H as M) (E : XK) (X : XC) : SR (u.wish E X) G H as M :=
  ⟨sr.gh, sr.g0, sr.nd, sr.len, fun k a o h1 h2 => (by have z := sr.ms k a o h1 h2; cases o <;> exact z), sr.there, sr.fr, sr.th, sr.nf, sr.wr, sr.pre, sr.hd, sr.tb⟩
theorem SR.unwish {E : XK} {X : XC} (sr : SR (u.wish E X) G H as M) : SR u G H as M :=
  ⟨sr.gh, sr.g0, sr.nd, sr.len, fun k a o h1 h2 => (by have z := sr.ms k a o h1 h2; cases o <;> exact z), sr.there, sr.fr, sr.th, sr.nf, sr.wr, sr.pre, sr.hd, sr.tb⟩
theorem SR.hnone (sr : SR u G H as M) {p : Addr} (hp : H p = none) : u.hid p = none := by
  cases q : u.hid p with
  | none => rfl
  | some o => have := (sr.hd p o q).1; rw [hp] at this; cases this
/-- from here on, with other wishes -/
def Wr.here (u : Wr) (G : Hp) (as : List Addr) (E : XK) (X : XC) : Wr := { u with E := E, XQ := X, G0 := G, as0 := as }
theorem SR.inn (sr : SR u G H as M) (E : XK) (X : XC) : SR (u.here G as E X) G H as M :=
  ⟨sr.gh, Ex.refl G, sr.nd, sr.len, fun k a o h1 h2 => (by have z := sr.ms k a o h1 h2; cases o <;> exact z), sr.there, sr.fr, sr.th, fun _ _ h => h, sr.wr, ⟨[], by show as = as ++ []; simp⟩, sr.hd, sr.tb⟩
theorem SR.out (sr : SR u G H as M) {E : XK} {X : XC} {G' H' : Hp} {as' : List Addr} {M' : Mem} (s1 : SR (u.here G as E X) G' H' as' M') : SR u G' H' as' M' ∧ Le G as G' as' := by
  refine ⟨⟨s1.gh, sr.g0.trans s1.g0, s1.nd, s1.len, fun k a o h1 h2 => (by have z := s1.ms k a o h1 h2; cases o <;> exact z), s1.there, s1.fr, s1.th, fun a h1 h2 => s1.nf a h1 (sr.nf a h1 h2), s1.wr, ?_, s1.hd, s1.tb⟩, s1.g0, s1.pre⟩
  obtain ⟨t0, e0⟩ := sr.pre
  obtain ⟨t, e⟩ := s1.pre
  exact ⟨t0 ++ t, by rw [e]; show as ++ t = _; rw [e0, List.append_assoc]⟩
/-- a new object that nobody looks at -/
theorem SR.aside (sr : SR u G H as M) {p : Addr} {o : HO} (hp : H p = none) : SR u G (upd H p o) as M :=
  sr.other (sr.gnone hp) (fun z => sr.there p z hp) (sr.bnone hp) (sr.hnone hp) (by rw [hp]; intro _ z; cases z)
end
def st0 (d : D) : D := .tup [d, .tup [], .int 0, .int 0, .int 0]
/-- what __init__ does: d the plan -/
def spInit (K : PySem.W.Frag) : Sp := fun vs H Qv Ev => ∃ (u : Wr) (G : Hp) (as : List Addr) (M : Mem) (C a dx : Addr) (d : D) (v : V), vs = [.ref a, v] ∧ SR u G H as M ∧ H a = some (.ins C dx []) ∧ PySem.W.nsIn K mainGlobals "Account" = some (some (.ref C)) ∧
  G a = none ∧ a ∉ as ∧ u.B a = none ∧ u.hid a = none ∧ Rep G d v ∧
  (isPlanD d = true → ∀ G' H' l, SR u G' H' (as ++ [l]) (M ++ [.ext [st0 d]]) → Le G as G' (as ++ [l]) → G' a = some (.ins C dx [("states", .ref l)]) → Qv .non H') ∧
  (isPlanD d = false → ∀ cls G' H', PySem.W.nsIn K mainGlobals "InvalidPlan" = some (some cls) → SR u G' H' as M → Le G as G' as → Ev cls none H')
/-- any value: a plan, or InvalidPlan -/
def sx_check_plan : DSpecX := fun ads Q X => ∃ d, ads = [.d d] ∧ (isPlanD d = true → Q (.d .non) []) ∧ (isPlanD d = false → X "InvalidPlan" [])
abbrev w_init1 : DSw := wDrop (wCallX false sx_check_plan (wCons (wVar 1) wNil))
abbrev w_init2 : DW := wLstO (wCons (wTup (wCons (wVar 1) (wCons (wTup wNil) (wCons (wC (.int 0)) (wCons (wC (.int 0)) (wCons (wC (.int 0)) wNil)))))) wNil)
theorem Le.last {G G' : Hp} {as as' : List Addr} (l : Le G as G' as') {a : Addr} (hl : as'.length = as.length + 1) (h : as'[as.length]? = some a) : as' = as ++ [a] := by
  obtain ⟨t, rfl⟩ := l.pre
  rw [List.getElem?_append_right (Nat.le_refl _), Nat.sub_self] at h
  rw [List.length_append] at hl
  match t, h, (show t.length = 1 by omega) with
  | [b], h, _ => cases h; rfl
section
variable {P : Program} {w0 : World} {K : PySem.W.Frag} {mg : Str → Option Value} {base : Heap} {C f : Addr} {fd : FuncData} {st st1 : Stmt} {k : Nat} {ve : Expr} {p1 p2 pos : Pos}
theorem fn_init (T : AccT K mg C) (F : Fun K "__init__" "Account.__init__" st f fd) (S : FnScope ["self", "plan"] ["self", "plan"] (defScope st)) (hbd : defBody st = [st1, .Assign [.Attribute (.Name "self" p1) "states" p2] ve pos])
    (hd : ∀ (cdv : Value) (A : Around) (outer : List PySem.Env) (s : Shared) (H : Hp) (E : XK), Room k (A.deeper (PyProof.Rows.envOfC "Account.__init__" (defScope st) s.heap.objs.size f cdv)) →
      DS (cxOf (L2N.CX P w0) P w0 K mg base ["self", "plan"] "Account.__init__" (defScope st) f cdv A outer s H E) E st1 w_init1 ∧ DE (cxOf (L2N.CX P w0) P w0 K mg base ["self", "plan"] "Account.__init__" (defScope st) f cdv A outer s H E) E ve w_init2 ∧
      PE (cxOf (L2N.CX P w0) P w0 K mg base ["self", "plan"] "Account.__init__" (defScope st) f cdv A outer s H E) (.Name "self" p1) (tVar 0) ∧
      swapsWith ve (some (.Attribute (.Name "self" p1) "states" p2)) pos.line (cxOf (L2N.CX P w0) P w0 K mg base ["self", "plan"] "Account.__init__" (defScope st) f cdv A outer s H E).env = pure false) :
    FnOk P w0 K mg base (L2N.CX P w0) (k + 1) f fd ["self", "plan"] (spInit K) := by
  obtain ⟨oc, od, kV, doc, pm, an, cdv, ct, osl, rfl, lk, hcd⟩ := F.ex
  refine fn_of lk hcd S (fun vs H Q E ⟨_, _, _, _, _, _, _, _, _, e, _⟩ => by rw [e]; rfl) fun A outer s H vs Q E hr hs => ?_
  obtain ⟨u, G, as, M, C', a, dx, d, v, rfl, sr, hH, hC, hG, ha, hB, hh, rd, q1, q2⟩ := hs
  have eC := T.one hC
  subst eC
  obtain ⟨d1, d2, d3, hsw⟩ := hd cdv A outer s H E hr
  rw [hbd]
  refine ⟨_, pss_cons d1.pe (pss_one (ps_fld d3 d2.pe hsw)), ?_⟩
  have srh0 := sr.hide hH hG ha
  obtain ⟨XX, eX⟩ : ∃ XX : XC, XX = fun (x : Str) M' => x = "InvalidPlan" ∧ isPlanD d = false ∧ M' = M := ⟨_, rfl⟩
  have srh := srh0.inn E XX
  obtain ⟨Q2, eQ⟩ : ∃ Q2 : Env → DK, Q2 = fun env1 s2 M2 => env1[0]? = some (some (.v (.ref a))) ∧ s2 = .m M.length ∧ M2 = M ++ [.lst [st0 d]] ∧ isPlanD d = true := ⟨_, rfl⟩
  have er : ER K as G [some (.v (.ref a)), some (.d d)] (L2.start ["self", "plan"] [.ref a, v]) := by
    refine ⟨rfl, fun i t e => ?_⟩
    match i, e with
    | 0, e => cases e; exact ⟨.ref a, rfl, rfl⟩
    | 1, e => cases e; exact ⟨v, rfl, rd⟩
  refine ⟨_, G, as, M, [some (.v (.ref a)), some (.d d)], { nx := fun env1 M1 => w_init2 XX env1 M1 (Q2 env1), rt := fun _ _ => False, bk := fun _ _ => False, ct := fun _ _ => False }, ⟨rfl, ⟨?_, fun z => ?_⟩, srh, er⟩, ⟨?_, fun _ _ _ _ _ _ _ _ _ z => z.elim, fun _ _ _ _ _ _ _ _ _ z => z.elim, fun _ _ _ _ _ _ _ _ _ z => z.elim⟩, ?_⟩
  · intro x cls G' H' as' M' s1 hx hns
    have hx : XX x M' := hx
    rw [eX] at hx
    obtain ⟨rfl, hp, rfl⟩ := hx
    obtain ⟨s2, l2⟩ := srh0.out s1
    have e : as' = as := by
      obtain ⟨t, rfl⟩ := l2.pre
      have h1 := s2.len
      have h2 := sr.len
      rw [List.length_append] at h1
      have : t = [] := List.eq_nil_of_length_eq_zero (by omega)
      rw [this]; simp
    subst e
    exact q2 hp cls G' H' hns (s2.show_ hh) l2
  · have z : XX "<tables>" [] := z
    rw [eX] at z
    exact absurd z.1 (by decide)
  · intro σ1 G1 H1 as1 M1 env1 sr1 l1 er1 h1
    have h2 : w_init2 XX env1 M1 (Q2 env1) := h1
    refine ⟨((u.hide a (.ins C' dx [])).here G as E XX), G1, as1, M1, env1, Q2 env1, ⟨rfl, ⟨fun x cls G' H' as' M' s1 hx hns => ?_, fun z => ?_⟩, sr1, er1⟩, h2, ?_⟩
    · have hx : XX x M' := hx
      rw [eX] at hx
      obtain ⟨rfl, hp, rfl⟩ := hx
      obtain ⟨s2, l2⟩ := srh0.out s1
      have e : as' = as := by
        obtain ⟨t, rfl⟩ := l2.pre
        have h1 := s2.len
        have h2 := sr.len
        rw [List.length_append] at h1
        have : t = [] := List.eq_nil_of_length_eq_zero (by omega)
        rw [this]; simp
      subst e
      exact q2 hp cls G' H' hns (s2.show_ hh) l2
    · have z : XX "<tables>" [] := z
      rw [eX] at z
      exact absurd z.1 (by decide)
    · intro y G2 H2 as2 M2 s2 sr2 l2 r2 hq
      rw [eQ] at hq
      obtain ⟨e0, rfl, rfl, hp⟩ := hq
      obtain ⟨l, hl, rfl⟩ := r2
      obtain ⟨s3, l3⟩ := srh0.out sr2
      have ea : as2 = as ++ [l] := l3.last (by rw [s3.len, List.length_append, sr.len]; rfl) (by rw [sr.len]; exact hl)
      subst ea
      obtain ⟨k1, k2, k3⟩ := s3.seek
      have s4 := s3.show_ hh
      have s5 := s4.other (o := .ins C' dx [("states", .ref l)]) k2 k3 hB hh (by rw [k1]; intro _ z; cases z)
      have s6 := s5.adopt (o := .ins C' dx [("states", .ref l)]) upd_same k2 k3 hB hh
      obtain ⟨v0, hv, ev⟩ := er1.get 0 _ e0
      cases (show v0 = V.ref a from ev)
      refine ⟨.ref a, hv, a, C', dx, [], rfl, k1, T.cl, T.nS, by decide, ?_⟩
      have s7 := s6.retell (i := M.length) (mo := .ext [st0 d]) (p := l) hl (by
        obtain ⟨m1, _, m2⟩ := s6.ms M.length l _ hl (by rw [List.getElem?_append_right (Nat.le_refl _), Nat.sub_self]; rfl)
        exact ⟨m1, m2⟩)
      rw [List.set_append_right _ _ (Nat.le_refl _), Nat.sub_self, List.set_cons_zero] at s7
      exact q1 hp _ _ l s7 ⟨l3.ex.trans (Ex.new k2), l3.pre⟩ upd_same
  · refine ⟨fun z => Bool.noConfusion z, List.nodup_nil, d, rfl, fun hp => ?_, fun hp => ?_⟩
    · have e : backM M [] [] = M := by
        unfold backM
        simp [putAll]
      show w_init2 XX [some (.v (.ref a)), some (.d d)] (backM M [] []) (Q2 [some (.v (.ref a)), some (.d d)])
      rw [e, eQ]
      exact ⟨rfl, rfl, rfl, rfl, rfl, rfl, hp⟩
    · show XX "InvalidPlan" (backM M [] [])
      rw [eX]
      refine ⟨rfl, hp, ?_⟩
      unfold backM
      simp [putAll]
end
end R
/-! Layer R, part 42: Account(..), properties, len; star parameters of defs that raise. -/
namespace R
open PySem L2 Evl
def wMake (wa : DAW) : DW := fun X env M Q => wa X env M fun ss M1 => match ss with
  | [.d d] => (isPlanD d = true → Q (.acc M1.length) (M1 ++ [.ext [st0 d]])) ∧ (isPlanD d = false → X "InvalidPlan" M1)
  | _ => False
section
variable {K : PySem.W.Frag} {E : XK} {C : Addr} {mg : Str → Option Value}
theorem okE_make (T : AccT K mg C) {ta : TA} {wa : DAW} (ha : OkA K E ta wa) : OkE K E (tMake C (spInit K) [] E ta) (wMake wa) := by
  intro u G H as M env σ Q Qv c h fin
  refine ha u G H as M env σ _ _ c h fun vs G1 H1 as1 M1 ss sr1 l1 rs q1 => ?_
  split at q1
  · rename_i d
    obtain ⟨v, rfl, r⟩ := rs.one
    intro x dx hx hdx ne
    obtain ⟨q1, q2⟩ := q1
    have s2 := sr1.aside (o := .own x) hdx
    have hx2 : upd H1 dx (.own x) x = none := by rw [upd_ne (fun z => ne z.symm)]; exact hx
    have s3 := s2.aside (o := .ins C dx []) hx2
    refine ⟨u, G1, as1, M1, C, x, dx, d, v, rfl, s3, upd_same, T.ns, sr1.gnone hx, fun z => sr1.there x z hx, sr1.bnone hx, sr1.hnone hx, r.d, fun hp G' H' l sr l' hG => ⟨rfl, ?_⟩, fun hp cls G' H' hns sr l' => ?_⟩
    · refine fin (.ref x) G' H' _ _ (.acc M1.length) sr (l1.trans l') ⟨C, x, dx, l, T.ns, rfl, hG, ?_⟩ (q1 hp)
      rw [← sr1.len, List.getElem?_append_right (Nat.le_refl _), Nat.sub_self]
      rfl
    · have z := c.xok.1 "InvalidPlan" cls G' H' as1 M1 sr (q2 hp) hns
      rw [c.eE] at z
      exact z
  · exact q1.elim
end
theorem spOf_of {K : PySem.W.Frag} {sp : DSpec} {vs : List V} {H : Hp} {Q : VK} {E E' : XK} (h : spX K (tabsB K false) (fun ads Q _ => sp ads Q) vs H Q E) : spOf K sp vs H Q E' := by
  obtain ⟨G, ads, bs, Qd, X, e, nd, th, ha, _, hs, q, _⟩ := h
  exact ⟨G, ads, bs, Qd, e, nd, th, ha, hs, q⟩
abbrev noX (sp : DSpec) : DSpecX := fun ads Q _ => sp ads Q
def wProp (sp : DSpec) (wo : DW) : DW := fun X env M Q => wo X env M fun s M1 => match s with
  | .acc j => callK false (noX sp) X [.acc j] M1 Q
  | _ => False
/-- a property of the class -/
structure PrpD (K : PySem.W.Frag) (C : Addr) (m q : Str) (st : Stmt) (p f : Addr) (fd : FuncData) : Prop where
  fn : Fun K m q st f fd
  pr : PropOf K C m p f
  bd : Binds K fd ["self"] []
/-- a length: an int that is one -/
def fLenA (sp : DSpec) : DFC := fun ss M Q => match ss with
  | [.acc j] => callK false (noX sp) (fun _ _ => False) [.acc j] M fun s M' => (match s with
    | .d (.int n) => 0 ≤ n ∧ n < 2 ^ 63 ∧ Q (.d (.int n)) M'
    | _ => False)
  | _ => False
def rLenA (K : PySem.W.Frag) (C : Addr) (sp : DSpec) : List V → Hp → VK → Prop := fun xs H Q => ∃ a dx fs, xs = [.ref a] ∧ H a = some (.ins C dx fs) ∧ spOf K sp [.ref a] H (fun v H' => ∃ n, v = .int n ∧ 0 ≤ n ∧ n < 2 ^ 63 ∧ Q (.int n) H') E0
theorem fr_of {X : Cx} {pins : List (Addr × Obj)} {σ : L2.St} {H : Hp} {s : Shared} (I : Inv X pins σ H s) : ∃ m, PyProof.Rows.Fr X.base X.env.locals s.heap m := by
  obtain ⟨m, hn, _⟩ := I.loc
  exact ⟨m, hn, fun b o e => (I.bs b o e).1, Nat.le_trans I.ok.bsz I.ok.above⟩
theorem call_lenA {X : Cx} {C f : Addr} {sp : DSpec} {k : Nat} (F : FnR X.prog X.w X.K X.mg X.base CX0 k f (spOf X.K sp)) (hm : Meth X.K C "__len__" f) (hr : Room (k + 1) X.A) : CallR X (.builtin "len") (rLenA X.K C sp) := by
  intro pins s σ H xs us Q I r h
  obtain ⟨a, dx, fs, rfl, ea, hsp⟩ := h
  have eu : us = [Value.ref a] := by
    cases r with
    | cons r1 r2 => cases r2; rw [show _ = Value.ref a from r1]
  subst eu
  obtain ⟨m, Fr⟩ := fr_of I
  obtain ⟨mA, O, _⟩ := ins_get I.hok ea
  obtain ⟨od, J, _⟩ := O.look
  refine PySem.W.len_K Fr I.ok.mod.kin J hm.at_ hm.fn (wpAny_call (codeAny_mono (F X.A.in1 X.stack s H [.ref a] [.ref a] _ E0 hr.in1 I.env0.in1 (.cons rfl .nil) hsp) fun r s' hq => ?_))
  cases r with
  | error er => exact False.elim hq
  | ok fl =>
    cases fl with
    | ret u =>
      obtain ⟨v, H', I3, rv, n, rfl, h0, h1, q3⟩ := I.after hq
      obtain ⟨t, rfl⟩ := rv
      exact ⟨⟨h0, h1⟩, .int n, H', I3.tok _, ⟨_, rfl⟩, q3⟩
    | next => exact False.elim hq
    | brk => exact False.elim hq
    | cont => exact False.elim hq
theorem okC_lenA {K : PySem.W.Frag} {mg : Str → Option Value} {C : Addr} (T : AccT K mg C) {sp : DSpec} : OkC K (rLenA K C sp) (fLenA sp) := by
  intro u G H as M xs ss Q Qv sr rs h fin
  unfold fLenA at h
  split at h
  · rename_i j
    obtain ⟨v, rfl, r⟩ := rs.one
    obtain ⟨C', a, dx, l, hC, rfl, hG, hl⟩ := id r
    have e1 := T.one hC
    subst e1
    refine ⟨a, dx, _, rfl, sr.gh _ _ hG, spOf_of (callK_ok (u := u.wish (fun _ _ _ => False) fun _ _ => False) (G := G) (as := as) (M := M) (env := []) (σ := []) (ss := [.acc j]) (E := fun _ _ _ => False) ⟨rfl, ⟨fun _ _ _ _ _ _ _ z _ => z, fun z => z.elim⟩, sr.wish _ _, rfl, fun i s e => by simp at e⟩ (.cons r .nil) h ?_)⟩
    intro v G' H' as' M' s sr' l' rv q
    split at q
    · rename_i n
      exact ⟨n, rep_int.mp rv.d, q.1, q.2.1, fin (.int n) G' H' as' M' (.d (.int n)) sr'.unwish l' srp_int q.2.2⟩
    · exact q.elim
  · exact h.elim
section
variable {X : Cx} {E : XK} {C f g p : Addr} {sp : DSpec} {k : Nat} {o e : Expr} {es : List Expr} {wo : DW} {wl : DAW} {m x q : Str} {st : Stmt} {fd : FuncData} {apos pos p1 : Pos}
theorem d_make (T : AccT X.K X.mg C) (Mk0 : Mk X.K C f) (F : FnOk X.prog X.w X.K X.mg X.base (L2N.CX X.prog X.w) k f fd ["self", "plan"] (spInit X.K)) (hb : Binds X.K fd ["self", "plan"] []) (tk : Passes (L2N.CX X.prog X.w) X E) (hr : Room (k + 1) X.A) (ha : DA X E (e :: es) wl) (hg : Gl X "Account" := by rfl)
    (he : starEach (e :: es) X.env = (false, eval e X.env) :: starEach es X.env := by rfl) (hpl : (backTo pos (starEach es X.env)).any (·.1) = false := by rfl) : DE X E (.Call (.Name "Account" p1) (e :: es) [] pos) (wMake wl) :=
  .mk' (pe_make Mk0 F hr hg T.gl hb .nil tk ha.pe (by decide) he hpl) (okE_make T okAW)
theorem d_prop (T : AccT X.K X.mg C) (D : PrpD X.K C m q st p g fd) (F : FnOk X.prog X.w X.K X.mg X.base CX0 k g fd ["self"] (spOf X.K sp)) (hr : Room (k + 1) X.A) (ho : DE X E o wo) (hab : attributeBase o m X.env (eval o X.env) = eval o X.env := by rfl) :
    DE X E (.Attribute o m pos) (wProp sp wo) :=
  .mk' (pe_prop (E := E0) ho.pe T.cl D.pr F hr D.bd .nil pass0 hab) (by
    intro u G H as M env σ Q Qv c h fin
    refine ⟨u, G, as, M, env, _, c, h, fun v G1 H1 as1 M1 s sr1 l1 r q => ?_⟩
    split at q
    · rename_i j
      obtain ⟨C', a, dx, l, hC, rfl, hG, hl1⟩ := id r
      have e1 := T.one hC
      subst e1
      exact ⟨a, dx, _, rfl, sr1.gh _ _ hG, spOf_of (callK_ok (c.step sr1 l1) (.cons r .nil) q (fin.from l1))⟩
    · exact q.elim)
theorem d_lenA (T : AccT X.K X.mg C) (F : FnR X.prog X.w X.K X.mg X.base CX0 k f (spOf X.K sp)) (hm : Meth X.K C "__len__" f) (hr : Room (k + 1) X.A) (hl : X.mg "len" = none) (ha : DA X E (e :: es) wl) (hg : Gl X "len" := by rfl)
    (he : starEach (e :: es) X.env = (false, eval e X.env) :: starEach es X.env := by rfl) (hpl : (backTo pos (starEach es X.env)).any (·.1) = false := by rfl) : DE X E (.Call (.Name "len" p1) (e :: es) [] pos) (wCB (fLenA sp) wl) :=
  d_callB (call_lenA F hm hr) (okC_lenA T) hl bt_len ha hg (by decide) (by decide) he hpl
end
end R
/-! Layer R, part 43: star parameters of defs that raise; keyword-only parameters. -/
namespace R
open PySem L2 Evl
theorem cxUpN {P : Program} {w : World} : StX.CXUp (L2N.CX P w) := by
  intro outer s H s2 H2 E e s' un kp ho h
  obtain ⟨a, B, H', cls, d, ea, fl, hok, g, na, os, ag, he⟩ := h
  refine ⟨a, B, H', cls, d, ea, fl, hok, ?_, na, os.trans ho, ag, he⟩
  constructor
  · intro b o q n hb
    exact g.keep b o (kp b o q) (un.free b o q n (by simp)) hb
  · intro b o q hb
    exact g.slot b o (kp b o q) hb
  · intro b o q n
    exact g.free b o (kp b o q) (un.free b o q n (by simp))
  · intro b o q hb
    exact g.there b o (kp b o q) hb
  · exact fun b xs q => g.tups b xs (un.tups b xs q)
  · exact fun b o xs q => g.frzs b o xs (un.frzs b o xs q)
  · intro b ps q
    obtain ⟨x, ex⟩ := un.tbls b ps q
    obtain ⟨y, ey⟩ := g.tbls b _ ex
    refine ⟨x ++ y, ?_⟩
    rw [ey, Array.append_assoc]
def spStarX (sp : DSpecX) (n : Nat) : DSpecX := fun ads Q X => ∃ (a b : List AD) (ds : List D), ads = a ++ b ∧ a.length = n ∧ b = ds.map AD.d ∧ ds.length ≤ 16000000 ∧ sp (a ++ [.d (.tup ds)]) Q X
theorem star_down {T : List (Addr × Str)} {G H G' H' : Hp} {ba cs : List Addr} {M' : Mem} {E : XK} {X : XC} {p : Addr} {o : HO} (e : Ex G H) (hp : H p = none) (sr : SR (wrX T (upd G p o) (upd H p o) ba E X) G' H' cs M') : SR (wrX T G H ba E X) G' H' cs M' := by
  have hG : G p = none := fresh_back e hp
  have up : ∀ c, upd H p o c = none → H c = none := fun c y => by
    by_cases hc : c = p
    · rw [hc]; exact hp
    · rw [upd_ne hc] at y; exact y
  refine ⟨sr.gh, (Ex.new hG).trans sr.g0, sr.nd, sr.len, fun i c m h4 h5 => ?_, sr.there, fun c m h4 h5 => sr.fr c m (by show upd H p o c = some m; rw [upd_ne (ne_of_none h4 hp)]; exact h4) h5, fun c h4 => sr.th c (by show upd H p o c ≠ none; rw [upd_ne (ne_addr h4 hp)]; exact h4), fun c h4 h5 => sr.nf c (by show upd H p o c ≠ none; rw [upd_ne (ne_addr h4 hp)]; exact h4) (by show upd G p o c = none; rw [upd_ne (ne_addr h4 hp)]; exact h5), fun c h4 => ?_, sr.pre, fun c m h4 => (by cases h4), fun t ht => ?_⟩
  · have z := sr.ms i c m h4 h5
    cases m with
    | lst es => exact ⟨z.1, up c z.2.1, z.2.2⟩
    | ext es => exact z
    | bag n => exact z
    | dead => trivial
    | raw m => exact ⟨z.1, up c z.2.1, z.2.2⟩
    | toks ts => exact ⟨z.1, up c z.2.1, z.2.2⟩
  · rcases sr.wr c h4 with y | y
    · exact .inl (up c y)
    · exact .inr y
  · obtain ⟨t1, t2, t3, t4⟩ := sr.tb t ht
    refine ⟨t1, t2, ?_, t4⟩
    rcases t3 with y | y
    · exact .inl (up _ y)
    · exact .inr y
section
variable {P : Program} {w0 : World} {K : PySem.W.Frag} {mg : Str → Option Value} {base : Heap}
theorem fn_starX {x qual : Str} {st : Stmt} {f : Addr} {fd : FuncData} {N ps : List Str} {pv : Str} {k n : Nat} {t : Bool} {sp : DSpecX} {w : DSw} (F : Fun K x qual st f fd) (S : FnScope N (ps ++ [pv]) (defScope st)) (hb : ∀ us rest : List Value, us.length = ps.length → bindArgs fd ⟨us ++ rest, []⟩ = (newTuple rest >>= fun t => pure (ps.zip us ++ [(pv, t)])))
    (hn : N.length = (ps ++ [pv]).length + n) (hlen : ∀ ads Q X, sp ads Q X → ads.length = (ps ++ [pv]).length) (nt : PySem.W.nsIn K mainGlobals "<tables>" = some none)
    (hd : ∀ (cdv : Value) (A : Around) (outer : List PySem.Env) (s : Shared) (H : Hp) (E : XK), Room k (A.deeper (PyProof.Rows.envOfC qual (defScope st) s.heap.objs.size f cdv)) → DSs (cxOf (L2N.CX P w0) P w0 K mg base N qual (defScope st) f cdv A outer s H E) E (defBody st) w)
    (hw : KeepsX w t n sp) : FnR P w0 K mg base (L2N.CX P w0) (k + 1) f (spX K (tabsB K t) (spStarX sp ps.length)) := by
  obtain ⟨oc, od, kV, doc, pm, an, cdv, ct, osl, rfl, lk, hcd⟩ := F.ex
  refine (StX.fn_star (sp := fun vs H Q E => spX K (tabsB K t) sp vs H Q E) lk hcd S cxUpN hb fun A outer s H vs Q E hr hs => ?_).imp fun vs H Q E h => ?_
  · obtain ⟨G, ads, bs, Qd, X, e, nd, th, h, tb, hs, q, qx⟩ := hs
    exact ⟨_, (hd cdv A outer s H E hr).pe, fin_bodyX okSW (hlen ads Qd X hs) hn e nd th h tb (hw ads Qd X hs) q qx nt⟩
  · obtain ⟨G, ads, bs, Qd, X, e, nd, th, h, tb, ⟨a, b, ds, rfl, hl, rfl, hz, hs⟩, q, qx⟩ := h
    obtain ⟨va, vb, ba, bb, rfl, rfl, h1, h2⟩ := args_split h
    obtain ⟨rfl, h3⟩ := args_datas h2
    rw [List.append_nil] at nd th q tb qx
    refine ⟨va, vb, rfl, h1.len.1.trans hl, by rw [h3.len]; exact Nat.le_trans hz line16, fun p hp => ?_⟩
    have hG : G p = none := fresh_back e hp
    have ex : Ex G (upd G p (.tup vb)) := Ex.new hG
    have eH : Ex (upd G p (.tup vb)) (upd H p (.tup vb)) := fun x o hx => by
      by_cases hxp : x = p
      · subst hxp; rw [upd_same] at hx ⊢; exact hx
      · rw [upd_ne hxp] at hx ⊢; exact e x o hx
    refine ⟨upd G p (.tup vb), a ++ [.d (.tup ds)], ba, Qd, X, eH, nd, fun x hx => ?_, ?_, fun t ht => ?_, hs, fun s M' v G' H' cs z sr l r => q s M' v G' H' cs z (star_down e hp sr) ⟨ex.trans l.ex, l.pre⟩ r, fun x cls M' G' H' cs z hns sr l => qx x cls M' G' H' cs z hns (star_down e hp sr) ⟨ex.trans l.ex, l.pre⟩⟩
    · rw [upd_ne (ne_addr (th x hx) hp)]; exact th x hx
    · have := args_join (args_laid (o := .tup vb) e hp h1 th) (show ArgsR K (upd G p (.tup vb)) (upd H p (.tup vb)) [.d (.tup ds)] [.ref p] [] from ⟨_, [], rfl, rep_tup.mpr ⟨p, vb, rfl, upd_same, h3.mono ex⟩, rfl, rfl⟩)
      rw [List.append_nil] at this
      exact this
    · obtain ⟨t1, t2⟩ := tb t ht
      have ne : t.1 ≠ p := ne_addr t1.some hp
      exact ⟨t1.stay ex (fun z => by rw [upd_ne ne]; exact z) fun w z => by rw [upd_ne ne]; exact z, t2⟩
end
/-- a method with a star parameter alone -/
structure MetS (K : PySem.W.Frag) (C : Addr) (m q : Str) (st : Stmt) (pv : Str) (f : Addr) (fd : FuncData) : Prop where
  fn : Fun K m q st f fd
  mt : Meth K C m f
  bd : ∀ us rest : List Value, us.length = (["self"] : List Str).length → bindArgs fd ⟨us ++ rest, []⟩ = (newTuple rest >>= fun t => pure ((["self"] : List Str).zip us ++ [(pv, t)]))
theorem metS_mk {K : PySem.W.Frag} {C : Addr} {m q pv : Str} {st : Stmt} {f : Addr} {fd : FuncData} (F : Fun K m q st f fd) (M : Meth K C m f) (h0 : ∀ a, bindArgs fd ⟨[a], []⟩ = (newTuple [] >>= fun t => pure [(("self" : Str), a), (pv, t)])) (h1 : ∀ a r rs, bindArgs fd ⟨a :: r :: rs, []⟩ = (newTuple (r :: rs) >>= fun t => pure [(("self" : Str), a), (pv, t)])) :
    MetS K C m q st pv f fd := ⟨F, M, StX.bind_star1 (B := fun us => bindArgs fd ⟨us, []⟩) h0 h1⟩
/-! ### keyword-only parameters, one, None where it lacks -/
/-- the def at f: plain parameters ps, then the keyword-only parameter c with the default None -/
structure DefK (K : PySem.W.Frag) (mg : Str → Option Value) (x c : Str) (st : Stmt) (ps : List Str) (f : Addr) (fd : FuncData) : Prop where
  fn : FunD K x x (defArgs st) (defBody st) (defScope st) [] [(c, .non)] f fd
  gl : mg x = some (.ref f)
  b0 : ∃ ds, Vals [.non] ds ∧ Binds K fd (ps ++ [c]) ds
  b1 : ∃ mv : List Value, KBn K fd (ps ++ [c]) ps.length [c] (fun us ws => us ++ ws) (fun vs zs => vs ++ zs)
section
variable {P : Program} {w0 : World} {K : PySem.W.Frag} {mg : Str → Option Value} {base : Heap}
theorem fn_okK {x c : Str} {st : Stmt} {f : Addr} {fd : FuncData} {N ps : List Str} {k n : Nat} {sp : DSpecX} {w : DSw} (D : DefK K mg x c st ps f fd) (S : FnScope N (ps ++ [c]) (defScope st)) (hn : N.length = (ps ++ [c]).length + n) (hlen : ∀ ads Q X, sp ads Q X → ads.length = (ps ++ [c]).length)
    (nt : PySem.W.nsIn K mainGlobals "<tables>" = some none)
    (hd : ∀ (cdv : Value) (A : Around) (outer : List PySem.Env) (s : Shared) (H : Hp) (E : XK), Room k (A.deeper (PyProof.Rows.envOfC x (defScope st) s.heap.objs.size f cdv)) → DSs (cxOf (L2N.CX P w0) P w0 K mg base N x (defScope st) f cdv A outer s H E) E (defBody st) w)
    (hw : KeepsX w false n sp) : FnOk P w0 K mg base (L2N.CX P w0) (k + 1) f fd (ps ++ [c]) (spX K (tabsB K false) sp) := by
  refine D.fn.ok S (fun vs H Q E ⟨G, ads, bs, Qd, X, e, nd, th, h, tb, hs, _⟩ => by rw [h.len.1]; exact hlen ads Qd X hs) fun cdv A outer s H vs Q E hr hs => ?_
  obtain ⟨G, ads, bs, Qd, X, e, nd, th, h, tb, hs, q, qx⟩ := hs
  exact ⟨_, (hd cdv A outer s H E hr).pe, fin_bodyX okSW (hlen ads Qd X hs) hn e nd th h tb (hw ads Qd X hs) q qx nt⟩
end
def wCallD (sp : DSpecX) (wa : DAW) : DW := fun X env M Q => wa X env M fun ss M1 => callK false sp X (ss ++ [.d .non]) M1 Q
def wCallN (sp : DSpecX) (n : Nat) (wa wk : DAW) : DW := fun X env M Q => wa X env M fun ss M1 => wk X env M1 fun zs M2 => ss.length = n ∧ zs.length = 1 ∧ callK false sp X (ss ++ zs) M2 Q
/-- the keywords' values -/
structure DK_ (X : Cx) (E : XK) (kws : List Keyword) (w : DAW) : Prop where
  pe : PK X kws (taW X.K E w)
theorem SRs.append {K : PySem.W.Frag} {as : List Addr} {G : Hp} : ∀ {ss ts : List S} {vs ws : List V}, SRs K as G ss vs → SRs K as G ts ws → SRs K as G (ss ++ ts) (vs ++ ws)
  | _, _, _, _, .nil, h => h
  | _, _, _, _, .cons a r, h => .cons a (SRs.append r h)
section
variable {X : Cx} {E : XK} {x c : Str} {e kv : Expr} {es : List Expr} {kws : List Keyword} {wl wk : DAW} {we : DW} {st : Stmt} {ps : List Str} {f : Addr} {fd : FuncData} {k : Nat} {sp : DSpecX} {p pos kpos : Pos}
theorem k_one {nm : Option Str} (h : DE X E kv we) : DK_ X E [⟨nm, kv, kpos⟩] (wCons we wNil) :=
  ⟨⟨fun pos pins s σ H Q I ⟨u, G, as, M, env, Q', c, hw, f⟩ => (pk_cons h.pe pk_nil).run pos pins s σ H Q I (okA_cons okW okA_nil u G H as M env σ Q' Q c hw f)⟩⟩
theorem d_callD (D : DefK X.K X.mg x c st ps f fd) (F : FnOk X.prog X.w X.K X.mg X.base (L2N.CX X.prog X.w) k f fd (ps ++ [c]) (spX X.K (tabsB X.K false) sp)) (tk : Passes (L2N.CX X.prog X.w) X E) (hr : Room k X.A) (ha : DA X E (e :: es) wl) (hg : Gl X x := by rfl)
    (hd : (x == ("__debug__" : Str)) = false := by decide) (he : starEach (e :: es) X.env = (false, eval e X.env) :: starEach es X.env := by rfl) (hpl : (backTo pos (starEach es X.env)).any (·.1) = false := by rfl) : DE X E (.Call (.Name x p) (e :: es) [] pos) (wCallD sp wl) := by
  obtain ⟨ds, hv, hb⟩ := D.b0
  exact .mk' (pe_call F hr hg D.gl D.fn.kp hb hv tk ha.pe hd he hpl) (by
    intro u G H as M env σ Q Qv c h fin
    refine ⟨u, G, as, M, env, _, c, h, fun vs G1 H1 as1 M1 ss sr1 l1 rs q => ?_⟩
    exact callK_ok (c.step sr1 l1) (rs.append (.cons (s := .d .non) srp_non .nil)) q (fin.from l1))
theorem d_callN {n : Nat} (D : DefK X.K X.mg x c st ps f fd) (F : FnOk X.prog X.w X.K X.mg X.base (L2N.CX X.prog X.w) k f fd (ps ++ [c]) (spX X.K (tabsB X.K false) sp)) (tk : Passes (L2N.CX X.prog X.w) X E) (hr : Room k X.A) (ha : DA X E (e :: es) wl) (hk : DK_ X E kws wk) (hn : ps.length = n := by rfl) (hg : Gl X x := by rfl)
    (hall : (backToKw pos (keywordEach kws X.env)).all (·.1.isSome) = true := by rfl) (hks : (backToKw pos (keywordEach kws X.env)).filterMap (·.1) = [c] := by rfl)
    (hdb : (x == ("__debug__" : Str)) = false := by decide) (he : starEach (e :: es) X.env = (false, eval e X.env) :: starEach es X.env := by rfl)
    (hpl : ((backTo pos (starEach (e :: es) X.env)).any (·.1) || (backToKw pos (keywordEach kws X.env)).any (·.1.isNone)) = false := by rfl) : DE X E (.Call (.Name x p) (e :: es) kws pos) (wCallN sp n wl wk) := by
  subst hn
  obtain ⟨mv, hb⟩ := D.b1
  exact .mk' (pe_callN F hr hg D.gl D.fn.kp hb tk ha.pe hk.pe hall hks hdb he hpl) (by
    intro u G H as M env σ Q Qv c h fin
    refine ⟨u, G, as, M, env, _, c, h, fun vs G1 H1 as1 M1 ss sr1 l1 rs q => ?_⟩
    refine ⟨u, G1, as1, M1, env, _, c.step sr1 l1, q, fun zs G2 H2 as2 M2 ts sr2 l2 rs2 q2 => ?_⟩
    obtain ⟨e1, e2, q2⟩ := q2
    exact ⟨rs.len.trans e1, rs2.len.trans e2, callK_ok (c.step sr2 (l1.trans l2)) ((rs.mono l2).append rs2) q2 (fin.from (l1.trans l2))⟩)
end
end R
/-! Layer R, part 44: what a law's text names; accounts over data. -/
namespace R
open PySem L2 Evl
theorem passNo {X : Cx} : Passes (L2N.CX X.prog X.w) X E0 := fun _ _ _ _ _ _ _ h => by
  obtain ⟨_, _, _, _, _, _, _, _, _, _, _, _, z⟩ := h
  exact False.elim z
structure IniD (K : PySem.W.Frag) (C : Addr) (st : Stmt) (f : Addr) (fd : FuncData) : Prop where
  fn : Fun K "__init__" "Account.__init__" st f fd
  mkr : Mk K C f
  bd : Binds K fd ["self", "plan"] []
theorem s_raiseE {X : Cx} {E : XK} {x m : Str} {j : Nat} {p p2 pos pos' : Pos} (T : ∃ C, ExcV X.K X.mg x C) (tk : L2N.Takes X fun cls d _ H => E cls d H) (hc : X.calm = true := by rfl) (hg : Gl X x := by rfl) (hdb : (x == ("__debug__" : Str)) = false := by decide) :
    DS X E (.Raise (some (.Call (.Name x p) [.Constant (.str m) j p2] [] pos)) none pos') (wRaise x) := by
  obtain ⟨C, T⟩ := T
  exact s_raise T tk hc hg hdb
theorem d_mostE {X : Cx} {E : XK} {C : Addr} {e : Expr} {we : DW} {pos : Pos} (T : AccT X.K X.mg C) (k : ∃ u0, Con X.K C "MOST" (.int 36) u0) (he : DE X E e we) (hb : attributeBase e "MOST" X.env (eval e X.env) = eval e X.env := by rfl) : DE X E (.Attribute e "MOST" pos) (wCon (.int 36) we) := by
  obtain ⟨u0, k⟩ := k
  exact d_most T k he hb
/-! ### plans among values -/
theorem inR_get {d : D} {lo hi : Int} (h : inR d lo hi = true) : ∃ v : Int, d = .int v ∧ lo ≤ v ∧ v ≤ hi := by
  cases d with
  | int v =>
    have h' : (decide (lo ≤ v) && decide (v ≤ hi)) = true := h
    rw [Bool.and_eq_true] at h'
    exact ⟨v, rfl, of_decide_eq_true h'.1, of_decide_eq_true h'.2⟩
  | bl v => cases h
  | non => cases h
  | str v => cases h
  | tup v => cases h
  | lst v => cases h
theorem plan_of {d : D} (h : isPlanD d = true) : ∃ p : Plan, d = p.D ∧ p.Ok := by
  unfold isPlanD at h
  split at h
  · rename_i a b c e
    rw [Bool.and_eq_true, Bool.and_eq_true, Bool.and_eq_true] at h
    obtain ⟨h1, h2, h3, h4⟩ := h
    obtain ⟨v1, rfl, a1, b1⟩ := inR_get h1
    obtain ⟨v2, rfl, a2, b2⟩ := inR_get h2
    obtain ⟨v3, rfl, a3, b3⟩ := inR_get h3
    obtain ⟨v4, rfl, a4, b4⟩ := inR_get h4
    exact ⟨⟨v1, v2, v3, v4⟩, rfl, a1, b1, a2, b2, a3, b3, a4, b4⟩
  · cases h
/-! ### an account's state -/
structure Acc where
  plan : Plan
  used : List Int
  paid : Int
  kept : Int
  lost : Int
def Acc.D (s : Acc) : R.D := .tup [s.plan.D, usD s.used, .int s.paid, .int s.kept, .int s.lost]
structure Acc.Ok (s : Acc) : Prop where
  plan : s.plan.Ok
  used : UsOk s.used
def Acc.new (p : Plan) : Acc := ⟨p, [], 0, 0, 0⟩
theorem st0_new (p : Plan) : st0 p.D = (Acc.new p).D := rfl
def Acc.use (s : Acc) (us : List Int) : Acc := ⟨s.plan, s.used ++ us, s.paid + ((playM s.plan us s.kept).map Row.cost).sum, kAfter s.plan us s.kept, s.lost + ((playM s.plan us s.kept).map Row.lost).sum⟩
def Acc.change (s : Acc) (p : Plan) : Acc := ⟨p, s.used, s.paid, 0, s.lost + s.kept⟩
/-- numbers of units, all of them valid -/
def isUnits (ds : List D) : Bool := ds.all fun d => inR d 0 1000000
theorem units_of : ∀ {ds : List D}, isUnits ds = true → ∃ us : List Int, ds = us.map D.int ∧ ∀ u ∈ us, 0 ≤ u ∧ u ≤ 1000000
  | [], _ => ⟨[], rfl, fun u h => by cases h⟩
  | d :: ds, h => by
    unfold isUnits at h
    rw [List.all_cons, Bool.and_eq_true] at h
    obtain ⟨v, rfl, a, b⟩ := inR_get h.1
    obtain ⟨us, rfl, hu⟩ := units_of (ds := ds) h.2
    refine ⟨v :: us, rfl, fun u hm => ?_⟩
    rcases List.mem_cons.mp hm with z | z
    · rw [z]; exact ⟨a, b⟩
    · exact hu u z
end R
/-! Layer R, part 45: accounts, method by method. -/
namespace R
open PySem L2 Evl
abbrev lenX (sp : DSpecX) (n : Nat) : Prop := ∀ ads Q X, sp ads Q X → ads.length = n
theorem l_X_check_plan : lenX sx_check_plan 1 := by rintro _ _ _ ⟨_, rfl, _⟩; rfl
def w_X_check_plan : DSw := (wIfS (wNotT (wTst (wCall sp_is_plan (wCons (wVar 0) wNil)))) (wRaise "InvalidPlan") wNext)
theorem v_X_check_plan : KeepsX w_X_check_plan false 0 sx_check_plan := by
  rintro ads Q X ⟨d, rfl, q1, q2⟩
  refine ⟨nod0, d, rfl, ?_⟩
  cases h : isPlanD d with
  | true => exact q1 h
  | false => exact xEnds_of (t := false) (x := "InvalidPlan") (by decide) (q2 h)
/-! ### reading the present state -/
def sp_Account_plan : DSpec := fun ads Q => ∃ (pre : List D) (s : Acc), ads = [.acc (pre ++ [s.D])] ∧ Q (.d s.plan.D) [.ext (pre ++ [s.D])]
theorem l_Account_plan : ∀ ads Q, sp_Account_plan ads Q → ads.length = 1 := by rintro _ _ ⟨_, _, rfl, _⟩; rfl
def w_Account_plan : DSw := (wRet (wOp fIx (wOp fIx (wStates (wVar 0)) (wUn fNeg (wC (.int 1)))) (wC (.int 0))))
theorem v_Account_plan : Keeps w_Account_plan 0 sp_Account_plan := by
  rintro ads Q ⟨pre, s, rfl, q⟩
  exact atQ_some (atI_last _ _) q
def sp_Account_used : DSpec := fun ads Q => ∃ (pre : List D) (s : Acc), ads = [.acc (pre ++ [s.D])] ∧ Q (.d (usD s.used)) [.ext (pre ++ [s.D])]
theorem l_Account_used : ∀ ads Q, sp_Account_used ads Q → ads.length = 1 := by rintro _ _ ⟨_, _, rfl, _⟩; rfl
def w_Account_used : DSw := (wRet (wOp fIx (wOp fIx (wStates (wVar 0)) (wUn fNeg (wC (.int 1)))) (wC (.int 1))))
theorem v_Account_used : Keeps w_Account_used 0 sp_Account_used := by
  rintro ads Q ⟨pre, s, rfl, q⟩
  exact atQ_some (atI_last _ _) q
def sp_Account_paid : DSpec := fun ads Q => ∃ (pre : List D) (s : Acc), ads = [.acc (pre ++ [s.D])] ∧ Q (.d (.int s.paid)) [.ext (pre ++ [s.D])]
theorem l_Account_paid : ∀ ads Q, sp_Account_paid ads Q → ads.length = 1 := by rintro _ _ ⟨_, _, rfl, _⟩; rfl
def w_Account_paid : DSw := (wRet (wOp fIx (wOp fIx (wStates (wVar 0)) (wUn fNeg (wC (.int 1)))) (wC (.int 2))))
theorem v_Account_paid : Keeps w_Account_paid 0 sp_Account_paid := by
  rintro ads Q ⟨pre, s, rfl, q⟩
  exact atQ_some (atI_last _ _) q
def sp_Account_kept : DSpec := fun ads Q => ∃ (pre : List D) (s : Acc), ads = [.acc (pre ++ [s.D])] ∧ Q (.d (.int s.kept)) [.ext (pre ++ [s.D])]
theorem l_Account_kept : ∀ ads Q, sp_Account_kept ads Q → ads.length = 1 := by rintro _ _ ⟨_, _, rfl, _⟩; rfl
def w_Account_kept : DSw := (wRet (wOp fIx (wOp fIx (wStates (wVar 0)) (wUn fNeg (wC (.int 1)))) (wC (.int 3))))
theorem v_Account_kept : Keeps w_Account_kept 0 sp_Account_kept := by
  rintro ads Q ⟨pre, s, rfl, q⟩
  exact atQ_some (atI_last _ _) q
def sp_Account_lost : DSpec := fun ads Q => ∃ (pre : List D) (s : Acc), ads = [.acc (pre ++ [s.D])] ∧ Q (.d (.int s.lost)) [.ext (pre ++ [s.D])]
theorem l_Account_lost : ∀ ads Q, sp_Account_lost ads Q → ads.length = 1 := by rintro _ _ ⟨_, _, rfl, _⟩; rfl
def w_Account_lost : DSw := (wRet (wOp fIx (wOp fIx (wStates (wVar 0)) (wUn fNeg (wC (.int 1)))) (wC (.int 4))))
theorem v_Account_lost : Keeps w_Account_lost 0 sp_Account_lost := by
  rintro ads Q ⟨pre, s, rfl, q⟩
  exact atQ_some (atI_last _ _) q
def sp_Account_len : DSpec := fun ads Q => ∃ (pre : List D) (s : Acc), ads = [.acc (pre ++ [s.D])] ∧ Q (.d (.int (s.used.length : Int))) [.ext (pre ++ [s.D])]
theorem l_Account_len : ∀ ads Q, sp_Account_len ads Q → ads.length = 1 := by rintro _ _ ⟨_, _, rfl, _⟩; rfl
def w_Account_len : DSw := (wRet (wCB fLen (wCons (wOp fIx (wOp fIx (wStates (wVar 0)) (wUn fNeg (wC (.int 1)))) (wC (.int 1))) wNil)))
theorem v_Account_len : Keeps w_Account_len 0 sp_Account_len := by
  rintro ads Q ⟨pre, s, rfl, q⟩
  refine atQ_some (atI_last _ _) ?_
  have e : ((s.used.map D.int).length : Int) = (s.used.length : Int) := by rw [List.length_map]
  show Q (.d (.int ((s.used.map D.int).length : Int))) [.ext (pre ++ [s.D])]
  rw [e]
  exact q
/-! ### use, change, undo -/
def sx_Account_change : DSpecX := fun ads Q X => ∃ (pre : List D) (s : Acc) (d : D), ads = [.acc (pre ++ [s.D]), .d d] ∧ pre.length ≤ 1000 ∧
  (isPlanD d = false → X "InvalidPlan" [.ext (pre ++ [s.D])]) ∧ ∀ p : Plan, d = p.D → p.Ok → Q (.d (.int s.kept)) [.ext (pre ++ [s.D] ++ [(s.change p).D])]
theorem l_X_Account_change : lenX sx_Account_change 2 := by rintro _ _ _ ⟨_, _, _, rfl, _⟩; rfl
def w_X_Account_change : DSw := (wSeq (wDrop (wCallX false sx_check_plan (wCons (wVar 1) wNil))) (wSeq (wAsg (wOp fIx (wStates (wVar 0)) (wUn fNeg (wC (.int 1)))) (wgTup 5 (wgCons (wgName 2) (wgCons (wgName 3) (wgCons (wgName 4) (wgCons (wgName 5) (wgCons (wgName 6) wgNil))))))) (wSeq (wDrop (wAppX (wStates (wVar 0)) (wTup (wCons (wVar 1) (wCons (wVar 3) (wCons (wVar 4) (wCons (wC (.int 0)) (wCons (wOp fAdd (wVar 6) (wVar 5)) wNil)))))))) (wRet (wVar 5)))))
theorem v_X_Account_change : KeepsX w_X_Account_change false 5 sx_Account_change := by
  rintro ads Q X ⟨pre, s, d, rfl, hl, q1, q2⟩
  refine ⟨fun z => Bool.noConfusion z, nod0, d, rfl, fun h => ?_, fun h => xEnds_of (t := false) (x := "InvalidPlan") (by decide) (q1 h)⟩
  obtain ⟨p, rfl, ok⟩ := plan_of h
  refine atQ_some (atI_last _ _) ⟨rfl, rfl, ?_, q2 p rfl ok⟩
  show (pre ++ [s.D]).length < 16000000
  rw [List.length_append]
  show pre.length + 1 < 16000000
  omega
def sx_Account_undo : DSpecX := fun ads Q X => ∃ (ds : List D), ads = [.acc ds] ∧ ds.length ≤ 1000 ∧ 0 < ds.length ∧
  (ds.length = 1 → X "NothingToUndo" [.ext ds]) ∧ (1 < ds.length → Q (.d .non) [.ext ds.dropLast])
theorem l_X_Account_undo : lenX sx_Account_undo 1 := by rintro _ _ _ ⟨_, rfl, _⟩; rfl
def w_X_Account_undo : DSw := (wSeq (wIfS (wTst (wOp fEq (wCB fLenX (wCons (wStates (wVar 0)) wNil)) (wC (.int 1)))) (wRaise "NothingToUndo") wNext) (wDrop (wPopX (wStates (wVar 0)))))
theorem v_X_Account_undo : KeepsX w_X_Account_undo false 0 sx_Account_undo := by
  rintro ads Q X ⟨ds, rfl, hl, h0, q1, q2⟩
  have e : eqD (.int (ds.length : Int)) (.int 1) = decide (ds.length = 1) := by
    show ((ds.length : Int) == 1) = decide (ds.length = 1)
    by_cases h : ds.length = 1
    · rw [h]; rfl
    · rw [decide_eq_false h]
      simp
      omega
  refine ⟨trivial, trivial, ?_⟩
  rw [e]
  by_cases h : ds.length = 1
  · rw [decide_eq_true h]
    exact xEnds_of (t := false) (x := "NothingToUndo") (by decide) (q1 h)
  · rw [decide_eq_false h]
    obtain ⟨a, ha⟩ : ∃ a, ds[ds.length - 1]? = some a := ⟨_, List.getElem?_eq_getElem (by omega)⟩
    exact atQ_some ha (q2 (by omega))
def sx_Account_use : DSpecX := fun ads Q X => ∃ (pre : List D) (s : Acc) (ds : List D), ads = [.acc (pre ++ [s.D]), .d (.tup ds)] ∧ s.Ok ∧ pre.length ≤ 1000 ∧
  (isUnits ds = false → X "InvalidNumber" [.ext (pre ++ [s.D])]) ∧ (isUnits ds = true → 36 < s.used.length + ds.length → X "TooMany" [.ext (pre ++ [s.D])]) ∧
  ∀ us : List Int, ds = us.map D.int → (∀ u ∈ us, 0 ≤ u ∧ u ≤ 1000000) → s.used.length + us.length ≤ 36 → Q (.d (.int ((playM s.plan us s.kept).map Row.cost).sum)) [.ext (pre ++ [s.D] ++ [(s.use us).D])]
theorem l_X_Account_use : lenX sx_Account_use 2 := by rintro _ _ _ ⟨_, _, _, rfl, _⟩; rfl
def w_X_Account_use : DSw := (wSeq (wAsg (wOp fIx (wStates (wVar 0)) (wUn fNeg (wC (.int 1)))) (wgTup 5 (wgCons (wgName 4) (wgCons (wgName 5) (wgCons (wgName 6) (wgCons (wgName 7) (wgCons (wgName 8) wgNil))))))) (wSeq (wFor (wiTup (wVar 1)) (wgName 2) (wIfS (wNotT (wTst (wCall sp_in_range (wCons (wVar 2) (wCons (wC (.int 0)) (wCons (wC (.int 1000000)) wNil)))))) (wRaise "InvalidNumber") wNext)) (wSeq (wIfS (wTst (wOp fGt (wOp fAdd (wCB fLen (wCons (wVar 5) wNil)) (wCB fLen (wCons (wVar 1) wNil))) (wCon (.int 36) (wVar 0)))) (wRaise "TooMany") wNext) (wSeq (wAsg (wVar 6) (wgName 3)) (wSeq (wFor (wiTup (wVar 1)) (wgName 2) (wSeq (wAsg (wCall sp_month (wCons (wVar 4) (wCons (wVar 7) (wCons (wVar 2) wNil)))) (wgName 9)) (wPar3 6 7 8 (wCons (wOp fAdd (wVar 6) (wOp fIx (wVar 9) (wC (.int 0)))) (wCons (wOp fIx (wVar 9) (wC (.int 1))) (wCons (wOp fAdd (wVar 8) (wOp fIx (wVar 9) (wC (.int 2)))) wNil)))))) (wSeq (wDrop (wAppX (wStates (wVar 0)) (wTup (wCons (wVar 4) (wCons (wOp fAdd (wVar 5) (wVar 1)) (wCons (wVar 6) (wCons (wVar 7) (wCons (wVar 8) wNil)))))))) (wRet (wOp fSub (wVar 6) (wVar 3)))))))))
theorem isUnits_take : ∀ (ds : List D) (i : Nat) (d : D), ds[i]? = some d → isUnits ds = true → inR d 0 1000000 = true := fun ds i d e h => List.all_eq_true.mp h d (List.mem_of_getElem? e)
theorem isUnits_no {ds : List D} {i : Nat} {d : D} (e : ds[i]? = some d) (h : inR d 0 1000000 = false) : isUnits ds = false := by
  cases q : isUnits ds with
  | false => rfl
  | true => rw [isUnits_take ds i d e q] at h; cases h
theorem isUnits_all {ds : List D} (h : ∀ (i : Nat) (d : D), ds[i]? = some d → inR d 0 1000000 = true) : isUnits ds = true := List.all_eq_true.mpr fun d hd => by
  obtain ⟨i, hi, e⟩ := List.getElem_of_mem hd
  exact h i d (by rw [List.getElem?_eq_getElem hi, e])
theorem v_X_Account_use : KeepsX w_X_Account_use false 8 sx_Account_use := by
  rintro ads Q X ⟨pre, s, ds, rfl, ok, hl, q1, q2, q3⟩
  refine atQ_some (atI_last _ _) ⟨rfl, ?_⟩
  refine ⟨fun i env M => (∃ x, env = [some (.acc 0), some (.d (.tup ds)), x, none, some (.d s.plan.D), some (.d (usD s.used)), some (.d (.int s.paid)), some (.d (.int s.kept)), some (.d (.int s.lost)), none]) ∧ M = [.ext (pre ++ [s.D])] ∧ ∀ (j : Nat) (d : D), j < i → ds[j]? = some d → inR d 0 1000000 = true, ⟨⟨none, rfl⟩, rfl, fun j d h => by omega⟩, ?_, ?_⟩
  · rintro i t env M ht ⟨⟨x, rfl⟩, rfl, hj⟩
    obtain ⟨d, hd, rfl⟩ := map_get ht
    refine ⟨nod0, d, 0, 1000000, rfl, ?_⟩
    cases h : inR d 0 1000000 with
    | false => exact xEnds_of (t := false) (x := "InvalidNumber") (by decide) (q1 (isUnits_no hd h))
    | true =>
      refine ⟨⟨_, rfl⟩, rfl, fun j e hji he => ?_⟩
      by_cases z : j = i
      · subst z
        rw [hd] at he
        cases he
        exact h
      · exact hj j e (by omega) he
  · rintro env M ⟨⟨x, rfl⟩, rfl, hj⟩
    have hu : isUnits ds = true := isUnits_all fun i d e => hj i d (by rw [List.length_map]; exact (List.getElem?_eq_some_iff.mp e).1) e
    obtain ⟨us, rfl, hus⟩ := units_of hu
    have el : (((s.used.map D.int).length : Int) + ((us.map D.int).length : Int)) = ((s.used.length + us.length : Nat) : Int) := by rw [List.length_map, List.length_map]; omega
    show if decide ((36 : Int) < ((s.used.map D.int).length : Int) + ((us.map D.int).length : Int)) = true then _ else _
    rw [el]
    by_cases h36 : 36 < s.used.length + us.length
    · rw [decide_eq_true (by omega)]
      exact xEnds_of (t := false) (x := "TooMany") (by decide) (q2 hu (by rw [List.length_map]; exact h36))
    · rw [decide_eq_false (by omega)]
      refine ⟨fun i env M => (∃ x y, env = [some (.acc 0), some (.d (.tup (us.map D.int))), x, some (.d (.int s.paid)), some (.d s.plan.D), some (.d (usD s.used)), some (.d (.int (s.paid + ((playM s.plan (us.take i) s.kept).map Row.cost).sum))), some (.d (.int (kAfter s.plan (us.take i) s.kept))), some (.d (.int (s.lost + ((playM s.plan (us.take i) s.kept).map Row.lost).sum))), y]) ∧ M = [.ext (pre ++ [s.D])], ⟨⟨x, none, ?_⟩, rfl⟩, ?_, ?_⟩
      · simp [playM, kAfter]
      · rintro i t env M ht ⟨⟨x, y, rfl⟩, rfl⟩
        obtain ⟨u, hu', rfl⟩ := dmap_get ht
        have e1 := take_suc hu'
        refine ⟨nod0, s.plan, _, u, rfl, ok.plan, ⟨some (.d (.int u)), some (.d (monthM s.plan (kAfter s.plan (us.take i) s.kept) u).D), ?_⟩, rfl⟩
        rw [e1, playM_snoc, kAfter_snoc, List.map_append, List.map_append, List.sum_append, List.sum_append]
        simp only [List.map_cons, List.map_nil, List.sum_cons, List.sum_nil, Int.add_zero, ← Int.add_assoc]
        rfl
      · rintro env M ⟨⟨x, y, rfl⟩, rfl⟩
        rw [List.length_map, List.length_map, List.take_length]
        refine ⟨?_, rfl, ?_, ?_⟩
        · show (s.used.map D.int).length + (us.map D.int).length ≤ 16000000
          rw [List.length_map, List.length_map]; omega
        · show (pre ++ [s.D]).length < 16000000
          rw [List.length_append]
          show pre.length + 1 < 16000000
          omega
        · have q := q3 us rfl hus (by omega)
          have e2 : s.paid + ((playM s.plan us s.kept).map Row.cost).sum - s.paid = ((playM s.plan us s.kept).map Row.cost).sum := by omega
          rw [← e2] at q
          have e3 : (s.use us).D = .tup [s.plan.D, .tup (s.used.map D.int ++ us.map D.int), .int (s.paid + ((playM s.plan us s.kept).map Row.cost).sum), .int (kAfter s.plan us s.kept), .int (s.lost + ((playM s.plan us s.kept).map Row.lost).sum)] := by
            rw [← List.map_append]; rfl
          rw [e3] at q
          exact q
end R
/-! Layer R, part 46: all usages of some months. -/
namespace R
open PySem L2 Evl
def extI (n : Nat) (r : List Int) : List (List Int) := (List.range n).map fun (x : Nat) => r ++ [(x : Int)]
def alM (n : Nat) : Nat → List (List Int)
  | 0 => [[]]
  | c + 1 => (alM n c).flatMap (extI n)
theorem extI_len (n : Nat) (r : List Int) : (extI n r).length = n := by unfold extI; rw [List.length_map, List.length_range]
theorem flatI_len (n : Nat) : ∀ rs : List (List Int), (rs.flatMap (extI n)).length = n * rs.length
  | [] => rfl
  | r :: rs => by rw [List.flatMap_cons, List.length_append, extI_len, flatI_len n rs, List.length_cons, Nat.mul_add]; omega
theorem alM_len (n : Nat) : ∀ c, (alM n c).length = n ^ c
  | 0 => rfl
  | c + 1 => by
    show ((alM n c).flatMap (extI n)).length = _
    rw [flatI_len, alM_len n c, Nat.pow_succ, Nat.mul_comm]
theorem mem_alM (n : Nat) : ∀ (c : Nat) (r : List Int), r ∈ alM n c → r.length = c ∧ ∀ x ∈ r, 0 ≤ x ∧ x < n
  | 0, r, h => by
    have h : r ∈ [[]] := h
    rw [List.mem_singleton] at h
    subst h
    exact ⟨rfl, fun x hx => by cases hx⟩
  | c + 1, r, h => by
    have h : r ∈ (alM n c).flatMap (extI n) := h
    rw [List.mem_flatMap] at h
    obtain ⟨s, hs, hr⟩ := h
    obtain ⟨x, hx, rfl⟩ := List.mem_map.mp hr
    have hx := List.mem_range.mp hx
    obtain ⟨h1, h2⟩ := mem_alM n c s hs
    refine ⟨by rw [List.length_append, h1]; rfl, fun y hy => ?_⟩
    rcases List.mem_append.mp hy with hy | hy
    · exact h2 y hy
    · rw [List.mem_singleton.mp hy]; omega
theorem alM_le {n c : Nat} (hn : n ≤ 6) (hc : c ≤ 5) : (alM n c).length ≤ 7776 := by
  rw [alM_len]
  exact Nat.le_trans (Nat.pow_le_pow_left hn c) (Nat.pow_le_pow_right (by decide) hc)
/-- the costs asked of -/
def costD : Option Int → D
  | none => .non
  | some x => .int x
def CoOk : Option Int → Prop
  | none => True
  | some x => 0 ≤ x ∧ x ≤ 1000000000
def isCo (p : Plan) (co : Option Int) (r : List Int) : Bool := match co with
  | none => true
  | some x => costM p r == x
def rowsM (p : Plan) (n c : Nat) (co : Option Int) : List (List Int) := (alM n c).filter (isCo p co)
def sp_rows_of : DSpec := fun ads Q => ∃ (p : Plan) (c m : Nat) (co : Option Int), ads = [.d p.D, .d (.int (c : Int)), .d (.int (m : Int)), .d (costD co)] ∧ p.Ok ∧ c ≤ 5 ∧ m ≤ 5 ∧ CoOk co ∧ Q (.d (.lst ((rowsM p (m + 1) c co).map usD))) []
theorem l_rows_of : ∀ ads Q, sp_rows_of ads Q → ads.length = 4 := by rintro _ _ ⟨_, _, _, _, rfl, _⟩; rfl
def w_rows_of : DSw := (wSeq (wDrop (wCall sp_check_plan (wCons (wVar 0) wNil))) (wSeq (wDrop (wCall sp_check_number (wCons (wVar 1) (wCons (wC (.int 0)) (wCons (wC (.int 5)) wNil))))) (wSeq (wDrop (wCall sp_check_number (wCons (wVar 2) (wCons (wC (.int 0)) (wCons (wC (.int 5)) wNil))))) (wSeq (wIfS (wTst (wOp fNotN (wVar 3) (wC .non))) (wDrop (wCall sp_check_number (wCons (wVar 3) (wCons (wC (.int 0)) (wCons (wC (.int 1000000000)) wNil))))) wNext) (wSeq (wAsg (wLst (wCons (wTup wNil) wNil)) (wgName 4)) (wSeq (wFor (wiR1 (wCons (wVar 1) wNil)) (wgName 5) (wSeq (wAsg (wLst wNil) (wgName 6)) (wSeq (wFor (wiLst (wVar 4)) (wgName 7) (wAsg (wOp fAdd (wVar 6) (wLc (wiR1 (wCons (wOp fAdd (wVar 2) (wC (.int 1))) wNil)) (wgName 8) wYes (wOp fAdd (wVar 7) (wTup (wCons (wVar 8) wNil))) [8])) (wgName 6))) (wAsg (wVar 6) (wgName 4))))) (wRet (wLc (wiLst (wVar 4)) (wgName 7) (wOrT (wTst (wOp fIsN (wVar 3) (wC .non))) (wTst (wOp fEq (wCall sp_cost_of (wCons (wVar 0) (wCons (wVar 7) wNil))) (wVar 3)))) (wVar 7) [7]))))))))
def w_rows_tail : DSw := (wSeq (wAsg (wLst (wCons (wTup wNil) wNil)) (wgName 4)) (wSeq (wFor (wiR1 (wCons (wVar 1) wNil)) (wgName 5) (wSeq (wAsg (wLst wNil) (wgName 6)) (wSeq (wFor (wiLst (wVar 4)) (wgName 7) (wAsg (wOp fAdd (wVar 6) (wLc (wiR1 (wCons (wOp fAdd (wVar 2) (wC (.int 1))) wNil)) (wgName 8) wYes (wOp fAdd (wVar 7) (wTup (wCons (wVar 8) wNil))) [8])) (wgName 6))) (wAsg (wVar 6) (wgName 4))))) (wRet (wLc (wiLst (wVar 4)) (wgName 7) (wOrT (wTst (wOp fIsN (wVar 3) (wC .non))) (wTst (wOp fEq (wCall sp_cost_of (wCons (wVar 0) (wCons (wVar 7) wNil))) (wVar 3)))) (wVar 7) [7]))))
theorem v_rows_of : Keeps w_rows_of 5 sp_rows_of := by
  rintro ads Q ⟨p, c, m, co, rfl, ok, hc, hm, hco, q⟩
  refine ⟨nod0, p, rfl, ok, nod0, (c : Int), 0, 5, rfl, by omega, by omega, nod0, (m : Int), 0, 5, rfl, by omega, by omega, ?_⟩
  have key : ∀ (env : Env), env = [some (.d p.D), some (.d (.int (c : Int))), some (.d (.int (m : Int))), some (.d (costD co)), none, none, none, none, none] →
      w_rows_tail XF (dEnds 0 Q) env [] := by
    rintro env rfl
    refine ⟨rfl, rfl, ⟨by omega, by omega⟩, fun t env M => ∃ x5 x6 x7 x8, env = [some (.d p.D), some (.d (.int (c : Int))), some (.d (.int (m : Int))), some (.d (costD co)), some (.d (.lst ((alM (m + 1) t).map usD))), x5, x6, x7, x8] ∧ M = [], ⟨_, _, _, _, rfl, rfl⟩, ?_, ?_⟩
    · rintro t s env M hs ⟨x5, x6, x7, x8, rfl, rfl⟩
      obtain ⟨ht, rfl⟩ := rng_get hs
      have ht : t < c := by
        have : ((c : Int)).toNat = c := Int.toNat_natCast c
        omega
      have rl := alM_le (n := m + 1) (c := t) (by omega) (by omega)
      refine ⟨rfl, fun j env M => ∃ x7 x8, env = [some (.d p.D), some (.d (.int (c : Int))), some (.d (.int (m : Int))), some (.d (costD co)), some (.d (.lst ((alM (m + 1) t).map usD))), some (.d (.int (0 + (t : Int)))), some (.d (.lst ((((alM (m + 1) t).take j).flatMap (extI (m + 1))).map usD))), x7, x8] ∧ M = [], ⟨_, _, rfl, rfl⟩, ?_, ?_⟩
      · rintro j s env M hs ⟨x7, x8, rfl, rfl⟩
        obtain ⟨r, hr, rfl⟩ := dmap_get hs
        have hrm := mem_alM (m + 1) t r (List.mem_of_getElem? hr)
        have hj : j < (alM (m + 1) t).length := (List.getElem?_eq_some_iff.mp hr).1
        refine ⟨⟨by omega, by omega⟩, ?_⟩
        show dLc _ _ _ _ _ (rngS 0 ((m : Int) + 1).toNat) _ _ _
        rw [show ((m : Int) + 1).toNat = m + 1 by omega]
        refine dLc_map (List.range (m + 1)) (fun (i : Nat) => S.d (.int (0 + (i : Int)))) (fun (i : Nat) => usD (r ++ [(i : Int)])) (by rw [List.length_range]; show 0 + (m + 1) ≤ _; omega) (fun i hi k hk => ⟨rfl, by show (r.map D.int).length + 1 ≤ 16000000; rw [List.length_map]; omega, ?_⟩) ?_
        · have eu : D.tup (r.map D.int ++ [.int (0 + (i : Int))]) = usD (r ++ [(i : Int)]) := by unfold usD; rw [List.map_append, Int.zero_add]; rfl
          rw [eu]
          exact hk
        · have e1 := take_suc hr
          have e2 : (List.range (m + 1)).map (fun (i : Nat) => usD (r ++ [(i : Int)])) = (extI (m + 1) r).map usD := by unfold extI; rw [List.map_map]; rfl
          rw [List.nil_append, e2]
          have f1 : (((alM (m + 1) t).take j).flatMap (extI (m + 1))).length ≤ 6 * 7776 := by
            rw [flatI_len, List.length_take]
            exact Nat.mul_le_mul (by omega) (by omega)
          refine ⟨by rw [List.length_map, List.length_map, extI_len]; omega, some (.d (usD r)), x8, ?_, rfl⟩
          rw [e1, List.flatMap_append, List.map_append, List.flatMap_cons, List.flatMap_nil, List.append_nil]
          rfl
      · rintro env M ⟨x7, x8, rfl, rfl⟩
        rw [List.length_map, List.length_map, List.take_length]
        exact ⟨_, _, _, _, rfl, rfl⟩
    · rintro env M ⟨x5, x6, x7, x8, rfl, rfl⟩
      have e : (rngS 0 ((c : Int)).toNat).length = c := by rw [rngS_len, Int.toNat_natCast]
      rw [show (rngS 0 (Int.toNat (c : Int))).length = c from e]
      have rl := alM_le (n := m + 1) (c := c) (by omega) (by omega)
      refine dLc_dfilt (alM (m + 1) c) usD (isCo p co) usD (by omega) (fun r hr k hk => ?_) q
      have hrm := mem_alM (m + 1) c r hr
      cases co with
      | none => exact hk
      | some x =>
        refine ⟨nod0, p, r, rfl, ok, by omega, trivial, trivial, ?_⟩
        revert hk
        show k (if isCo p (some x) r = true then some (.d (usD r)) else none) [] → (if isCo p (some x) r = true then k (some (.d (usD r))) [] else k none [])
        cases isCo p (some x) r <;> exact fun z => z
  cases co with
  | none => exact key _ rfl
  | some x => exact ⟨nod0, x, 0, 1000000000, rfl, hco.1, hco.2, key _ rfl⟩
def sx_count_usages : DSpecX := fun ads Q _ => ∃ (p : Plan) (c m : Nat) (co : Option Int), ads = [.d p.D, .d (.int (c : Int)), .d (.int (m : Int)), .d (costD co)] ∧ p.Ok ∧ c ≤ 5 ∧ m ≤ 5 ∧ CoOk co ∧ Q (.d (.int ((rowsM p (m + 1) c co).length : Int))) []
theorem l_X_count_usages : lenX sx_count_usages 4 := by rintro _ _ _ ⟨_, _, _, _, rfl, _⟩; rfl
def w_X_count_usages : DSw := (wRet (wCB fLen (wCons (wCall sp_rows_of (wCons (wVar 0) (wCons (wVar 1) (wCons (wVar 2) (wCons (wVar 3) wNil))))) wNil)))
theorem v_X_count_usages : KeepsX w_X_count_usages false 0 sx_count_usages := by
  rintro ads Q X ⟨p, c, m, co, rfl, ok, hc, hm, hco, q⟩
  refine ⟨nod0, p, c, m, co, rfl, ok, hc, hm, hco, ?_⟩
  have e : (((rowsM p (m + 1) c co).map usD).length : Int) = ((rowsM p (m + 1) c co).length : Int) := by rw [List.length_map]
  show Q (.d (.int (((rowsM p (m + 1) c co).map usD).length : Int))) []
  rw [e]
  exact q
end R
/-! Layer R, part 47: a function value that stands in the state; a lambda makes one. -/
namespace LZ
open PySem PySem.Spec PyProof.Rows L2 LamX Evl
/-- what the making of a lambda does to the tracked heap -/
def Grown (H H1 : Hp) (P : Addr) (q : Str) (cc : Addr) : Prop :=
  ∃ (ps : Array Value) (pos : Pos), H P = some (.tbl ps) ∧
    ((H1 = H ∧ codeAmong pos ps.toList = some (.ref cc)) ∨
     (H cc = none ∧ H1 = upd (upd H P (.tbl (ps ++ #[rawInt pos.line, rawInt pos.col, .ref cc]))) cc (CodeO cc q)))
/-- a function without parameters that stands in the state s, H -/
structure Act (P : Program) (w : World) (K : PySem.W.Frag) (mg : Str → Option Value) (base : Heap) (k : Nat)
    (fs : List Addr) (s : Shared) (H : Hp) (f : Addr) (tl : XK → Hp → VK → Prop) : Prop where
  fn : ∀ (s1 : Shared) (H1 : Hp), Un fs [] H H1 s.heap s1.heap → Ex H H1 → HOk P w H1 s1.heap → PySem.W.FnAt f s1.heap
  run : ∀ (A : Around) (outer : List Env) (s1 : Shared) (H1 : Hp) (Q : VK) (E : XK), Room k A →
    Env0 P w K mg base A outer s1 H1 → Un fs [] H H1 s.heap s1.heap → Ex H H1 → tl E H1 Q →
    codeAny (model P w) A (.call (.ref f) ⟨[], []⟩) (CR (L2N.CX P w) outer P w H1 s1 Q E) s1
section
variable {X : Cx} {pins : List (Addr × Obj)} {σ : L2.St} {H : Hp} {s : Shared}
theorem lam_mk {P c : Addr} {params : Arguments} {body : Expr} {scope : Scope} {pos : Pos}
    {Er : Value → Shared → Prop} {Q : Value → Shared → Prop} (I : Inv X pins σ H s)
    (TB : TabB X.base X.mg c P) (hc : X.env.code = .ref c) (ht : TabS H P (X.env.qual ++ "<lambda>"))
    (hd : defaultsOf params X.env = ([], []))
    (hf : ∀ y ∈ scope.names, y.2 = .free → ∃ d, X.env.cells.lookup y.1 = some d)
    (k : ∀ (f cc : Addr) (pm ct : Value) (H1 : Hp) (s1 : Shared), Inv X pins σ H1 s1 →
      Grown H H1 P (X.env.qual ++ "<lambda>") cc →
      s1.heap.get? f = some (PySem.W.kla_obj "<lambda>" (X.env.qual ++ "<lambda>") params body scope
        (cloFrom X.env.cells scope.names []) pm cc ct) →
      H1 f = none → f ∉ frs X.stack → H1 cc = some (CodeO cc (X.env.qual ++ "<lambda>")) → s.heap.objs.size ≤ f → Q (.ref f) s1) :
    wpAny (model X.prog X.w) X.A (eval (.Lambda params body scope pos) X.env) Q Er s := by
  obtain ⟨ps, hP, tr, al⟩ := ht
  have gP : s.heap.get? P = some { cls := .none, data := .fields ps } := I.hok P _ hP
  have bb : s.heap.BuiltinsAt X.mg P := TB.bm.keeps I.bk
  have far : ∀ f : Addr, s.heap.objs.size ≤ f → f ∉ frs X.stack := by
    intro f le z
    cases List.mem_cons.mp (I.stkSub _ z) with
    | inl e =>
      have lt := I.lt
      rw [← e] at lt
      exact absurd (Nat.lt_of_lt_of_le lt le) (Nat.lt_irrefl _)
    | inr e => exact I.nofs le e
  apply PySem.W.kla_eval hd
  rcases hq : codeAmong pos ps.toList with _ | cv
  · apply PySem.W.kla_makeFunction (mg := X.mg) (c := c) (P := P) (ps := ps) (closure_ok hf) I.ok.glob
      (I.mod.glob.keeps I.bk) hc (TB.code.keeps I.bk) gP tr hq TB.gP bb
    intro cc ct h1 tk ext le lt rec tab
    obtain ⟨c0, oc, vs, t, ec, h2, h3, h4⟩ := rec
    cases ec
    have szs : s.heap.objs.size ≤ h1.objs.size := Nat.le_trans le (Nat.le_of_lt lt)
    have nc : H cc = none := I.hok.fresh le
    have J := inv_table (t' := tk) (q := X.env.qual ++ "<lambda>") (c := cc)
      (more := #[rawInt pos.line, rawInt pos.col, .ref cc])
      (h' := h1.push (PySem.W.kla_obj "<lambda>" (X.env.qual ++ "<lambda>") params body scope
        (cloFrom X.env.cells scope.names []) ((X.mg "__name__").getD .none) cc ct)) I hP
      (fun b o nb e => Heap.get?_push_of_some _ (ext b o nb e)) (Heap.get?_push_of_some _ tab) le
      ⟨oc, vs, t, Heap.get?_push_of_some _ h2, h3, h4⟩
    refine k h1.objs.size cc _ ct _ _ J ⟨ps, pos, hP, .inr ⟨nc, rfl⟩⟩ (Heap.get?_push_size _ rfl) ?_ (far _ szs) upd_same szs
    rw [upd_ne (Nat.ne_of_gt lt), upd_ne (Nat.ne_of_gt (Nat.lt_of_lt_of_le (Heap.lt_size gP) szs))]
    exact I.hok.fresh szs
  · obtain ⟨cc, e, hk⟩ := al pos cv hq
    subst e
    apply PySem.W.kla_makeFunctionHit (mg := X.mg) (c := c) (P := P) (ps := ps) (closure_ok hf) I.ok.glob
      (I.mod.glob.keeps I.bk) hc (TB.code.keeps I.bk) gP tr hq bb
    intro ct h1 tk ext szs
    exact k h1.objs.size cc _ ct H _ (I.kept (t' := tk) fun b o e => Heap.get?_push_of_some _ (ext b o e))
      ⟨ps, pos, hP, .inl ⟨rfl, hq⟩⟩ (Heap.get?_push_size _ rfl) (I.hok.fresh szs) (far _ szs) hk szs
/-- the context of a lambda's body, its exceptions with the context None -/
def cxLam (X : Cx) (A : Around) (outer : List Env) (s : Shared) (H : Hp) (E : XK) (scope : Scope) (f cc : Addr) : Cx :=
  (lamCx X A outer s H E scope f cc).wish fun e s1 =>
    wpAny (model X.prog X.w) (A.deeper (lamEnv X scope s.heap.objs.size f cc)) (leaving (lamEnv X scope s.heap.objs.size f cc) e)
      (fun _ s2 => L2N.CX X.prog X.w outer H s E e s2) (fun e2 s2 => L2N.CX X.prog X.w outer H s E e2 s2) s1
theorem act_lam {params : Arguments} {body : Expr} {scope : Scope} {k : Nat} {f cc : Addr} {pm ct : Value} {tb : XK → TE}
    (I : Inv X pins σ H s) (L : LamS X.env.scope scope)
    (hf : s.heap.get? f = some (PySem.W.kla_obj "<lambda>" (X.env.qual ++ "<lambda>") params body scope
        (cloFrom X.env.cells scope.names []) pm cc ct))
    (hn : H f = none) (hs : f ∉ frs X.stack) (hc : H cc = some (CodeO cc (X.env.qual ++ "<lambda>")))
    (hb : ∀ (q : Str) (cl : List (Str × Addr)) (pm cv ctv : Value), bindArgs (PySem.W.kla_fn "<lambda>" q params body scope cl pm cv ctv) ⟨[], []⟩ = pure [])
    (hbody : ∀ (A : Around) (outer : List Env) (s : Shared) (H : Hp) (E : XK), Room k (A.deeper (lamEnv X scope s.heap.objs.size f cc)) →
      PE (cxLam X A outer s H E scope f cc) body (tb E)) :
    Act X.prog X.w X.K X.mg X.base (k + 1) (frs X.stack) s H f (fun E H1 Q => tb E σ H1 Q) := by
  refine ⟨fun s1 H1 un _ _ => ⟨_, _, _, _, un.keep f _ hf hn hs (fun z => by cases z)⟩, fun A outer s1 H1 Q E room e0 un ex ht => ?_⟩
  have o1 := un.keep f _ hf hn hs (fun z => by cases z)
  obtain ⟨⟨oc, vs, t, a1, a2, a3⟩, _, _⟩ := e0.hok cc _ (ex _ _ hc)
  refine PySem.W.kla_callFunE room.depth o1 rfl L.co L.gen rfl ⟨cc, oc, vs, t, rfl, a1, a2, a3⟩ ?_
  rw [hb]
  have lim : s1.heap.NoLimit := e0.mod.nolimit.keeps fun b o e => (e0.bs b o e).1
  refine wpAny_pure (wpAny_newFunctionEnv (fun y hy => (L.own y hy).2) (fun y hy => by cases hy) (fun h2 ns sb => ⟨lim.fresh _ sb, ?_⟩) L.kind)
  have kp : ∀ b o, s1.heap.get? b = some o → h2.get? b = some o := by
    intro b o e
    exact sb.extBut b o (Nat.ne_of_lt (Heap.lt_size e)) (Heap.get?_push_of_some _ e)
  have J := (lam_start2 (E := E) (f := f) (c' := cc) (tk := s1.toks + ([] : List (Str × Value)).length) I L e0 room.hd un ns kp).wish
    fun e s3 => wpAny (model X.prog X.w) (A.deeper (lamEnv X scope s1.heap.objs.size f cc)) (leaving (lamEnv X scope s1.heap.objs.size f cc) e)
      (fun _ s2 => L2N.CX X.prog X.w outer H1 s1 E e s2) (fun e2 s2 => L2N.CX X.prog X.w outer H1 s1 E e2 s2) s3
  refine PySem.W.kla_codeExpr (wpAny_mono ((hbody A outer s1 H1 E (room.deeper _)).run [] _ _ H1 Q J ht) (fun v s3 hq => ?_) fun e s3 hq => hq)
  obtain ⟨v2, H2, J2, rv, q⟩ := hq
  exact ⟨v2, H2, J2.os, J2.bare, J2.base, J2.hok, rv, q⟩
end
end LZ
/-! Layer R, part 48: zip of two lists walked while an exception is handled; a comprehension over it. -/
namespace LZ
open PySem PySem.Spec PyProof.Rows L2 LamX Evl HotX L2H
section
variable {prog : Program} {w : World} {A : Around} {E : Value → Shared → Prop} {s : Shared}
/-- the end of a list's iterator -/
theorem nx_end_hot {it l x1 : Addr} {i : Nat} {items : Array Value} {Q : Value → Shared → Prop} (hot : HotAt A x1 s.heap) (nx : x1 ≠ it)
    (hit : s.heap.IsListIter it l i) (hl : s.heap.IsList l items) (hx : items[i]? = none)
    (k : ∀ h' e, Heap.ExtBut it s.heap h' → (∃ o, h'.get? e = some o ∧ o.cls = .type "StopIteration") → E (.ref e) { s with heap := h' }) :
    wpAny (model prog w) A (Builtin.SmallTypes.nextOf (.ref it)) Q E s := by
  have ty := hit.typeIs
  obtain ⟨oi, gi, ci, di⟩ := hit
  obtain ⟨ol, gl, _, nl, dl⟩ := hl
  obtain ⟨hh, o1, vs1, h1, d1, c1⟩ := hot
  unfold Builtin.SmallTypes.nextOf
  apply wpAny_bind
  apply wpAny_callSpecial?_slot (name := Str.ofString "__next__") ty slot_listiter_next
  apply wpAny_call_entry slot_listiter_next ty entry_listiter_next _ (args_listiter_next _)
  change wpAny _ _ (field (.ref it) 0 >>= _) _ _ s
  apply wpAny_bind
  apply wpAny_field gi di (x := .ref l) rfl
  change wpAny _ _ (if (Value.ref l == Value.none) = true then _ else _) _ _ s
  rw [if_neg (by exact Bool.false_ne_true)]
  change wpAny _ _ (field (.ref it) 1 >>= _) _ _ s
  apply wpAny_bind
  apply wpAny_field gi di (x := .int i 0) rfl
  change wpAny _ _ (seqItems? (.ref l) >>= _) _ _ s
  apply wpAny_bind
  apply wpAny_seqItems gl dl
  simp only [Int.toNat_natCast, hx]
  apply wpAny_bind
  apply wpAny_rule
  apply wpAny_bind
  apply wpAny_setField gi di (by simp)
  have g1 := Heap.get?_update_other s.heap (Obj.mapFields (·.setIfInBounds 0 Value.none)) (Ne.symm nx)
  rw [h1] at g1
  change wpAny _ _ (newExc (.type "StopIteration") [] >>= _) _ _ _
  apply wpAny_bind
  simp only [newExc, newTuple]
  apply wpAny_bind
  refine wpAny_newObj_type ?_ (by size_fits)
  refine wpAny_bind (m := firstArgMember _ _) (wpAny_of_eq (a := Value.none) (by first | rfl | (simp only [firstArgMember]; rfl)) ?_)
  refine wpAny_newObj_type ?_ (by size_fits)
  have g2 := fun o o' => Heap.get?_push_of_some o' (Heap.get?_push_of_some o g1)
  refine raiseNew_hot ⟨hh, o1, vs1, g2 _ _, d1, c1⟩ (Nat.ne_of_lt (Heap.lt_size (Heap.get?_push_of_some _ g1))) (Heap.get?_push_size _ rfl) rfl (by first | (simp; done) | (simp; omega) | (simp only [Array.size_append]; simp; omega)) ?_
  refine k _ _ (fun b o nb e => ?_) ⟨_, Heap.get?_update_self _ (Heap.get?_push_size _ rfl) rfl, rfl⟩
  have e1 := Heap.get?_update_other s.heap (Obj.mapFields (·.setIfInBounds 0 Value.none)) (Ne.symm nb)
  rw [e] at e1
  rw [Heap.get?_update_other _ _ (Nat.ne_of_gt (Heap.lt_size (Heap.get?_push_of_some _ e1)))]
  exact Heap.get?_push_of_some _ (Heap.get?_push_of_some _ e1)
theorem zip_end_hot {z TI TO i1 i2 l1 x1 : Addr} {k1 : Nat} {xs : Array Value} {Q : Option Value → Shared → Prop} (hot : HotAt A x1 s.heap) (n1 : x1 ≠ z) (n2 : x1 ≠ i1)
    (D1 : i1 ≠ z) (D2 : l1 ≠ z) (hz : IsZip s.heap z TI TO .none) (hTI : IsPair s.heap TI (.ref i1) (.ref i2))
    (hi : s.heap.IsListIter i1 l1 k1) (hl : s.heap.IsList l1 xs) (hx : xs[k1]? = none)
    (k : ∀ h', (∀ c o, c ≠ z → c ≠ i1 → s.heap.get? c = some o → h'.get? c = some o) → Q none { s with heap := h' }) :
    wpAny (model prog w) A (pyNext (.ref z)) Q E s := by
  have hT : s.TypeIs (.ref z) "zip" := ⟨_, hz, rfl⟩
  obtain ⟨hh, o1, vs1, h1, d1, c1⟩ := hot
  unfold pyNext
  apply wpAny_bind
  apply wpAny_attempt
  apply wpAny_callSpecial?_slot (name := Str.ofString "__next__") hT F.slot_zip_next
  apply wpAny_call_entry F.slot_zip_next hT F.entry_zip_next _ (F.args_zip_next_1 _)
  change wpAny _ _ (field (.ref z) 2 >>= _) _ _ s
  apply wpAny_bind
  apply wpAny_field hz rfl (x := .bool false) rfl
  change wpAny _ _ (field (.ref z) 3 >>= _) _ _ s
  apply wpAny_bind
  apply wpAny_field hz rfl (x := .ref TI) rfl
  apply wpAny_bind
  apply wpAny_seqItems hTI rfl
  change wpAny _ _ (Builtin.SmallTypes.ownedTupleIsFree (.ref z) >>= _) _ _ _
  apply wpAny_bind
  unfold Builtin.SmallTypes.ownedTupleIsFree
  apply wpAny_bind
  apply wpAny_field hz rfl (x := .none) rfl
  apply wpAny_pure
  simp only [if_true]
  apply wpAny_bind
  apply wpAny_rule
  apply wpAny_bind
  apply wpAny_field hz rfl (x := .ref TO) rfl
  apply wpAny_bind
  refine wpAny_setField_rec hz (by simp) fun ha za sa => ?_
  replace za : IsZip ha z TI TO .ellipsis := za
  apply wpAny_bind
  simp only [List.zipIdx_cons, List.zipIdx_nil, List.forIn_cons, List.forIn_nil]
  apply wpAny_bind
  apply wpAny_bind
  apply wpAny_onRaise
  change wpAny _ _ (Builtin.SmallTypes.nextOf (.ref i1) >>= _) _ _ _
  apply wpAny_bind
  refine nx_end_hot (s := { s with heap := ha }) (x1 := x1) ⟨hh, o1, vs1, sa.extBut _ _ n1 h1, d1, c1⟩ n2 (hi.extBut sa.extBut D1) (hl.extBut sa.extBut D2) hx fun hb e eb he => ?_
  obtain ⟨oe, ge, ce⟩ := he
  have zb : IsZip hb z TI TO .ellipsis := eb _ _ (Ne.symm D1) za
  have ez : e ≠ z := by
    rintro rfl
    rw [zb] at ge
    cases ge
    simp at ce
  refine wpAny_setField_rec zb (by simp) fun hc _ sc => ?_
  apply wpAny_bind
  refine wpAny_isInstance (T := "StopIteration") (b := true) ⟨oe, sc.extBut _ _ ez ge, ce⟩ isSubtype_stop ?_
  exact wpAny_pure (k _ fun c o c1 c2 x => sc.extBut _ _ c1 (eb _ _ c2 (sa.extBut _ _ c1 x)))
/-- the end of a tuple's iterator -/
theorem tup_end_hot {it t x1 : Addr} {i : Nat} {items : Array Value} {Q : Option Value → Shared → Prop} (hot : HotAt A x1 s.heap) (nx : x1 ≠ it)
    (hit : IsTupIter s.heap it t i) (ht : IsTup s.heap t items) (hx : items[i]? = none)
    (k : ∀ h', Heap.ExtBut it s.heap h' → Q none { s with heap := h' }) : wpAny (model prog w) A (pyNext (.ref it)) Q E s := by
  have ty := hit.typeIs
  obtain ⟨oi, gi, ci, di⟩ := hit
  obtain ⟨ol, gl, _, nl, dl⟩ := ht
  obtain ⟨hh, o1, vs1, h1, d1, c1⟩ := hot
  unfold pyNext
  apply wpAny_bind
  apply wpAny_attempt
  apply wpAny_callSpecial?_slot (name := Str.ofString "__next__") ty slot_tupleiter_next
  apply wpAny_call_entry slot_tupleiter_next ty entry_tupleiter_next _ (args_tupleiter_next _)
  change wpAny _ _ (field (.ref it) 0 >>= _) _ _ s
  apply wpAny_bind
  apply wpAny_field gi di (x := .ref t) rfl
  change wpAny _ _ (if (Value.ref t == Value.none) = true then _ else _) _ _ s
  rw [if_neg (by exact Bool.false_ne_true)]
  change wpAny _ _ (field (.ref it) 1 >>= _) _ _ s
  apply wpAny_bind
  apply wpAny_field gi di (x := .int i 0) rfl
  change wpAny _ _ (seqItems? (.ref t) >>= _) _ _ s
  apply wpAny_bind
  apply wpAny_seqItems gl dl
  simp only [Int.toNat_natCast, hx]
  apply wpAny_bind
  apply wpAny_rule
  apply wpAny_bind
  apply wpAny_setField gi di (by simp)
  have g1 := Heap.get?_update_other s.heap (Obj.mapFields (·.setIfInBounds 0 Value.none)) (Ne.symm nx)
  rw [h1] at g1
  change wpAny _ _ (newExc (.type "StopIteration") [] >>= _) _ _ _
  apply wpAny_bind
  simp only [newExc, newTuple]
  apply wpAny_bind
  refine wpAny_newObj_type ?_ (by size_fits)
  refine wpAny_bind (m := firstArgMember _ _) (wpAny_of_eq (a := Value.none) (by first | rfl | (simp only [firstArgMember]; rfl)) ?_)
  refine wpAny_newObj_type ?_ (by size_fits)
  have g2 := fun o o' => Heap.get?_push_of_some o' (Heap.get?_push_of_some o g1)
  refine raiseNew_hot ⟨hh, o1, vs1, g2 _ _, d1, c1⟩ (Nat.ne_of_lt (Heap.lt_size (Heap.get?_push_of_some _ g1))) (Heap.get?_push_size _ rfl) rfl (by first | (simp; done) | (simp; omega) | (simp only [Array.size_append]; simp; omega)) ?_
  refine wpAny_bind (wpAny_isInstance (T := "StopIteration") (b := true) ⟨_, Heap.get?_update_self _ (Heap.get?_push_size _ rfl) rfl, rfl⟩ isSubtype_stop ?_)
  refine wpAny_pure (k _ fun b o nb e => ?_)
  have e1 := Heap.get?_update_other s.heap (Obj.mapFields (·.setIfInBounds 0 Value.none)) (Ne.symm nb)
  rw [e] at e1
  rw [Heap.get?_update_other _ _ (Nat.ne_of_gt (Heap.lt_size (Heap.get?_push_of_some _ e1)))]
  exact Heap.get?_push_of_some _ (Heap.get?_push_of_some _ e1)
/-- a tuple told out over its targets -/
theorem asg_tup_hot {env : Env} {elts : List Expr} {kk : Nat} {pos : Pos} {t x1 : Addr} {items : Array Value} {Q : Unit → Shared → Prop} (hot : HotAt A x1 s.heap) (ht : IsTup s.heap t items)
    (hn : (assignEach elts env).length = items.size) (hst : (assignEach elts env).findIdx? (·.1) = none)
    (k : ∀ h', Heap.ExtBut s.heap.objs.size s.heap h' → wpAny (model prog w) A (assignInOrder ((assignEach elts env).map (·.2)) items.toList) Q E { s with heap := h' }) :
    wpAny (model prog w) A (assign (.Tuple elts kk pos) env (.ref t)) Q E s := by
  have lt : t ≠ s.heap.objs.size := by
    obtain ⟨o, e, _⟩ := ht
    exact Nat.ne_of_lt (Heap.lt_size e)
  obtain ⟨hh, o1, vs1, h1, d1, c1⟩ := hot
  have lx : x1 ≠ s.heap.objs.size := Nat.ne_of_lt (Heap.lt_size h1)
  rw [assign_Tuple]
  apply wpAny_bind
  apply wpAny_standAt
  unfold unpack
  rw [hn, hst]
  apply wpAny_bind
  apply wpAny_holding
  unfold unpackItems
  apply wpAny_bind
  unfold notIterableAtAll
  apply wpAny_bind
  apply wpAny_specialOf ht.typeIs slot_tuple_iter.lookup
  apply wpAny_pure
  simp only [Bool.false_eq_true, if_false]
  apply wpAny_bind
  apply wpAny_holding
  refine iter_tuple ht ?_
  apply wpAny_bind
  apply wpAny_holding
  refine draw_tuple lt items.size 0 _ _ ⟨_, Heap.get?_push_size _ rfl, rfl, rfl⟩ (ht.push _) (by omega) fun ha ia sa => ?_
  have all_ : List.take items.size (List.drop 0 items.toList) = items.toList := by
    rw [List.drop_zero]
    exact List.take_of_length_le (by simp)
  rw [all_, if_neg (by simp)]
  have ta : IsTup ha t items := (ht.push _).extBut sa.extBut lt
  have xa := sa.extBut x1 _ lx (Heap.get?_push_of_some _ h1)
  apply wpAny_bind
  apply wpAny_holding
  refine tup_end_hot (s := { s with heap := ha }) (x1 := x1) ⟨hh, o1, vs1, xa, d1, c1⟩ lx ia ta (by simp) fun hb eb => ?_
  simp only [Option.isSome_none, Bool.false_eq_true, if_false]
  exact wpAny_pure (k hb fun b o nb e => eb b o nb (sa.extBut b o nb (Heap.get?_push_of_some _ e)))
end
end LZ
/-! Layer R, part 49: [x for x, g in zip(a, b) if g] while an exception is handled. -/
namespace LZ
open PySem PySem.Spec PyProof.Rows L2 LamX Evl HotX L2H
/-- the words whose marks are True -/
def pick : List Str → List Bool → List Str
  | x :: xs, g :: gs => if g = true then x :: pick xs gs else pick xs gs
  | _, _ => []
theorem pick_app : ∀ (xs : List Str) (gs : List Bool) (x : Str) (g : Bool), xs.length = gs.length → pick (xs ++ [x]) (gs ++ [g]) = pick xs gs ++ (if g = true then [x] else [])
  | [], [], x, g, _ => by cases g <;> rfl
  | [], _ :: _, _, _, h => by cases h
  | _ :: _, [], _, _, h => by cases h
  | y :: ys, h :: hs, x, g, e => by
    show (if h = true then y :: pick (ys ++ [x]) (hs ++ [g]) else pick (ys ++ [x]) (hs ++ [g])) = _
    rw [pick_app ys hs x g (by simpa using e)]
    cases h <;> rfl
theorem pick_len : ∀ (xs : List Str) (gs : List Bool), (pick xs gs).length ≤ xs.length
  | [], [] => Nat.le_refl _
  | [], _ :: _ => Nat.le_refl _
  | _ :: _, [] => Nat.zero_le _
  | y :: ys, h :: hs => by
    have := pick_len ys hs
    cases h
    · show (pick ys hs).length ≤ _
      simp; omega
    · show (y :: pick ys hs).length ≤ _
      simp; omega
section
variable {X : Cx}
def tPick (ta : TA) : TE := fun σ H Q => ta σ H fun vs H1 => ∃ (a b : Addr) (ws : List Str) (gs : List Bool), vs = [.ref a, .ref b] ∧ H1 a = some (.lst (ws.map V.str)) ∧ H1 b = some (.lst (gs.map V.bl)) ∧
  ws.length = gs.length ∧ ws.length ≤ 1000 ∧ ∀ D H2, Ex H1 H2 → H2 D = some (.lst ((pick ws gs).map V.str)) → Q (.ref D) H2
theorem at_hot {A : Around} {x1 : Addr} {h h' : Heap} (c : HotAt A x1 h) (k : ∀ o vs, h.get? x1 = some o → o.data = .fields vs → h'.get? x1 = some o) : HotAt A x1 h' := by
  obtain ⟨hh, o, vs, e, d, q⟩ := c
  exact ⟨hh, o, vs, k o vs e d, d, q⟩
theorem pe_pickH {wn gn : Str} {iw ig kk : Nat} {e1 e2 : Expr} {ta : TA} {p1 p2 p3 p4 tpos pz cpos pos : Pos} {scope : Scope} (hc : HotC X) (hN : X.N.Nodup) (iN : X.N[iw]? = some wn) (jN : X.N[ig]? = some gn) (ne : iw ≠ ig)
    (ok : BlkOk X.N X.env.scope scope [(wn, iw), (gn, ig)]) (hg : Gl X "zip") (hm : X.mg "zip" = none) (ha : PA X [e1, e2] ta) (kw : scope.names.lookup wn = some .local) (kg : scope.names.lookup gn = some .local)
    (dw : (wn == ("__debug__" : Str)) = false := by decide) (dg : (gn == ("__debug__" : Str)) = false := by decide) (cw : (wn == ("__classdict__" : Str)) = false := by decide) (cg : (gn == ("__classdict__" : Str)) = false := by decide)
    (hs1 : starEach [e1, e2] X.env = (false, eval e1 X.env) :: starEach [e2] X.env := by rfl) (hpl : (backTo cpos (starEach [e2] X.env)).any (·.1) = false := by rfl)
    (hs : ∀ x, foldedSetIterable (.Call (.Name "zip" pz) [e1, e2] [] cpos) X.env x = pure x := by intro _; rfl) :
    PE X (.ListComp (.Name wn p1) [⟨.Tuple [.Name wn p2, .Name gn p3] kk tpos, .Call (.Name "zip" pz) [e1, e2] [] cpos, [.Name gn p4], 0⟩] scope pos) (tPick ta) := by
  refine ⟨fun pins s σ H Q I h => ?_⟩
  obtain ⟨p0, ⟨hh0, v0, d0, c0⟩, hp0⟩ := hc
  rw [eval_ListComp]
  have hfree : ∀ y ∈ scope.names, y.2 = .free → ∃ c, X.env.cells.lookup y.1 = some c := fun y hy e => by
    cases ok.free y hy e with
    | inl k => exact I.ok.has _ (.inl k)
    | inr k => exact I.ok.has _ (.inr k)
  refine wpAny_comprehension_free rfl hs (closure_ok hfree) ok.kind (fun y hy e => by rw [ok.uniq y hy, e]) ?_
  change wpAny _ _ (eval (.Call (.Name "zip" pz) [e1, e2] [] cpos) X.env) _ _ _
  refine Call_ (ld_blt I hg hm PyProof.Rows.boot_zip (PyProof.Rows.callWith_type1 (thn (ha.run _ pins s σ H _ I h) fun us s1 hx => ?_) hs1 hpl))
  obtain ⟨vs, H1, I1, r1, a, b, ws, gs, ev, ea, eb, el, es, q⟩ := hx
  subst ev
  cases r1 with
  | cons ra rr =>
    cases rr with
    | cons rb rr =>
      cases rr
      cases ra
      cases rb
      have qa : SqL X.K H1 a (ws.map V.str) := .inl (.inl ea)
      have qb : SqL X.K H1 b (gs.map V.bl) := .inl (.inl eb)
      obtain ⟨ia, va, fa, _⟩ := I1.list qa
      obtain ⟨ib, vb, fb, _⟩ := I1.list qb
      refine call_zip_2 fa.isList fb.isList fun h2 hz hTI hTO h1 h2' hsz hk => wpAny_pyIter_zip hz ?_
      have AP := PySem.W.ktu_apart s1.heap.objs.size a b fa.lt fb.lt
      generalize ez : s1.heap.objs.size + 4 = z at hz AP ⊢
      generalize eTI : s1.heap.objs.size + 2 = TI at hz hTI AP
      generalize eTO : s1.heap.objs.size + 3 = TO at hz hTO AP
      generalize ei2 : s1.heap.objs.size + 1 = i2 at hTI h2' AP
      generalize ei1 : s1.heap.objs.size = i1 at hTI h1 AP
      have low : ∀ c ∈ [z, TI, TO, i1, i2], s1.heap.objs.size ≤ c ∧ c < h2.objs.size := fun c hc => by
        have hc : c = z ∨ c = TI ∨ c = TO ∨ c = i1 ∨ c = i2 := by simpa using hc
        rw [hsz]
        omega
      have I2 : Inv X pins σ H1 { s1 with heap := h2 } := I1.kept (t' := s1.toks) hk
      have fp2 : ∀ c ∈ [z, TI, TO, i1, i2], FpOk X pins H1 c := fun c hc => I1.fpOk (low c hc).1 (I1.hok.fresh (low c hc).1)
      refine wpAny_newObj_type (newEnv_comp ?_) (by show 0 ≤ sizeLine; decide)
      -- the new list
      generalize eD : h2.objs.size = D
      have dN : H1 D = none := I2.hok.fresh (Nat.le_of_eq eD)
      generalize e3 : ({ s1 with heap := h2.push { cls := .type "list", data := .seq ([] : List Value).toArray } } : Shared) = s3
      have g3 : s3.heap = h2.push { cls := .type "list", data := .seq ([] : List Value).toArray } := by rw [← e3]
      have I3 : Inv X pins σ (upd H1 D (.lst [])) s3 := by
        rw [← e3]
        refine I2.laid (t' := s1.toks) (fun b o e => Heap.get?_push_of_some _ e) (Nat.le_of_eq eD) ⟨Nat.zero_le _, [], 0, .nil, ?_⟩
        rw [← eD]
        exact Heap.get?_push_size _ rfl
      have fp3 : ∀ c ∈ [z, TI, TO, i1, i2], FpOk X pins (upd H1 D (.lst [])) c ∧ c < s3.heap.objs.size := fun c hc => by
        have lt := (low c hc).2
        refine ⟨⟨?_, (fp2 c hc).2⟩, by rw [g3, Heap.size_push]; omega⟩
        rw [upd_ne (by rw [← eD]; exact Nat.ne_of_lt lt)]
        exact (fp2 c hc).1
      have I4 := block_start I3 ok hN fp3
      have exD : Ex H1 (upd H1 D (.lst [])) := Ex.new dN
      have hot3 : HotAt X.A p0.1 s3.heap := by
        have P := I3.pin p0 (List.mem_append_left _ hp0)
        exact ⟨hh0, p0.2, v0, P.1, d0, c0⟩
      have off : ∀ c ∈ [z, TI, TO, i1, i2], p0.1 ≠ c := fun c hc => (fp3 c hc).1.2.2.2.2.2 p0 (List.mem_append_left _ hp0)
      have un0 : (upd H1 D (.lst [])) p0.1 = none := (I3.pin p0 (List.mem_append_left _ hp0)).2.1
      have nfs0 : p0.1 ∉ frs X.stack := fun z => (List.mem_cons.mp (I3.stkSub p0.1 z)).elim (I3.pin p0 (List.mem_append_left _ hp0)).2.2.1 (I3.pin p0 (List.mem_append_left _ hp0)).2.2.2.1
      have tn3 : IsZip s3.heap z TI TO .none ∧ IsPair s3.heap TI (.ref i1) (.ref i2) ∧ (∃ x y, IsPair s3.heap TO x y) ∧ s3.heap.IsListIter i1 a 0 ∧ s3.heap.IsListIter i2 b 0 := by
        rw [g3]
        exact ⟨Heap.get?_push_of_some _ hz, Heap.get?_push_of_some _ hTI, ⟨_, _, Heap.get?_push_of_some _ hTO⟩, h1.at fun o q => Heap.get?_push_of_some _ q, h2'.at fun o q => Heap.get?_push_of_some _ q⟩
      generalize eH3 : upd H1 D (.lst []) = H3 at I3 I4 fp3 exD un0
      have D3 : H3 D = some (.lst []) := by rw [← eH3, upd_same]
      show codeAny _ _ (.compStart _ 0 (.ref z) (.ref D) (compEnvC scope (cellsFrom (s3.heap.objs.size + 1) scope.names (cloFrom X.env.cells scope.names [])) s3.heap.objs.size X.env)) (compPost (model X.prog X.w) X.A X.xe none _ (.ref D) s3.heap.objs.size) { s3 with heap := pushCells (s3.heap.push { cls := .type "dict", data := .dict #[] }) scope.names }
      generalize hce : compEnvC scope (cellsFrom (s3.heap.objs.size + 1) scope.names (cloFrom X.env.cells scope.names [])) s3.heap.objs.size X.env = ce at I4 ⊢
      have cL : ce.locals = s3.heap.objs.size := by rw [← hce]; rfl
      have sw : ce.scope.names.lookup wn = some .local := by rw [← hce]; exact lookup_relS_keep (by decide) kw
      have sg : ce.scope.names.lookup gn = some .local := by rw [← hce]; exact lookup_relS_keep (by decide) kg
      generalize e4 : ({ s3 with heap := pushCells (s3.heap.push { cls := .type "dict", data := .dict #[] }) scope.names } : Shared) = s4 at I4 ⊢
      have k4 : ∀ b o, s3.heap.get? b = some o → s4.heap.get? b = some o := fun b o e => by
        rw [← e4]
        exact pushCells_keeps _ _ _ _ (Heap.get?_push_of_some _ e)
      have tn4 : IsZip s4.heap z TI TO .none ∧ IsPair s4.heap TI (.ref i1) (.ref i2) ∧ (∃ x y, IsPair s4.heap TO x y) ∧ s4.heap.IsListIter i1 a 0 ∧ s4.heap.IsListIter i2 b 0 := by
        obtain ⟨t1, t2, ⟨x, y, t3⟩, t4, t5⟩ := tn3
        exact ⟨k4 _ _ t1, k4 _ _ t2, ⟨x, y, k4 _ _ t3⟩, t4.at fun o q => k4 _ o q, t5.at fun o q => k4 _ o q⟩
      have nD : ∀ c ∈ [z, TI, TO, i1, i2], c ≠ D := fun c hc => by rw [← eD]; exact Nat.ne_of_lt (low c hc).2
      -- the turns
      have stat : ∀ {σ' : L2.St} {H' : Hp} {s' : Shared}, Inv (X.blk s3 H3 scope ce [z, TI, TO, i1, i2]) [] σ' H' s' → (∀ b ∈ [z, TI, TO, i1, i2], H' b = none) → ∀ b ∈ [z, TI, TO, i1, i2], FpOk (X.blk s3 H3 scope ce [z, TI, TO, i1, i2]) [] H' b := fun {σ' H' s'} J hn b hb =>
        ⟨hn b hb, (J.ok.exf b hb).1, J.ok.exfs b hb, .inl hb, fun x c e => (J.ok.exf b hb).2 x c e, fun p hp => by cases (show p ∈ ([] : List (Addr × Obj)) from hp)⟩
      have hotAt : ∀ {σ' : L2.St} {H' : Hp} {s' : Shared}, Inv (X.blk s3 H3 scope ce [z, TI, TO, i1, i2]) [] σ' H' s' → HotAt X.A p0.1 s'.heap := fun {σ' H' s'} J =>
        at_hot hot3 fun o vs e _ => J.base.keep p0.1 o e un0 nfs0 fun y => off _ y rfl
      have loop : codeAny (model X.prog X.w) X.A (.compLoop (.ListComp (.Name wn p1) [⟨.Tuple [.Name wn p2, .Name gn p3] kk tpos, .Call (.Name "zip" pz) [e1, e2] [] cpos, [.Name gn p4], 0⟩] scope pos) 0 (.ref z) (.ref D) ce) (compPost (model X.prog X.w) X.A X.xe none (EP X pins σ Q) (.ref D) s3.heap.objs.size) s4 := by
        refine compLoop_any (fun n s' => ∃ i H', Inv (X.blk s3 H3 scope ce [z, TI, TO, i1, i2]) [] (wipe σ [iw, ig]) H' s' ∧
          (IsZip s'.heap z TI TO .none ∧ IsPair s'.heap TI (.ref i1) (.ref i2) ∧ (∃ x y, IsPair s'.heap TO x y) ∧ s'.heap.IsListIter i1 a i ∧ s'.heap.IsListIter i2 b i) ∧
          (∀ b ∈ [z, TI, TO, i1, i2], H' b = none) ∧ i + n = ws.length ∧ H' D = some (.lst ((pick (ws.take i) (gs.take i)).map V.str)) ∧ ∀ c o, c ≠ D → H3 c = some o → H' c = some o) ?_ ws.length
          ⟨0, H3, I4, tn4, fun c hc => (fp3 c hc).1.1, by omega, by rw [D3]; rfl, fun _ _ _ e => e⟩
        rintro n s5 ⟨i, H5, I5, ⟨t1, t2, ⟨x0, y0, t3⟩, t4, t5⟩, n5, hn, d5, x5⟩
        have a5 : H5 a = some (.lst (ws.map V.str)) := x5 a _ (fun y => by rw [y, dN] at ea; cases ea) (exD _ _ ea)
        have b5 : H5 b = some (.lst (gs.map V.bl)) := x5 b _ (fun y => by rw [y, dN] at eb; cases eb) (exD _ _ eb)
        obtain ⟨ia5, va5, fa5, _⟩ := I5.list (.inl (.inl a5) : SqL X.K H5 a _)
        obtain ⟨ib5, vb5, fb5, _⟩ := I5.list (.inl (.inl b5) : SqL X.K H5 b _)
        by_cases hi : i = ws.length
        · subst hi
          refine zip_end_hot (hotAt I5) (off z (by simp)) (off i1 (by simp)) AP.i1z AP.l1z t1 t2 t4 fa5.isList (by have := va5.length; simp at this; simp; omega) fun h6 k6 => ?_
          have I6 : Inv (X.blk s3 H3 scope ce [z, TI, TO, i1, i2]) [] (wipe σ [iw, ig]) H5 { s5 with heap := h6 } :=
            I5.turnedL (t' := s5.toks) (ch := [z, TI, TO, i1, i2]) (fun c o hc e => k6 c o (fun y => hc (by simp [y])) (fun y => hc (by simp [y])) e) (stat I5 n5)
          have I7 : Inv X pins σ H5 { s5 with heap := h6 } := I3.call' (ch := [z, TI, TO, i1, i2]) I6.os I6.base I6.hok I6.bare fun c hc => ⟨(fp3 c hc).1.2.2.2.1, (fp3 c hc).1.2.1, (fp3 c hc).1.2.2.2.2.1, (fp3 c hc).1.2.2.2.2.2⟩
          have nC : H5 s3.heap.objs.size = none := by
            have y : H5 ce.locals = none := I6.free
            rw [cL] at y
            exact y
          obtain ⟨m, hm6, _⟩ := I6.loc
          have hm6 : h6.Ns ce.locals m := hm6
          rw [cL] at hm6
          refine ⟨m, hm6, fun h7 sb => ?_⟩
          obtain ⟨f0, f1, f2, f3, f4, f5⟩ := I3.fpOk (Nat.le_refl _) nC
          refine ⟨.ref D, H5, I7.turned (t' := s5.toks) (fun c o hc e => (sb.2 c hc).trans e) f0 f1 f3 f4 f5, rfl, q D H5 (fun c o e => ?_) ?_⟩
          · exact x5 c o (fun y => by rw [y, dN] at e; cases e) (exD _ _ e)
          · rw [d5, List.take_length, el, List.take_length]
        · have lt : i < ws.length := by omega
          have ltg : i < gs.length := by omega
          have la := va5.length
          have lb := vb5.length
          obtain ⟨ua, hua, rua⟩ := va5.get (show (ws.map V.str)[i]? = some (.str ws[i]) by simp [lt])
          obtain ⟨ub, hub, rub⟩ := vb5.get (show (gs.map V.bl)[i]? = some (.bl gs[i]) by simp [ltg])
          refine wpAny_pyNext_zip_item AP t1 t2 t3 t4 t5 fa5.isList fb5.isList (x := ua) (y := ub) (by simpa using hua) (by simpa using hub) fun h6 z6 TO6 l6 l6' T6 sz6 k6 => ?_
          refine wpAny_letOwnedTupleGo_zip (s := { s5 with heap := h6 }) z6 fun h7 z7 sb7 => ?_
          have zlt : z < s5.heap.objs.size := Heap.lt_size t1
          have T7 : h7.get? s5.heap.objs.size = some { cls := .type "tuple", data := .seq #[ua, ub] } := (sb7.2 _ (Nat.ne_of_gt zlt)).trans T6
          have new_ : ObjOk X.prog X.w (upd H5 s5.heap.objs.size (.tup [.str ws[i], .bl gs[i]])) h7 s5.heap.objs.size (.tup [.str ws[i], .bl gs[i]]) :=
            ⟨by show 2 ≤ sizeLine; decide, [ua, ub], .cons rua (.cons rub .nil), ⟨_, T7, rfl, _, rfl⟩⟩
          have I7 : Inv (X.blk s3 H3 scope ce [z, TI, TO, i1, i2]) [] (wipe σ [iw, ig]) (upd H5 s5.heap.objs.size (.tup [.str ws[i], .bl gs[i]])) { s5 with heap := h7 } :=
            I5.turnedNew (t' := s5.toks) (ch := [z, TI, TO, i1, i2]) (fun c o hc e => (sb7.2 c (fun y => hc (by simp [y]))).trans (k6 c o (fun y => hc (by simp [y])) (fun y => hc (by simp [y])) (fun y => hc (by simp [y])) (fun y => hc (by simp [y])) e)) (stat I5 n5) (Nat.le_refl _) new_
          have tn7 : IsZip h7 z TI TO .none ∧ IsPair h7 TI (.ref i1) (.ref i2) ∧ (∃ x y, IsPair h7 TO x y) ∧ h7.IsListIter i1 a (i + 1) ∧ h7.IsListIter i2 b (i + 1) :=
            ⟨z7, (sb7.2 _ AP.TIz).trans (k6 _ _ AP.TIz AP.TITO AP.TIi1 AP.TIi2 t2), ⟨ua, ub, (sb7.2 _ AP.TOz).trans TO6⟩, l6.at fun o e => (sb7.2 _ AP.i1z).trans e, l6'.at fun o e => (sb7.2 _ AP.i2z).trans e⟩
          have lts : ∀ c ∈ [z, TI, TO, i1, i2], c < s5.heap.objs.size := fun c hc => by
            have hc : c = z ∨ c = TI ∨ c = TO ∨ c = i1 ∨ c = i2 := by simpa using hc
            obtain ⟨_, g4, _⟩ := t4
            obtain ⟨_, g5, _⟩ := t5
            rcases hc with y | y | y | y | y <;> rw [y]
            · exact zlt
            · exact Heap.lt_size t2
            · exact Heap.lt_size t3
            · exact Heap.lt_size g4
            · exact Heap.lt_size g5
          have n7 : ∀ c ∈ [z, TI, TO, i1, i2], (upd H5 s5.heap.objs.size (.tup [.str ws[i], .bl gs[i]])) c = none := fun c hc => by
            rw [upd_ne (Nat.ne_of_lt (lts c hc))]
            exact n5 c hc
          have H5n : H5 s5.heap.objs.size = none := I5.hok.fresh (Nat.le_refl _)
          have D7 : (upd H5 s5.heap.objs.size (.tup [.str ws[i], .bl gs[i]])) D = some (.lst ((pick (ws.take i) (gs.take i)).map V.str)) := by
            rw [upd_ne (ne_of_none d5 H5n)]
            exact d5
          have x7 : ∀ c o, c ≠ D → H3 c = some o → (upd H5 s5.heap.objs.size (.tup [.str ws[i], .bl gs[i]])) c = some o := fun c o nc e => by
            have e5 := x5 c o nc e
            rw [upd_ne (ne_of_none e5 H5n)]
            exact e5
          have objs7 : ∀ c ∈ [z, TI, TO, i1, i2], ∃ o, h7.get? c = some o ∧ ∀ v, o.data ≠ .cell v := fun c hc => by
            have hc : c = z ∨ c = TI ∨ c = TO ∨ c = i1 ∨ c = i2 := by simpa using hc
            obtain ⟨g1, g2, ⟨_, _, g3⟩, ⟨o4, g4, _, w4⟩, ⟨o5, g5, _, w5⟩⟩ := tn7
            rcases hc with y | y | y | y | y <;> rw [y]
            · exact ⟨_, g1, fun v y => by cases y⟩
            · exact ⟨_, g2, fun v y => by cases y⟩
            · exact ⟨_, g3, fun v y => by cases y⟩
            · exact ⟨o4, g4, fun v y => by rw [w4] at y; cases y⟩
            · exact ⟨o5, g5, fun v y => by rw [w5] at y; cases y⟩
          generalize eH7 : upd H5 s5.heap.objs.size (.tup [.str ws[i], .bl gs[i]]) = H7 at I7 n7 D7 x7
          have T7' : H7 s5.heap.objs.size = some (.tup [.str ws[i], .bl gs[i]]) := by rw [← eH7, upd_same]
          have J7 := I7.pinned (stat I7 n7) objs7
          generalize ePl : ([] : List (Addr × Obj)) ++ pinsAt [z, TI, TO, i1, i2] ({ s5 with heap := h7 } : Shared).heap = pl at J7
          have inPl : ∀ c ∈ [z, TI, TO, i1, i2], ∀ o, h7.get? c = some o → (c, o) ∈ pl := fun c hc o e => by
            rw [← ePl]
            exact List.mem_append_right _ (mem_pinsAt hc e)
          have hot7 := hotAt I7
          obtain ⟨its, rv, IT, _⟩ := J7.tuple (SqT.of T7')
          refine asg_tup_hot (s := { s5 with heap := h7 }) hot7 IT (by have := rv.length; simp at this; simp [assignEach, ← this]) (by rfl) fun h8 x8 => ?_
          have J8 : Inv (X.blk s3 H3 scope ce [z, TI, TO, i1, i2]) pl (wipe σ [iw, ig]) H7 { s5 with heap := h8 } := J7.kept (t' := s5.toks) fun b o e => x8 b o (Nat.ne_of_lt (Heap.lt_size e)) e
          have PG2 : PGs (X.blk s3 H3 scope ce [z, TI, TO, i1, i2]) [.Name wn p2, .Name gn p3] (gCons (gName iw) (gCons (gName ig) gNil)) :=
            pgs_cons (pg_name hN iN (.inl sw) (.inr sw)) (pgs_cons (pg_name hN jN (.inl sg) (.inr sg)) pgs_nil)
          refine thnF (PG2.run pl _ _ H7 _ _ (fun σ' H' => σ' = ((wipe σ [iw, ig]).set iw (some (.str ws[i]))).set ig (some (.bl gs[i])) ∧ H' = H7) J8 rv ⟨_, _, rfl, _, _, rfl, rfl, rfl, rfl⟩) fun _ s9 ⟨σ9, H9, J9, e9, eH9⟩ => ?_
          subst eH9
          have lW : (wipe σ [iw, ig]).length = X.N.length := by rw [wipe_length]; exact I.len
          have iwl : iw < X.N.length := (List.getElem?_eq_some_iff.mp iN).1
          have igl : ig < X.N.length := (List.getElem?_eq_some_iff.mp jN).1
          have at1 : σ9[iw]? = some (some (.str ws[i])) := by
            rw [e9, List.getElem?_set_ne (Ne.symm ne), List.getElem?_set_self (by rw [lW]; exact iwl)]
          have at2 : σ9[ig]? = some (some (.bl gs[i])) := by
            rw [e9, List.getElem?_set_self (by rw [List.length_set, lW]; exact igl)]
          have PT1 : PTs (X.blk s3 H3 scope ce [z, TI, TO, i1, i2]) [.Name gn p4] (tB (tVar ig)) := pts_one (pt_val (pe_var jN (.inl sg) dg cg))
          refine thnF (PT1.run pl s9 σ9 H9 (fun b H' => b = gs[i] ∧ H' = H9) J9 ⟨_, at2, _, rfl, rfl, rfl⟩) fun bb s10 ⟨H10, J10, eb10, eH10⟩ => ?_
          subst eH10
          -- the turn's end
          have ends : ∀ {s' : Shared} {H' : Hp}, Inv (X.blk s3 H3 scope ce [z, TI, TO, i1, i2]) pl σ9 H' s' → H' D = some (.lst ((pick (ws.take (i + 1)) (gs.take (i + 1))).map V.str)) → (∀ c o, c ≠ D → H3 c = some o → H' c = some o) →
              ∃ m, m < n ∧ ∃ i H', Inv (X.blk s3 H3 scope ce [z, TI, TO, i1, i2]) [] (wipe σ [iw, ig]) H' s' ∧
                (IsZip s'.heap z TI TO .none ∧ IsPair s'.heap TI (.ref i1) (.ref i2) ∧ (∃ x y, IsPair s'.heap TO x y) ∧ s'.heap.IsListIter i1 a i ∧ s'.heap.IsListIter i2 b i) ∧
                (∀ b ∈ [z, TI, TO, i1, i2], H' b = none) ∧ i + m = ws.length ∧ H' D = some (.lst ((pick (ws.take i) (gs.take i)).map V.str)) ∧ ∀ c o, c ≠ D → H3 c = some o → H' c = some o := by
            intro s' H' J' dd xx
            have stay : ∀ c ∈ [z, TI, TO, i1, i2], ∀ o, h7.get? c = some o → s'.heap.get? c = some o ∧ H' c = none := fun c hc o e =>
              have P := J'.pin (c, o) (List.mem_append_right _ (inPl c hc o e))
              ⟨P.1, P.2.1⟩
            obtain ⟨g1, g2, ⟨gx, gy, g3⟩, g4, g5⟩ := tn7
            refine ⟨n - 1, by omega, i + 1, H', ?_, ⟨(stay z (by simp) _ g1).1, (stay TI (by simp) _ g2).1, ⟨gx, gy, (stay TO (by simp) _ g3).1⟩, g4.at fun o e => (stay i1 (by simp) o e).1, g5.at fun o e => (stay i2 (by simp) o e).1⟩, fun c hc => ?_, by omega, dd, xx⟩
            · rw [← ePl] at J'
              refine J'.unpinned.weak (by rw [e9, List.length_set, List.length_set]) fun j v e => ?_
              have wj := (wipe_some e).2
              have j1 : j ≠ iw := fun y => wj (by simp [y])
              have j2 : j ≠ ig := fun y => wj (by simp [y])
              rw [e9, List.getElem?_set_ne (Ne.symm j2), List.getElem?_set_ne (Ne.symm j1)]
              exact e
            · obtain ⟨o, e, _⟩ := objs7 c hc
              exact (stay c hc o e).2
          have grow : pick (ws.take (i + 1)) (gs.take (i + 1)) = pick (ws.take i) (gs.take i) ++ (if gs[i] = true then [ws[i]] else []) := by
            rw [List.take_succ_eq_append_getElem lt, List.take_succ_eq_append_getElem ltg]
            exact pick_app _ _ _ _ (by rw [List.length_take, List.length_take, el])
          cases hb : gs[i] with
          | false =>
            rw [hb] at eb10 grow
            subst eb10
            refine ends J10 ?_ x7
            rw [D7, grow]
            simp
          | true =>
            rw [hb] at eb10 grow
            subst eb10
            rw [if_pos rfl]
            refine thnF ((pe_var (X := X.blk s3 H3 scope ce [z, TI, TO, i1, i2]) iN (.inl sw) dw cw).run pl s10 σ9 H10 (fun v H' => v = .str ws[i] ∧ H' = H10) J10 ⟨_, at1, rfl, rfl⟩) fun xv s11 ⟨v11, H11, J11, r11, e11, eH11⟩ => ?_
            subst eH11
            subst e11
            refine app_ok (X := X.blk s3 H3 scope ce [z, TI, TO, i1, i2]) J11 D7 ?_ r11 fun s12 J12 => ends J12 ?_ fun c o nc e => ?_
            · have := pick_len (ws.take i) (gs.take i)
              rw [List.length_map]
              rw [List.length_take] at this
              exact Nat.lt_of_lt_of_le (show (pick (ws.take i) (gs.take i)).length < 16000000 by omega) R.line16
            · rw [upd_same, grow, if_pos rfl, List.map_append]
              rfl
            · rw [upd_ne nc]
              exact x7 c o nc e
      exact codeAny_compStart_list loop (wpAny_pyIter_zip tn4.1 loop)
end
end LZ
/-! Layer R, part 50: the name of a caught error; what a call returns, or the name of its error. -/
namespace LZ
open PySem PySem.Spec PyProof.Rows L2 LamX Evl HotX L2H
abbrev errNames : List Str := ["InvalidPlan", "InvalidUsage", "InvalidMenu", "InvalidBills", "InvalidNumber", "TooMany", "NothingToUndo"]
/-- an own error class D of the name nm -/
structure ErN (K : PySem.W.Frag) (mg : Str → Option Value) (D : Addr) (nm : Str) : Prop where
  ex : ExcC K D
  mem : nm ∈ errNames
  one : ∀ x ∈ errNames, ∃ C : Addr, mg x = some (.ref C) ∧ PySem.W.kitOne K (.ref D) (.ref C) = some (x == nm)
section
variable {X : Cx}
theorem call_isP {a D : Addr} {oe : Obj} (C : ExcC X.K D) (hz : Zc (.ref D) none oe) (hf : ∃ vs, oe.data = .fields vs) (hp : (a, oe) ∈ X.pn) : CallR X (.builtin "isinstance") (rIsE X.K D a) := by
  intro pins s σ H xs us Q I r h
  obtain ⟨c, cv, b, rfl, hcv, e, q⟩ := h
  cases r with
  | cons rx rr =>
    cases rr with
    | cons rt rr =>
      cases rr
      cases rx
      have ec := hcv _ rt
      subst ec
      have hget := (I.pin (a, oe) (List.mem_append_left _ hp)).1
      obtain ⟨vs, hv⟩ := hf
      have J : PySem.W.InstAt s.heap a oe D none := by
        obtain ⟨oc, od, oda, osl⟩ := oe
        obtain ⟨h1, h2⟩ := hz
        dsimp only at h1 h2 hv
        subst h1 h2 hv
        exact ⟨hget, rfl, rfl, trivial⟩
      exact PySem.W.kia_one (PySem.W.handS_kitx_exc C.hg C.hk C.hs C.hd C.ha C.hn C.ht C.hm) I.kIn J e (fun z => nomatch z) fun tk => ⟨.bl b, H, I.kept (t' := tk) fun _ _ z => z, rfl, q⟩
theorem pe_isP {a D : Addr} {oe : Obj} {nm ev cn : Str} {i : Nat} {p pe_ pc pos : Pos} (T : ErN X.K X.mg D nm) (hz : Zc (.ref D) none oe) (hf : ∃ vs, oe.data = .fields vs) (hp : (a, oe) ∈ X.pn)
    (hg : Gl X "isinstance") (hm : X.mg "isinstance" = none) (gc : Gl X cn) (hc : cn ∈ errNames) (hN : X.N[i]? = some ev) (hv : Vis X.env.scope ev)
    (d1 : (ev == ("__debug__" : Str)) = false := by decide) (d2 : (ev == ("__classdict__" : Str)) = false := by decide) (d3 : (cn == ("__debug__" : Str)) = false := by decide)
    (h1 : starEach [.Name ev pe_, .Name cn pc] X.env = (false, eval (.Name ev pe_) X.env) :: starEach [.Name cn pc] X.env := by rfl) (h2 : starEach [.Name cn pc] X.env = (false, eval (.Name cn pc) X.env) :: starEach [] X.env := by rfl)
    (hpl : (backTo pos (starEach [.Name cn pc] X.env)).any (·.1) = false := by rfl) :
    PE X (.Call (.Name "isinstance" p) [.Name ev pe_, .Name cn pc] [] pos) (fun σ H Q => σ[i]? = some (some (.ref a)) ∧ Q (.bl (cn == nm)) H) := by
  obtain ⟨C, mC, kC⟩ := T.one cn hc
  refine ⟨fun pins s σ H Q I h => ?_⟩
  refine (pe_callB (call_isP T.ex hz hf hp) hg hm (by decide +kernel) (pa_cons (pe_var hN hv d1 d2) (pa_cons (pe_glob gc mC (v := .ref C) rfl d3) pa_nil h2) h1) (by decide) (by decide) h1 hpl).run pins s σ H Q I ?_
  exact ⟨.ref a, h.1, .ref C, .ref C, _, rfl, fun u r => r, kC, h.2⟩
end
/-- what the name of an error is told by -/
def tErr (a : Addr) (nm : Str) : TS := fun D σ H => σ[0]? = some (some (.ref a)) ∧ σ.length = 5 ∧ ∀ H2, Ex H H2 → D.rt (.str nm) H2
theorem err_pss {X : Cx} {a D : Addr} {oe : Obj} {nm : Str} {csc : Scope} {pj pc p1 p2 p3 p4 p5 p6 p7 p8 p9 p10 p11 p12 p13 p14 p15 p16 p17 p18 p19 p20 p21 p22 p23 p24 p25 p26 p27 p28 p29 p30 p31 p32 p33 p34 p35 p36 p37 p38 p39 p40 p41 p42 p43 p44 p45 p46 p47 p48 p49 p50 p51 p52 p53 p54 p55 p56 p57 p58 p59 p60 : Pos} (T : ErN X.K X.mg D nm) (hz : Zc (.ref D) none oe) (hf : ∃ vs, oe.data = .fields vs) (hp : (a, oe) ∈ X.pn) (hot : HotC X)
    (hN : X.N = (["_law_e", "_law_some", "_law_words", "_law_word", "_law_good"] : List Str)) (k0 : X.env.scope.names.lookup ("_law_e" : Str) = some .local) (k1 : X.env.scope.names.lookup ("_law_some" : Str) = some .local) (k2 : X.env.scope.names.lookup ("_law_words" : Str) = some .local)
    (gi : Gl X "isinstance") (mi : X.mg "isinstance" = none) (gz : Gl X "zip") (mz : X.mg "zip" = none) (G0 : Gl X "InvalidPlan") (G1 : Gl X "InvalidUsage") (G2 : Gl X "InvalidMenu") (G3 : Gl X "InvalidBills") (G4 : Gl X "InvalidNumber") (G5 : Gl X "TooMany") (G6 : Gl X "NothingToUndo")
    (ok : BlkOk X.N X.env.scope csc [("_law_word", 3), ("_law_good", 4)]) (kw : csc.names.lookup ("_law_word" : Str) = some .local) (kg : csc.names.lookup ("_law_good" : Str) = some .local) (hln : (pj.endLine == pc.line) = true) :
    PSs X [.Assign [.Name "_law_some" p14] (.List [.Call (.Name "isinstance" p1) [.Name "_law_e" p2, .Name "InvalidPlan" p3] [] p4, .Call (.Name "isinstance" p5) [.Name "_law_e" p6, .Name "InvalidUsage" p7] [] p8, .Call (.Name "isinstance" p9) [.Name "_law_e" p10, .Name "InvalidMenu" p11] [] p12] p13) p15,
      .Assign [.Name "_law_some" p31] (.BinOp (.Name "_law_some" p16) .Add (.List [.Call (.Name "isinstance" p17) [.Name "_law_e" p18, .Name "InvalidBills" p19] [] p20, .Call (.Name "isinstance" p21) [.Name "_law_e" p22, .Name "InvalidNumber" p23] [] p24, .Call (.Name "isinstance" p25) [.Name "_law_e" p26, .Name "TooMany" p27] [] p28] p29) p30) p32,
      .Assign [.Name "_law_words" p41] (.List [.Constant (.str "InvalidPlan") 0 p33, .Constant (.str "InvalidUsage") 0 p34, .Constant (.str "InvalidMenu") 0 p35, .Constant (.str "InvalidBills") 0 p36, .Constant (.str "InvalidNumber") 0 p37, .Constant (.str "TooMany") 0 p38, .Constant (.str "NothingToUndo") 0 p39] p40) p42,
      .Return (some (.Call (.Attribute (.Constant (.str "") 0 p59) "join" pj) [.ListComp (.Name "_law_word" p53) [⟨.Tuple [.Name "_law_word" p54, .Name "_law_good" p55] 0 p56, .Call (.Name "zip" p43) [.Name "_law_words" p44, .BinOp (.Name "_law_some" p45) .Add (.List [.Call (.Name "isinstance" p46) [.Name "_law_e" p47, .Name "NothingToUndo" p48] [] p49] p50) p51] [] p52, [.Name "_law_good" p57], 0⟩] csc p58] [] pc)) p60] (tErr a nm) := by
  have nd : X.N.Nodup := by rw [hN]; decide
  have I_ : ∀ (cn : Str) (hc : cn ∈ errNames) (gc : Gl X cn) (d3 : (cn == ("__debug__" : Str)) = false) (p pe_ pcc pos : Pos), PE X (.Call (.Name "isinstance" p) [.Name "_law_e" pe_, .Name cn pcc] [] pos) (fun σ H Q => σ[0]? = some (some (.ref a)) ∧ Q (.bl (cn == nm)) H) :=
    fun cn hc gc d3 p pe_ pcc pos => pe_isP T hz hf hp gi mi gc hc (i := 0) (by rw [hN]; rfl) (.inl k0) (d3 := d3)
  have V1 : ∀ p, PE X (.Name "_law_some" p) (tVar 1) := fun p => pe_var (by rw [hN]; rfl) (.inl k1)
  have V2 : ∀ p, PE X (.Name "_law_words" p) (tVar 2) := fun p => pe_var (by rw [hN]; rfl) (.inl k2)
  have L3 : ∀ {e1 e2 e3 : Expr} {t1 t2 t3 : TE} {pos : Pos}, PE X e1 t1 → PE X e2 t2 → PE X e3 t3 → starEach [e1, e2, e3] X.env = (false, eval e1 X.env) :: starEach [e2, e3] X.env → starEach [e2, e3] X.env = (false, eval e2 X.env) :: starEach [e3] X.env → starEach [e3] X.env = (false, eval e3 X.env) :: starEach [] X.env → PE X (.List [e1, e2, e3] pos) (tLst (tCons t1 (tCons t2 (tCons t3 tNil)))) :=
    fun a b c h1 h2 h3 => pe_lst (pa_cons a (pa_cons b (pa_cons c pa_nil h3) h2) h1)
  have A1 : PE X (.List [.Call (.Name "isinstance" p1) [.Name "_law_e" p2, .Name "InvalidPlan" p3] [] p4, .Call (.Name "isinstance" p5) [.Name "_law_e" p6, .Name "InvalidUsage" p7] [] p8, .Call (.Name "isinstance" p9) [.Name "_law_e" p10, .Name "InvalidMenu" p11] [] p12] p13) _ :=
    L3 (I_ "InvalidPlan" (by simp [errNames]) G0 (by decide) _ _ _ _) (I_ "InvalidUsage" (by simp [errNames]) G1 (by decide) _ _ _ _) (I_ "InvalidMenu" (by simp [errNames]) G2 (by decide) _ _ _ _) rfl rfl rfl
  have A2 : PE X (.List [.Call (.Name "isinstance" p17) [.Name "_law_e" p18, .Name "InvalidBills" p19] [] p20, .Call (.Name "isinstance" p21) [.Name "_law_e" p22, .Name "InvalidNumber" p23] [] p24, .Call (.Name "isinstance" p25) [.Name "_law_e" p26, .Name "TooMany" p27] [] p28] p29) _ :=
    L3 (I_ "InvalidBills" (by simp [errNames]) G3 (by decide) _ _ _ _) (I_ "InvalidNumber" (by simp [errNames]) G4 (by decide) _ _ _ _) (I_ "TooMany" (by simp [errNames]) G5 (by decide) _ _ _ _) rfl rfl rfl
  have A3 : PE X (.List [.Call (.Name "isinstance" p46) [.Name "_law_e" p47, .Name "NothingToUndo" p48] [] p49] p50) _ := pe_lst (pa_cons (I_ "NothingToUndo" (by simp [errNames]) G6 (by decide) _ _ _ _) pa_nil)
  have W7 : PE X (.List [.Constant (.str "InvalidPlan") 0 p33, .Constant (.str "InvalidUsage") 0 p34, .Constant (.str "InvalidMenu") 0 p35, .Constant (.str "InvalidBills") 0 p36, .Constant (.str "InvalidNumber") 0 p37, .Constant (.str "TooMany") 0 p38, .Constant (.str "NothingToUndo") 0 p39] p40) _ :=
    pe_lst (pa_cons pe_str (pa_cons pe_str (pa_cons pe_str (pa_cons pe_str (pa_cons pe_str (pa_cons pe_str (pa_cons pe_str pa_nil)))))))
  have S1 : PS X (.Assign [.Name "_law_some" p14] _ p15) _ := ps_set (i := 1) nd (by rw [hN]; rfl) (.inl k1) A1 (hf := .inr k1)
  have S2 : PS X (.Assign [.Name "_law_some" p31] (.BinOp (.Name "_law_some" p16) .Add _ p30) p32) _ := ps_set (i := 1) nd (by rw [hN]; rfl) (.inl k1) (pe_op op_cat (V1 p16) A2) (hf := .inr k1)
  have S3 : PS X (.Assign [.Name "_law_words" p41] _ p42) _ := ps_set (i := 2) nd (by rw [hN]; rfl) (.inl k2) W7 (hf := .inr k2)
  have C4 : PE X (.ListComp (.Name "_law_word" p53) [⟨.Tuple [.Name "_law_word" p54, .Name "_law_good" p55] 0 p56, .Call (.Name "zip" p43) [.Name "_law_words" p44, .BinOp (.Name "_law_some" p45) .Add _ p51] [] p52, [.Name "_law_good" p57], 0⟩] csc p58) _ :=
    pe_pickH hot nd (by rw [hN]; rfl) (by rw [hN]; rfl) (by decide) ok gz mz (pa_cons (V2 p44) (pa_cons (pe_op op_cat (V1 p45) A3) pa_nil)) kw kg
  have S4 : PS X (.Return (some (.Call (.Attribute (.Constant (.str "") 0 p59) "join" pj) [_] [] pc)) p60) _ := ps_ret (pe_join pe_str C4 (hline := hln))
  have SS := pss_cons S1 (pss_cons S2 (pss_cons S3 (pss_one S4)))
  refine ⟨fun pins s σ H D I h => SS.run pins s σ H D I ?_⟩
  obtain ⟨h0, hl, q⟩ := h
  obtain ⟨x0, x1, x2, x3, x4, rfl⟩ : ∃ x0 x1 x2 x3 x4, σ = [x0, x1, x2, x3, x4] := by
    match σ, hl with
    | [x0, x1, x2, x3, x4], _ => exact ⟨x0, x1, x2, x3, x4, rfl⟩
  have h0 : x0 = some (.ref a) := by simpa using h0
  subst h0
  simp only [tSeq, tAsg, tLst, tCons, tNil, tOp, rCat, tVar, gName, tRet, tPick, tM1, tC]
  have sz : ∀ n : Nat, n ≤ 7 → n ≤ sizeLine := fun n hn => Nat.le_trans hn (Nat.le_trans (by decide) R.line16)
  refine ⟨rfl, rfl, rfl, sz _ (by simp), fun q1 n1 => ?_⟩
  refine ⟨.ref q1, rfl, rfl, rfl, rfl, sz _ (by simp), fun q2 n2 => ?_⟩
  have e12 : Ex H (upd H q1 (.lst [.bl (("InvalidPlan" : Str) == nm), .bl (("InvalidUsage" : Str) == nm), .bl (("InvalidMenu" : Str) == nm)])) := Ex.new n1
  have a1 := ne_of_none (show (upd H q1 (.lst [.bl (("InvalidPlan" : Str) == nm), .bl (("InvalidUsage" : Str) == nm), .bl (("InvalidMenu" : Str) == nm)])) q1 = some _ from upd_same) n2
  refine ⟨q1, q2, _, _, rfl, rfl, by rw [upd_ne a1, upd_same], upd_same, sz _ (by simp), fun q3 n3 => ?_⟩
  generalize eH1 : upd H q1 (.lst [.bl (("InvalidPlan" : Str) == nm), .bl (("InvalidUsage" : Str) == nm), .bl (("InvalidMenu" : Str) == nm)]) = H1 at *
  generalize eH2 : upd H1 q2 _ = H2 at *
  have e23 : Ex H1 H2 := by rw [← eH2]; exact Ex.new n2
  generalize eH3 : upd H2 q3 _ = H3 at *
  have e34 : Ex H2 H3 := by rw [← eH3]; exact Ex.new n3
  have g3 : H3 q3 = some (.lst [.bl (("InvalidPlan" : Str) == nm), .bl (("InvalidUsage" : Str) == nm), .bl (("InvalidMenu" : Str) == nm), .bl (("InvalidBills" : Str) == nm), .bl (("InvalidNumber" : Str) == nm), .bl (("TooMany" : Str) == nm)]) := by
    rw [← eH3, upd_same]
    rfl
  refine ⟨sz _ (by simp), fun q4 n4 => ?_⟩
  generalize eH4 : upd H3 q4 _ = H4 at *
  have e45 : Ex H3 H4 := by rw [← eH4]; exact Ex.new n4
  have g4 : H4 q4 = some (.lst (errNames.map V.str)) := by
    rw [← eH4, upd_same]
    rfl
  refine ⟨⟨_, rfl⟩, .ref q4, rfl, .ref q3, rfl, rfl, sz _ (by simp), fun q5 n5 => ?_⟩
  generalize eH5 : upd H4 q5 _ = H5 at *
  have e56 : Ex H4 H5 := by rw [← eH5]; exact Ex.new n5
  refine ⟨q3, q5, _, _, rfl, rfl, e56 _ _ (e45 _ _ g3), by rw [← eH5, upd_same], sz _ (by simp), fun q6 n6 => ?_⟩
  generalize eH6 : upd H5 q6 _ = H6 at *
  have e67 : Ex H5 H6 := by rw [← eH6]; exact Ex.new n6
  have g6 : H6 q6 = some (.lst ((errNames.map fun x => x == nm).map V.bl)) := by
    rw [← eH6, upd_same]
    rfl
  refine ⟨q4, q6, errNames, errNames.map fun x => x == nm, rfl, e67 _ _ (e56 _ _ g4), g6, by simp, by decide, fun Dl H7 e78 g7 => ?_⟩
  have pk : pick errNames (errNames.map fun x => x == nm) = [nm] := by
    have m := T.mem
    simp only [errNames, List.mem_cons, List.not_mem_nil, or_false] at m
    rcases m with rfl | rfl | rfl | rfl | rfl | rfl | rfl <;> decide
  have jn : Txt.join "" [nm] = nm := by
    have m := T.mem
    simp only [errNames, List.mem_cons, List.not_mem_nil, or_false] at m
    rcases m with rfl | rfl | rfl | rfl | rfl | rfl | rfl <;> rfl
  have ln : nm.length ≤ 20 := by
    have m := T.mem
    simp only [errNames, List.mem_cons, List.not_mem_nil, or_false] at m
    rcases m with rfl | rfl | rfl | rfl | rfl | rfl | rfl <;> decide
  rw [pk] at g7
  refine ⟨"", Dl, [nm], rfl, rfl, .inl (.inl (.inl g7)), ?_, ?_⟩
  · simp only [List.map_cons, List.map_nil, List.sum_cons, List.sum_nil, List.length_cons, List.length_nil]
    have : Str.length "" = 0 := by decide
    omega
  · rw [jn]
    exact q H7 (e12.trans (e23.trans (e34.trans (e45.trans (e56.trans (e67.trans e78))))))
end LZ
/-! Layer R, part 51: what a call returns, or the name of its error. -/
namespace LZ
open PySem PySem.Spec PyProof.Rows L2 LamX Evl HotX L2H
abbrev nErr : List Str := ["_law_e", "_law_some", "_law_words", "_law_word", "_law_good"]
abbrev nOut : List Str := ["_law_call", "_law_found", "_law_e"]
/-- the def _law_error -/
structure ErrD (K : PySem.W.Frag) (mg : Str → Option Value) (st : Stmt) (f : Addr) (fd : FuncData) : Prop where
  df : R.Def K mg "_law_error" st ["_law_e"] f fd
  sc : FnScope nErr ["_law_e"] (defScope st)
  pss : ∀ (X : Cx) (a D : Addr) (oe : Obj) (nm : Str), X.K = K → X.mg = mg → X.N = nErr → X.env.scope = defScope st → ErN K mg D nm → Zc (.ref D) none oe → (∃ vs, oe.data = .fields vs) → (a, oe) ∈ X.pn → HotC X → PSs X (defBody st) (tErr a nm)
section
variable {P : Program} {w : World} {K : PySem.W.Frag} {mg : Str → Option Value} {base : Heap}
theorem err_call {st : Stmt} {f : Addr} {fd : FuncData} {k : Nat} (T : ErrD K mg st f fd) {A : Around} {outer : List Env} {s : Shared} {H : Hp} {a Dd : Addr} {oe : Obj} {nm : Str} {Q : VK} {E : XK}
    (room : RoomH (k + 1) A) (hot : Hot1 A (a, oe)) (pin : PinOk outer H s (a, oe)) (e0 : Env0 P w K mg base A outer s H) (N : ErN K mg Dd nm) (hz : Zc (.ref Dd) none oe) (hf : ∃ vs, oe.data = .fields vs)
    (q : ∀ H2, Ex H H2 → Q (.str nm) H2) : codeAny (model P w) A (.call (.ref f) ⟨[.ref a], []⟩) (CR (L2N.CX P w) outer P w H s Q E) s := by
  have S := T.sc
  have hb := T.df.bd
  obtain ⟨oc, od, kV, doc, pm, an, cdv, ct, osl, efd, lk, hcd⟩ := T.df.fn.ex
  have kk : ∀ b o, base.get? b = some o → s.heap.get? b = some o := fun b o e => (e0.bs b o e).1
  have KX : K.In s.heap := e0.mod.kin.keeps kk
  have lim : s.heap.NoLimit := e0.mod.nolimit.keeps kk
  have hb := hb s [.ref a] KX rfl
  subst efd
  have kinds : ∀ y ∈ (["_law_e"] : List Str).zip [Value.ref a], (defScope st).names.lookup y.1 = some .local ∨ ((defScope st).names.lookup y.1 = some .cell ∧ ((cellsFrom (s.heap.objs.size + 1) (defScope st).names []).lookup y.1).isSome = true) := fun ⟨n, v⟩ hy => by
    cases S.par n (List.of_mem_zip hy).1 with
    | inl z => exact .inl z
    | inr z => exact .inr ⟨z, PySem.W.cellsFrom_some _ _ _ (.inl z)⟩
  refine codeAny_call_function room.depth (KX _ _ lk) rfl S.co S.gen rfl (PySem.W.codeRec_of KX hcd) (hb _ _ _ _ ?_)
  refine wpAny_newFunctionEnv_cells S.kind kinds fun env he s1 x => ?_
  subst he
  refine ⟨lim.keeps x.toInCall.keep, codeAny_func ?_⟩
  have I : Inv (cxH (L2N.CX P w) P w K mg base nErr "_law_error" (defScope st) f cdv A outer s H E (a, oe)) [] (L2.start nErr [.ref a]) H s1 := inv_startH S pin e0 rfl (.cons rfl .nil) x
  have hc : HotC (cxH (L2N.CX P w) P w K mg base nErr "_law_error" (defScope st) f cdv A outer s H E (a, oe)) := ⟨(a, oe), hot, List.mem_singleton.mpr rfl⟩
  have B := T.pss _ a Dd oe nm rfl rfl rfl rfl N hz hf (List.mem_singleton.mpr rfl) hc
  refine wpAny_mono (B.run [] s1 (L2.start nErr [.ref a]) H { nx := fun _ H' => Q .non H', rt := Q } I ⟨rfl, rfl, q⟩) (fun fl s' hs => ?_) fun e s' hs => hs
  cases fl with
  | ret u =>
    obtain ⟨v, σ', H', J, rv, qq⟩ := hs
    exact ⟨v, H', J.os, J.bare, J.base, J.hok, rv, qq⟩
  | next =>
    obtain ⟨σ', H', J, qq⟩ := hs
    exact ⟨.non, H', J.os, J.bare, J.base, J.hok, rfl, qq⟩
  | brk =>
    obtain ⟨_, _, _, z⟩ := hs
    exact z.elim
  | cont =>
    obtain ⟨_, _, _, z⟩ := hs
    exact z.elim
theorem noCX {outer : List Env} {H : Hp} {s s' : Shared} {e : Value} (c : L2N.CX P w outer H s (fun _ _ _ => False) e s') : False := by
  obtain ⟨_, _, _, _, _, _, _, _, _, _, _, _, z⟩ := c
  exact z
theorem pe_err {X : Cx} {st : Stmt} {f : Addr} {fd : FuncData} {k i : Nat} {p p2 pos : Pos} {a Dd : Addr} {oe : Obj} {nm : Str} {pn : List (Addr × Obj)} (T : ErrD X.K X.mg st f fd) (hr : Room (k + 1) X.A) (N : ErN X.K X.mg Dd nm) (hz : L2N.Zn (.ref Dd) none oe) (hf : ∃ vs, oe.data = .fields vs)
    (hg : Gl X "_law_error") (hi : X.N[i]? = some "_law_e") (hv : Vis X.env.scope "_law_e") (h1 : starEach [.Name "_law_e" p2] X.env = (false, eval (.Name "_law_e" p2) X.env) :: starEach [] X.env := by rfl) :
    PE (X.suite a ((a, oe) :: pn)) (.Call (.Name "_law_error" p) [.Name "_law_e" p2] [] pos) (fun σ H Q => σ[i]? = some (some (.ref a)) ∧ ∀ H2, Ex H H2 → Q (.str nm) H2) := by
  refine ⟨fun pins s σ H Q I h => ?_⟩
  obtain ⟨h0, q⟩ := h
  have hg2 : Gl (X.suite a ((a, oe) :: pn)) "_law_error" := hg
  refine wpAny_Call_Name_kw (ld_glob I hg2 T.df.gl ?_ (by decide))
  have ha : PA (X.suite a ((a, oe) :: pn)) [.Name "_law_e" p2] (tCons (tVar i) tNil) := pa_cons (pe_var hi hv) pa_nil h1
  refine PySem.W.callWith_K (h₀ := X.base) I.ok.mod.kin T.df.fn.kp (thn (ha.run pos pins s σ H (fun vs H1 => vs = [V.ref a] ∧ H1 = H) I ⟨.ref a, h0, rfl, rfl⟩) fun us s1 ⟨vs, H1, I1, r, ev, eH⟩ => ⟨I1.kIn, ?_⟩) h1 rfl
  subst ev eH
  cases r with
  | cons ru rn =>
    cases rn
    cases ru
    obtain ⟨vs, hd⟩ := hf
    have P1 := I1.pin (a, oe) (List.mem_append_left _ List.mem_cons_self)
    have pin : PinOk X.stack H1 s1 (a, oe) := ⟨P1.1, P1.2.1, fun hm => (List.mem_cons.mp (I1.stkSub a hm)).elim P1.2.2.1 P1.2.2.2.1, P1.2.2.2.2⟩
    have hot : Hot1 (X.A.mark (some (.ref a))) (a, oe) := ⟨rfl, vs, hd, hz.2.2 vs hd⟩
    have room : RoomH (k + 1) (X.A.mark (some (.ref a))) := ⟨hr.dp, hr.un⟩
    refine wpAny_call (codeAny_mono (err_call (E := fun _ _ _ => False) (Q := Q) T room hot pin I1.env0 N hz.zc ⟨vs, hd⟩ q) fun r s2 hq => ?_)
    cases r with
    | error e => exact (noCX hq).elim
    | ok fl =>
      cases fl with
      | ret u => exact I1.after hq
      | next => exact False.elim hq
      | brk => exact False.elim hq
      | cont => exact False.elim hq
end
/-- the error's class has a name, and it is the program's -/
structure ErP (K : PySem.W.Frag) (mg : Str → Option Value) (D : Addr) (nm : Str) : Prop where
  n : ErN K mg D nm
  base : ∃ Pe : Addr, mg "PlanError" = some (.ref Pe) ∧ PySem.W.exmOne K (.ref D) (.ref Pe) = some true
/-- what a call returns, or the name of its error: tl the call -/
def tOut (K : PySem.W.Frag) (mg : Str → Option Value) (tl : XK → Hp → VK → Prop) (H : Hp) (Q : VK) : Prop := ∀ (H1 : Hp) (E1 : XK) (Q1 : VK), Ex H H1 →
  (∀ D nm H', ErP K mg D nm → (∀ H2 p, Ex H' H2 → H2 p = none → Q (.ref p) (upd H2 p (.tup [.str nm]))) → E1 (.ref D) none H') →
  (∀ v H', (∀ H2 p, Ex H' H2 → H2 p = none → Q (.ref p) (upd H2 p (.tup [.str "value", v]))) → Q1 v H') → tl E1 H1 Q1
/-- the def _law_outcome -/
structure OutD (K : PySem.W.Frag) (mg : Str → Option Value) (st ste : Stmt) (g f : Addr) (fd fe : FuncData) : Prop where
  df : R.Def K mg "_law_outcome" st ["_law_call"] g fd
  sc : FnScope nOut ["_law_call"] (defScope st)
  er : ErrD K mg ste f fe
  k0 : (defScope st).names.lookup ("_law_call" : Str) = some .local
  k1 : (defScope st).names.lookup ("_law_found" : Str) = some .local
  k2 : (defScope st).names.lookup ("_law_e" : Str) = some .local
  kp : (defScope st).names.lookup ("PlanError" : Str) = some .globalImplicit
  ke : (defScope st).names.lookup ("_law_error" : Str) = some .globalImplicit
  pe : ∃ Pe : Addr, mg "PlanError" = some (.ref Pe)
  bd : ∃ p1 p2 p3 p4 p5 p6 p7 p8 p9 p10 p11 p12 p13 p14 p15 p16 p17 p18 p19 p20 p21 : Pos, defBody st = [.Assign [.Name "_law_found" p1] (.Tuple [.Constant (.str "nothing") 0 p2] 0 p3) p4,
    .Try [.Assign [.Name "_law_found" p5] (.Tuple [.Constant (.str "value") 0 p6, .Call (.Name "_law_call" p7) [] [] p8] 0 p9) p10]
      [.ExceptHandler (some (.Name "PlanError" p11)) (some "_law_e") [.Assign [.Name "_law_found" p12] (.Tuple [.Call (.Name "_law_error" p13) [.Name "_law_e" p14] [] p15] 0 p16) p17] p18] [] [] p19,
    .Return (some (.Name "_law_found" p20)) p21]
section
variable {P : Program} {w : World} {K : PySem.W.Frag} {mg : Str → Option Value} {base : Heap}
/-- _law_call(), the function at f -/
theorem pe_actN {X : Cx} {W : WX} {fs : List Addr} {s0 : Shared} {H0 : Hp} {f : Addr} {k i : Nat} {x : Str} {p pos : Pos} {tl : XK → Hp → VK → Prop} (a : Act X.prog X.w X.K X.mg X.base k fs s0 H0 f tl) (tk : L2N.Takes X W) (hr : Room k X.A)
    (hi : X.N[i]? = some x) (hv : Vis X.env.scope x) (un : ∀ {pins σ H s}, Inv X pins σ H s → Un fs [] H0 H s0.heap s.heap) (d1 : (x == ("__debug__" : Str)) = false := by decide) (d2 : (x == ("__classdict__" : Str)) = false := by decide) :
    PE X (.Call (.Name x p) [] [] pos) (fun σ H Q => σ[i]? = some (some (.ref f)) ∧ Ex H0 H ∧ tl (fun cls d H' => W cls d σ H') H Q) := by
  refine ⟨fun pins s σ H Q I h => ?_⟩
  obtain ⟨h0, ex, ht⟩ := h
  refine wpAny_Call_Name_kw (thn ((pe_var (pos := p) (i := i) hi hv d1 d2).run pins s σ H (fun v H1 => v = .ref f ∧ H1 = H) I ⟨.ref f, h0, rfl, rfl⟩) fun u s1 ⟨v, H1, I1, r1, q1⟩ => ?_)
  obtain ⟨ev, eH⟩ := q1
  subst ev eH
  obtain rfl : u = Value.ref f := r1
  have U := un I1
  refine PySem.W.callWith_F0 (a.fn s1 H1 U ex I1.hok) ?_
  refine wpAny_call (codeAny_mono (a.run X.A X.stack s1 H1 Q (fun cls d H' => W cls d σ H') hr I1.env0 U ex ht) fun r s2 hq => ?_)
  cases r with
  | error e => exact tk e s2 (L2N.XE.of_call I1 (fun _ _ _ h => h) hq)
  | ok fl =>
    cases fl with
    | ret u => exact I1.after hq
    | next => exact False.elim hq
    | brk => exact False.elim hq
    | cont => exact False.elim hq
theorem out_pss {X : Cx} {st ste : Stmt} {g f fa : Addr} {fd fe : FuncData} {k : Nat} {tl : XK → Hp → VK → Prop} (T : OutD X.K X.mg st ste g f fd fe) (hN : X.N = nOut) (hs : X.env.scope = defScope st) (stk : X.stack = X.env :: X.outer)
    (hf : X.env.frame = some X.env.locals) (tk : L2N.Takes X (fun _ _ _ _ => False)) (act : Act X.prog X.w X.K X.mg X.base k X.fs X.s_0 X.H_0 fa tl) (hr : Room (k + 1) X.A) (hex : X.ex = []) :
    PSs X (defBody st) (fun D σ H => σ[0]? = some (some (.ref fa)) ∧ σ.length = 3 ∧ Ex X.H_0 H ∧ tOut X.K X.mg tl H D.rt) := by
  obtain ⟨p1, p2, p3, p4, p5, p6, p7, p8, p9, p10, p11, p12, p13, p14, p15, p16, p17, p18, p19, p20, p21, bd⟩ := T.bd
  obtain ⟨Pe, mPe⟩ := T.pe
  rw [bd]
  have nd : X.N.Nodup := by rw [hN]; decide
  have i0 : X.N[0]? = some ("_law_call" : Str) := by rw [hN]; rfl
  have i1 : X.N[1]? = some ("_law_found" : Str) := by rw [hN]; rfl
  have i2 : X.N[2]? = some ("_law_e" : Str) := by rw [hN]; rfl
  have k0 : X.env.scope.names.lookup ("_law_call" : Str) = some .local := by rw [hs]; exact T.k0
  have k1 : X.env.scope.names.lookup ("_law_found" : Str) = some .local := by rw [hs]; exact T.k1
  have k2 : X.env.scope.names.lookup ("_law_e" : Str) = some .local := by rw [hs]; exact T.k2
  have gp : Gl X "PlanError" := by
    show X.env.scope.names.lookup ("PlanError" : Str) = _
    rw [hs]
    exact T.kp
  have ge : Gl X "_law_error" := by
    show X.env.scope.names.lookup ("_law_error" : Str) = _
    rw [hs]
    exact T.ke
  have S1 : PS X (.Assign [.Name "_law_found" p1] (.Tuple [.Constant (.str "nothing") 0 p2] 0 p3) p4) _ := ps_set (i := 1) nd i1 (.inl k1) (pe_tup (pa_cons pe_str pa_nil)) (hf := .inr k1)
  have S3 : PS X (.Return (some (.Name "_law_found" p20)) p21) _ := ps_ret (pe_var i1 (.inl k1))
  have S2 : PS X (.Try [.Assign [.Name "_law_found" p5] (.Tuple [.Constant (.str "value") 0 p6, .Call (.Name "_law_call" p7) [] [] p8] 0 p9) p10]
      [.ExceptHandler (some (.Name "PlanError" p11)) (some "_law_e") [.Assign [.Name "_law_found" p12] (.Tuple [.Call (.Name "_law_error" p13) [.Name "_law_e" p14] [] p15] 0 p16) p17] p18] [] [] p19) _ :=
    L2N.ps_try_as (i := 2) (n := "_law_e") (c := .ref Pe)
      (tb := fun W => tAsg (tTup (tCons (tC (.str "value")) (tCons (fun σ H Q => σ[0]? = some (some (.ref fa)) ∧ Ex X.H_0 H ∧ tl (fun cls d H' => W cls d σ H') H Q) tNil))) (gName 1))
      (ts := fun a cls d D σ H => ∃ Dd nm, cls = .ref Dd ∧ d = none ∧ ErP X.K X.mg Dd nm ∧ σ[2]? = some (some (.ref a)) ∧ ∀ H2 p, Ex H H2 → H2 p = none → D.nx (σ.set 1 (some (.ref p))) (upd H2 p (.tup [.str nm])))
      stk hf nd i2 k2 ⟨gp, by decide, .inl mPe⟩ tk
      (fun W pn xe tkW _ => by
        have A1 := pe_actN (X := X.tr pn xe) (i := 0) (x := "_law_call") (p := p7) (pos := p8) act tkW (hr.mono (Nat.le_succ k)) i0 (.inl k0) (fun {pins σ H s} I => by
          have b := I.base
          rw [show (X.tr pn xe).ex = [] from hex] at b
          exact b)
        have A2 : PE (X.tr pn xe) (.Tuple [.Constant (.str "value") 0 p6, .Call (.Name "_law_call" p7) [] [] p8] 0 p9) _ := pe_tup (pa_cons pe_str (pa_cons A1 pa_nil))
        exact pss_one (ps_set (i := 1) nd i1 (.inl k1) A2 (hf := .inr k1)))
      (fun a oe cls d pn hz hfl => ⟨fun pins s σ H D I h => by
        obtain ⟨Dd, nm, rfl, rfl, N, h2, q⟩ := h
        have A1 := pe_err (X := X) (i := 2) (p := p13) (p2 := p14) (pos := p15) (pn := pn) (a := a) (k := k) T.er hr N.n hz hfl ge i2 (.inl k2)
        have A2 : PE (X.suite a ((a, oe) :: pn)) (.Tuple [.Call (.Name "_law_error" p13) [.Name "_law_e" p14] [] p15] 0 p16) _ := pe_tup (pa_cons A1 pa_nil)
        have A3 : PS (X.suite a ((a, oe) :: pn)) (.Assign [.Name "_law_found" p12] (.Tuple [.Call (.Name "_law_error" p13) [.Name "_law_e" p14] [] p15] 0 p16) p17) _ := ps_set (i := 1) nd i1 (.inl k1) A2 (hf := .inr k1)
        exact (pss_one A3).run pins s σ H D I ⟨h2, fun H2 e => ⟨by show 1 ≤ sizeLine; decide, fun p hp => q H2 p e hp⟩⟩⟩)
  have SS := pss_cons S1 (pss_cons S2 (pss_one S3))
  refine ⟨fun pins s σ H D I h => SS.run pins s σ H D I ?_⟩
  obtain ⟨h0, hl, ex, ht⟩ := h
  obtain ⟨x0, x1, x2, rfl⟩ : ∃ x0 x1 x2, σ = [x0, x1, x2] := by
    match σ, hl with
    | [x0, x1, x2], _ => exact ⟨x0, x1, x2, rfl⟩
  have h0 : x0 = some (.ref fa) := by simpa using h0
  subst h0
  refine ⟨by show 1 ≤ sizeLine; decide, fun p0 n0 => ?_⟩
  refine ⟨rfl, ex.trans (Ex.new n0), ht _ _ _ (Ex.new n0) (fun Dd nm H' N q => ?_) fun v H' q => ?_⟩
  · obtain ⟨Pe', mPe', ee⟩ := N.base
    rw [mPe] at mPe'
    cases mPe'
    exact ⟨true, ee, fun _ a na => ⟨Dd, nm, rfl, rfl, N, rfl, fun H2 p e hp => ⟨_, rfl, q H2 p e hp⟩⟩, fun z => by cases z⟩
  · exact ⟨by show 2 ≤ sizeLine; decide, fun p hp => ⟨_, rfl, q H' p (Ex.refl H') hp⟩⟩
theorem out_call {st ste : Stmt} {g f fa : Addr} {fd fe : FuncData} {k : Nat} {tl : XK → Hp → VK → Prop} {A : Around} {outer : List Env} {s : Shared} {H : Hp} {Q : VK} (T : OutD K mg st ste g f fd fe) (room : Room (k + 2) A)
    (e0 : Env0 P w K mg base A outer s H) (a : Act P w K mg base k (frs outer) s H fa tl) (h : tOut K mg tl H Q) : codeAny (model P w) A (.call (.ref g) ⟨[.ref fa], []⟩) (CR (L2N.CX P w) outer P w H s Q (fun _ _ _ => False)) s := by
  have hb := T.df.bd
  have TT := T
  obtain ⟨oc, od, kV, doc, pm, an, cdv, ct, osl, efd, lk, hcd⟩ := T.df.fn.ex
  have KX : K.In s.heap := e0.mod.kin.keeps fun b o e => (e0.bs b o e).1
  have hb := hb s [.ref fa] KX rfl
  subst efd
  refine run_ofS (N := nOut) (ps := ["_law_call"]) (us := [.ref fa]) (vs := [.ref fa]) lk hcd T.sc room e0 hb (.cons rfl .nil) rfl fun hr => ?_
  exact ⟨_, out_pss TT rfl rfl rfl rfl (L2N.takes_of rfl rfl rfl rfl) a hr rfl, rfl, rfl, Ex.refl H, h⟩
end
end LZ
/-! Layer R, part 52: _law_outcome(lambda: ..) over data; the end of a law that makes lambdas. -/
namespace LZ
open PySem PySem.Spec PyProof.Rows L2 LamX Evl HotX L2H
section
variable {X : Cx}
/-- x(lambda: body), x is _law_outcome -/
theorem pe_outcome {st ste : Stmt} {g fe0 c P : Addr} {fd fe : FuncData} {k : Nat} {params : Arguments} {body : Expr} {scope : Scope} {t : XK → TE} {p lpos pos : Pos} (T : OutD X.K X.mg st ste g fe0 fd fe) (hg : Gl X "_law_outcome")
    (TB : TabB X.base X.mg c P) (hcode : X.env.code = .ref c) (hr : Room (k + 3) X.A) (L : LamS X.env.scope scope) (hdef : defaultsOf params X.env = ([], []))
    (hbind : ∀ (q : Str) (cl : List (Str × Addr)) (pm cv ctv : Value), bindArgs (PySem.W.kla_fn "<lambda>" q params body scope cl pm cv ctv) ⟨[], []⟩ = pure [])
    (hbody : ∀ (A : Around) (outer : List Env) (s : Shared) (H : Hp) (E : XK) (f cc : Addr), Room k (A.deeper (lamEnv X scope s.heap.objs.size f cc)) → PE (cxLam X A outer s H E scope f cc) body (t E)) :
    PE X (.Call (.Name "_law_outcome" p) [.Lambda params body scope lpos] [] pos) (fun σ H Q => TabS H P (X.env.qual ++ "<lambda>") ∧
      ∀ cc H1, Grown H H1 P (X.env.qual ++ "<lambda>") cc → H1 cc = some (CodeO cc (X.env.qual ++ "<lambda>")) → tOut X.K X.mg (fun E1 H2 Q1 => t E1 σ H2 Q1) H1 Q) := by
  refine ⟨fun pins s σ H Q I h => ?_⟩
  obtain ⟨hT, h⟩ := h
  refine wpAny_Call_Name_kw (ld_glob I hg T.df.gl ?_ (by decide))
  refine PySem.W.callWith_K (h₀ := X.base) I.ok.mod.kin T.df.fn.kp ?_ (by rfl) (by rfl)
  show wpAny _ _ (spliced ((false, eval (.Lambda params body scope lpos) X.env) :: backTo pos (starEach [] X.env))) _ _ s
  refine Calls.spliced_cons (lam_mk I TB hcode hT hdef (L.has I.ok) fun f cc pm ct H1 s1 I1 gr hf hfn hfr hco _ => ?_)
  refine Calls.spliced_nil ⟨I1.kIn, ?_⟩
  have act := act_lam (k := k) (tb := t) I1 L hf hfn hfr hco hbind (fun A outer s H E room => hbody A outer s H E f cc room)
  refine wpAny_call (codeAny_mono (out_call T hr I1.env0 act (h cc H1 gr hco)) fun r s2 hq => ?_)
  cases r with
  | error e => exact (noCX hq).elim
  | ok fl =>
    cases fl with
    | ret u => exact I1.after hq
    | next => exact False.elim hq
    | brk => exact False.elim hq
    | cont => exact False.elim hq
end
end LZ
namespace R
open PySem L2 Evl LamX
section
variable {u : Wr} {G H : Hp} {as : List Addr} {M : Mem} {K : PySem.W.Frag}
/-- more stands in the heap -/
theorem SR.grow {H' : Hp} (sr : SR u G H as M) (e : Ex H H') : SR u G H' as M :=
  ⟨sr.gh.trans e, sr.g0, sr.nd, sr.len, fun i a o h1 h2 => (sr.ms i a o h1 h2).stay (Ex.refl G) (fun z => z) fun w z => e _ _ z, fun a h z => (by
    have t := sr.there a h
    cases q : H a with
    | none => exact t q
    | some o => have z2 := e _ _ q; rw [z] at z2; cases z2), fun a o h1 h2 => e _ _ (sr.fr a o h1 h2), fun a h z => (by
    have t := sr.th a h
    cases q : H a with
    | none => exact t q
    | some o => have z2 := e _ _ q; rw [z] at z2; cases z2), sr.nf, sr.wr, sr.pre, fun a o h => ⟨e _ _ (sr.hd a o h).1, (sr.hd a o h).2⟩, fun p hp => ⟨(sr.tb p hp).1.stay (Ex.refl G) (fun z => z) (fun w z => e _ _ z), (sr.tb p hp).2⟩⟩
/-- a lambda was made -/
theorem SR.lam (sr : SR u G H as M) {P cc : Addr} {q : Str} {H1 : Hp} (hm : (P, q) ∈ u.T) (hu : ∀ p ∈ u.T, p.1 = P → p.2 = q) (gr : LZ.Grown H H1 P q cc) : ∃ G1, SR u G1 H1 as M ∧ Le G as G1 as ∧ G1 cc = some (CodeO cc q) := by
  obtain ⟨ps, pos, hP, gr⟩ := gr
  rcases gr with ⟨rfl, hcod⟩ | ⟨nc, rfl⟩
  · obtain ⟨⟨_, ps0, hP0, _, al⟩, _⟩ := sr.tb _ hm
    have hP0 : H1 P = some (.tbl ps0) := hP0
    rw [hP] at hP0
    cases hP0
    obtain ⟨c0, e0, e1⟩ := al _ _ hcod
    cases e0
    exact ⟨G, sr, Le.refl G as, e1⟩
  · have tP := sr.tb _ hm
    obtain ⟨⟨gP, ps0, hP0, tr, al⟩, nas, wrP, hidP⟩ := tP
    have hP0 : H P = some (.tbl ps0) := hP0
    rw [hP] at hP0
    cases hP0
    have nPc : P ≠ cc := ne_of_none hP nc
    have gc := sr.gnone nc
    have at_ : ∀ b, b ≠ P → b ≠ cc → (upd (upd H P (.tbl (ps ++ #[rawInt pos.line, rawInt pos.col, .ref cc]))) cc (CodeO cc q)) b = H b := fun b h1 h2 => by rw [upd_ne h2, upd_ne h1]
    have atP : (upd (upd H P (.tbl (ps ++ #[rawInt pos.line, rawInt pos.col, .ref cc]))) cc (CodeO cc q)) P = some (.tbl (ps ++ #[rawInt pos.line, rawInt pos.col, .ref cc])) := by rw [upd_ne nPc, upd_same]
    have eG : Ex G (upd G cc (CodeO cc q)) := Ex.new gc
    have keep : ∀ b o, b ≠ P → H b = some o → (upd (upd H P (.tbl (ps ++ #[rawInt pos.line, rawInt pos.col, .ref cc]))) cc (CodeO cc q)) b = some o := fun b o h1 h2 => by
      rw [at_ b h1 (ne_of_none h2 nc)]
      exact h2
    have some_ : ∀ b, H b ≠ none → (upd (upd H P (.tbl (ps ++ #[rawInt pos.line, rawInt pos.col, .ref cc]))) cc (CodeO cc q)) b ≠ none := fun b h => by
      by_cases hb : b = P
      · rw [hb, atP]; simp
      · cases z : H b with
        | none => exact absurd z h
        | some o => rw [keep b o hb z]; simp
    have nG : ∀ b, b ≠ cc → G b = none → (upd G cc (CodeO cc q)) b = none := fun b h1 h2 => by rw [upd_ne h1]; exact h2
    refine ⟨upd G cc (CodeO cc q), ⟨fun a o h => ?_, sr.g0.trans eG, sr.nd, sr.len, fun i a o h1 h2 => ?_, fun a h => some_ a (sr.there a h), fun a o h1 h2 => ?_, fun a h => some_ a (sr.th a h), fun a h1 h2 => nG a (ne_addr (sr.th a h1) nc) (sr.nf a h1 h2), sr.wr, sr.pre, fun a o h => ?_, fun p hp => ?_⟩, ⟨eG, [], by simp⟩, upd_same⟩
    · by_cases ha : a = cc
      · rw [ha, upd_same] at h
        cases h
        rw [ha, upd_same]
      · rw [upd_ne ha] at h
        exact keep a o (fun z => by rw [z] at h; rw [gP] at h; cases h) (sr.gh a o h)
    · have ha : a ≠ P := fun z => nas (by rw [← z]; exact sr.mem h1)
      have hc : a ≠ cc := ne_addr (sr.there a (sr.mem h1)) nc
      exact (sr.ms i a o h1 h2).stay eG (nG a hc) fun w z => keep a w ha z
    · have z := sr.fr a o h1 h2
      refine keep a o (fun y => ?_) z
      rw [y] at h1 h2
      rcases wrP with y2 | y2
      · rw [show u.B P = none from y2] at h1; cases h1
      · exact h2 y2
    · obtain ⟨z1, z2, z3⟩ := sr.hd a o h
      have ha : a ≠ P := fun z => by rw [z, show u.hid P = none from hidP] at h; cases h
      exact ⟨keep a o ha z1, nG a (ne_of_none z1 nc) z2, z3⟩
    · obtain ⟨t1, t2⟩ := sr.tb p hp
      refine ⟨?_, t2⟩
      by_cases hb : p.1 = P
      · have e2 := hu p hp hb
        obtain ⟨p1, p2⟩ := p
        dsimp only at hb e2
        subst hb e2
        refine ⟨nG _ nPc gP, _, atP, PySem.TriplesOk_snoc _ _ _ _ tr |> (fun z => by simpa using z), fun p' cv h => ?_⟩
        have eL : (ps ++ #[rawInt pos.line, rawInt pos.col, .ref cc]).toList = ps.toList ++ [rawInt pos.line, rawInt pos.col, .ref cc] := by simp
        rw [eL] at h
        rcases among_app _ tr h with y | y
        · obtain ⟨c0, e1, e3⟩ := al p' cv y
          exact ⟨c0, e1, eG _ _ e3⟩
        · exact ⟨cc, y, upd_same⟩
      · exact t1.stay eG (nG _ (ne_addr t1.some nc)) fun w z => keep _ w hb z
end
/-- what a call returns, or its error's name out of L -/
def wOutcome (L : List Str) (wb : DW) : DW := fun X env M Q => X "<tables>" [] ∧ wb (fun x M' => if x = "<tables>" then X "<tables>" [] else x ∈ L ∧ Q (.d (.tup [.str x])) M') env M fun s M' => match s with
  | .d d => Q (.d (.tup [.str "value", d])) M'
  | _ => False
/-- the error classes that may be named -/
def ErL (K : PySem.W.Frag) (mg : Str → Option Value) (L : List Str) : Prop := ∀ x ∈ L, ∃ D : Addr, PySem.W.nsIn K mainGlobals x = some (some (.ref D)) ∧ LZ.ErP K mg D x
theorem okE_outcome {K : PySem.W.Frag} {mg : Str → Option Value} {E : XK} {L : List Str} {wb : DW} {P : Addr} {q : Str} {t : XK → TE} (ER : ErL K mg L) (nt : PySem.W.nsIn K mainGlobals "<tables>" = some none) (hm : (P, q) ∈ tabsK K) (hu : ∀ p ∈ tabsK K, p.1 = P → p.2 = q)
    (ht : ∀ E1, OkE K E1 (t E1) wb) : OkE K E (fun σ H Q => TabS H P q ∧ ∀ cc H1, LZ.Grown H H1 P q cc → H1 cc = some (CodeO cc q) → LZ.tOut K mg (fun E1 H2 Q1 => t E1 σ H2 Q1) H1 Q) (wOutcome L wb) := by
  intro u G H as M env σ Q Qv c h fin
  obtain ⟨hx, h⟩ := h
  have eT : u.T = tabsK K := c.xok.2 hx
  refine ⟨?_, fun cc H1 gr hcc H2 E1 Q1 e12 hE hQ => ?_⟩
  · obtain ⟨⟨_, ps, h1, h2, h3⟩, _⟩ := c.sr.tb (P, q) (by rw [eT]; exact hm)
    refine ⟨ps, h1, h2, fun pos cv z => ?_⟩
    obtain ⟨c0, e1, e2⟩ := h3 pos cv z
    exact ⟨c0, e1, c.sr.gh _ _ e2⟩
  · obtain ⟨G1, sr1, l1, _⟩ := c.sr.lam (by rw [eT]; exact hm) (by rw [eT]; exact hu) gr
    have sr2 := sr1.grow e12
    have tup : ∀ {G' H' H3 : Hp} {as' : List Addr} {M' : Mem} {ds : List D} {xs : List V} {p : Addr}, SR (u.here G1 as E1 (fun x M' => if x = "<tables>" then u.XQ "<tables>" [] else x ∈ L ∧ Q (.d (.tup [.str x])) M')) G' H' as' M' → Reps G' ds xs → Q (.d (.tup ds)) M' → Ex H' H3 → H3 p = none → Qv (.ref p) (upd H3 p (.tup xs)) := by
      intro G' H' H3 as' M' ds xs p s1 r q1 e3 n3
      obtain ⟨s2, l2⟩ := sr2.out s1
      exact (fin.from (l1.trans l2)).tup (s2.grow e3) r q1 n3
    refine ht E1 (u.here G1 as E1 (fun x M' => if x = "<tables>" then u.XQ "<tables>" [] else x ∈ L ∧ Q (.d (.tup [.str x])) M')) G1 H2 as M env σ _ _ ⟨rfl, ⟨fun x cls G' H' as' M' s1 hx' hns => ?_, fun z => ?_⟩, sr2.inn _ _, c.er.mono l1⟩ h ?_
    · have hx' : (if x = "<tables>" then u.XQ "<tables>" [] else x ∈ L ∧ Q (.d (.tup [.str x])) M') := hx'
      by_cases hxt : x = "<tables>"
      · rw [hxt, nt] at hns; cases hns
      · rw [if_neg hxt] at hx'
        obtain ⟨Dd, n1, N⟩ := ER x hx'.1
        rw [n1] at hns
        cases hns
        exact hE Dd x H' N fun H3 p e3 n3 => tup s1 (reps_one (rep_str.mpr rfl)) hx'.2 e3 n3
    · exact eT
    · intro v G' H' as' M' s s1 l2 r q1
      cases s with
      | d d => exact hQ v H' fun H3 p e3 n3 => tup s1 (reps_cons.mpr ⟨_, _, rfl, rep_str.mpr rfl, reps_one r.d⟩) q1 e3 n3
      | m k => exact (show False from q1).elim
      | ml k => exact (show False from q1).elim
      | scr k => exact (show False from q1).elim
      | dic k => exact (show False from q1).elim
      | v k => exact (show False from q1).elim
      | acc k => exact (show False from q1).elim
section
variable {X : Cx} {E : XK}
theorem d_outcome {st ste : Stmt} {g fe0 c P : Addr} {fd fe : FuncData} {k : Nat} {L : List Str} {params : Arguments} {body : Expr} {scope : Scope} {wb : DW} {p lpos pos : Pos} (T : LZ.OutD X.K X.mg st ste g fe0 fd fe) (ER : ErL X.K X.mg L) (nt : PySem.W.nsIn X.K mainGlobals "<tables>" = some none)
    (TB : TabB X.base X.mg c P) (hm : (P, X.env.qual ++ "<lambda>") ∈ tabsK X.K) (hu : ∀ p ∈ tabsK X.K, p.1 = P → p.2 = X.env.qual ++ "<lambda>") (hr : Room (k + 3) X.A)
    (hbody : ∀ (A : Around) (outer : List PySem.Env) (s : Shared) (H : Hp) (E1 : XK) (f cc : Addr), Room k (A.deeper (LamX.lamEnv X scope s.heap.objs.size f cc)) → DE (LZ.cxLam X A outer s H E1 scope f cc) E1 body wb)
    (L_ : LamS X.env.scope scope := by exact LamX.lamS_by (by rfl)) (hcode : X.env.code = .ref c := by rfl) (hg : Gl X "_law_outcome" := by rfl) (hdef : defaultsOf params X.env = ([], []) := by rfl)
    (hbind : ∀ (q : Str) (cl : List (Str × Addr)) (pm cv ctv : Value), bindArgs (PySem.W.kla_fn "<lambda>" q params body scope cl pm cv ctv) ⟨[], []⟩ = pure [] := by intros; rfl) :
    DE X E (.Call (.Name "_law_outcome" p) [.Lambda params body scope lpos] [] pos) (wOutcome L wb) :=
  .mk' (LZ.pe_outcome (k := k) (t := fun E1 => tW X.K E1 wb) T hg TB hcode hr L_ hdef hbind fun A outer s H E1 f cc room => (hbody A outer s H E1 f cc room).pe) (okE_outcome ER nt hm hu fun E1 => okW)
end
/-- a def that may raise, its code object known -/
theorem fn_okXc {P : Program} {w0 : World} {K : PySem.W.Frag} {mg : Str → Option Value} {base : Heap} {x : Str} {st : Stmt} {f c T0 : Addr} {fd : FuncData} {N ps : List Str} {k n : Nat} {t : Bool} {sp : DSpecX} {w : DSw} (F : Fun K x x st f fd) (hns : PySem.W.nsIn K mainGlobals x = some (some (.ref f))) (htab : PySem.W.tabIn K x = some (c, T0))
    (S : FnScope N ps (defScope st)) (hn : N.length = ps.length + n) (hlen : ∀ ads Q X, sp ads Q X → ads.length = ps.length)
    (nt : PySem.W.nsIn K mainGlobals "<tables>" = some none)
    (hd : ∀ (A : Around) (outer : List PySem.Env) (s : Shared) (H : Hp) (E : XK), Room k (A.deeper (PyProof.Rows.envOfC x (defScope st) s.heap.objs.size f (.ref c))) → DSs (cxOf (L2N.CX P w0) P w0 K mg base N x (defScope st) f (.ref c) A outer s H E) E (defBody st) w)
    (hw : KeepsX w t n sp) : FnOk P w0 K mg base (L2N.CX P w0) (k + 1) f fd ps (spX K (tabsB K t) sp) := by
  have lenK : ∀ vs H Q E, spX K (tabsB K t) sp vs H Q E → vs.length = ps.length := fun vs H Q E ⟨G, ads, bs, Qd, X, e, nd, th, h, tb, hs, _⟩ => by rw [h.len.1]; exact hlen ads Qd X hs
  obtain ⟨oc, od, kV, doc, pm, an, cdv, ct, osl, efd, lk, hcd⟩ := F.ex
  subst efd
  have ec : cdv = .ref c := by
    unfold PySem.W.tabIn at htab
    rw [hns] at htab
    simp only [lk] at htab
    cases cdv with
    | ref c0 =>
      dsimp only at htab
      split at htab
      · split at htab
        · cases htab
          rfl
        · cases htab
      · cases htab
    | _ => cases htab
  subst ec
  refine fn_of lk hcd S lenK fun A outer s H vs Q E hr hs => ?_
  obtain ⟨G, ads, bs, Qd, X, e, nd, th, h, tb, hs, q, qx⟩ := hs
  exact ⟨_, (hd A outer s H E hr).pe, fin_bodyX okSW (hlen ads Qd X hs) hn e nd th h tb (hw ads Qd X hs) q qx nt⟩
/-- the law's promise, with tables -/
def sx_law : DSpecX := fun ads Q _ => sp_law ads Q
open PyProof.Rows in
theorem walk_RT {l : PySem.W.OpenLaw} {k : Nat} {q : Program} {loose : List Str} {XP : (Str → Option Value) → Heap → Prop} {YP : World → Heap → Prop} {d : DefRec} {K : Params → PySem.W.Frag} {x : Str} (ts : List Str)
    (hn : l.most = some 63) (hdf : d.params.defaults = []) (hr : Room k callerA) (hrec : ∀ y ∈ ts, ((recsOf q).find? fun e => e.name == y).isSome = true) (hY : ∀ (w : World) (h : Heap), YP w h → (K w.params).In h)
    (F : ∀ (w : World) (mg : Str → Option Value) (fa : Addr) (h : Heap), (K w.params).In h → h.Ns mainGlobals mg → mg d.name = some (.ref fa) → XP mg h →
      (∀ y ∈ ts, ∃ c P : Addr, PySem.W.tabIn (K w.params) y = some (c, P) ∧ (K w.params).lookup P = none) ∧ (∀ p ∈ tabsK (K w.params), ∃ y ∈ ts, ∃ c, PySem.W.tabIn (K w.params) y = some (c, p.1)) ∧
      ∃ fd : FuncData, (∀ (s : Shared) (u : Value), BindsTo s fd ⟨[u], []⟩ [(x, u)]) ∧
        ∀ base : Heap, (∀ y ∈ ts, ∀ c P, PySem.W.tabIn (K w.params) y = some (c, P) → TabB base mg c P) → FnOk l.prog w (K w.params) mg base (L2N.CX l.prog w) k fa fd [x] (spX (K w.params) (tabsB (K w.params) true) sx_law)) :
    PySem.W.WalkO q loose XP YP l.row.toRowW d [] (fun f vs => PySem.call f vs) := by
  refine Att.attach_callB hn hdf fun w s0 s1 mg mb fa o pm cd doc a vs ns G Y ho hd hcd hmg hobj hints hlen hbits hg => ?_
  have KX := hY w _ Y
  obtain ⟨hts, hsub, fd, hb, hF⟩ := F w mg fa _ KX G.T.g hmg G.X
  have hz : ns.length ≤ sizeLine := Nat.le_trans hlen (by rw [PySem.sizeLine_eq]; decide)
  have mem : ∀ p, p ∈ ts.filterMap (PySem.W.tabIn (K w.params)) → ∃ y ∈ ts, PySem.W.tabIn (K w.params) y = some p := fun p hp => by
    obtain ⟨y, h1, h2⟩ := List.mem_filterMap.mp hp
    exact ⟨y, h1, h2⟩
  have tabs : ∀ p ∈ ts.filterMap (PySem.W.tabIn (K w.params)), PySem.W.CodeHd s1.heap p.1 p.2 ∧ s1.heap.get? p.2 = some { cls := .none, data := .fields #[] } := fun p hp => by
    obtain ⟨y, h1, h2⟩ := mem p hp
    obtain ⟨dd, h3⟩ := Option.isSome_iff_exists.mp (hrec y h1)
    obtain ⟨c, P⟩ := p
    exact PySem.W.tab_of G.T KX h3 h2
  refine law_callTs (cs := ts.filterMap (PySem.W.tabIn (K w.params))) KX G.T.g G.T.b G.T.builtins G.T.nolimit hg (fun p hp => (tabs p hp).2) (fun p hp => ?_) (fun p hp => (tabs p hp).1) G.T.bmain hobj hints hz hr
    (fun base _ _ ht => hF base fun y hy c P h2 => ht (c, P) (List.mem_filterMap.mpr ⟨y, hy, h2⟩)) hb (fun H hH hS => ?_) fun H e s' => LZ.noCX
  · obtain ⟨y, h1, h2⟩ := mem p hp
    obtain ⟨c, P, h3, h4⟩ := hts y h1
    rw [h2] at h3
    cases h3
    exact h4
  · have isT : ∀ p ∈ tabsK (K w.params), H p.1 = some (.tbl #[]) := fun p hp => by
      obtain ⟨y, h1, c, h2⟩ := hsub p hp
      exact hH (c, p.1) (List.mem_filterMap.mpr ⟨y, h1, h2⟩)
    have eG : Ex (fun b => if b ∈ (tabsK (K w.params)).map (·.1) then none else H b) H := fun b o h => by
      dsimp only at h
      split at h
      · cases h
      · exact h
    have nT : ∀ b o, H b = some o → (∀ ps, o ≠ .tbl ps) → (fun b => if b ∈ (tabsK (K w.params)).map (·.1) then none else H b) b = some o := fun b o h n => by
      dsimp only
      rw [if_neg]
      · exact h
      · intro z
        obtain ⟨p, hp, e⟩ := List.mem_map.mp z
        have y := isT p hp
        rw [e, h] at y
        cases y
        exact n _ rfl
    have sq : SqL (K w.params) (fun b => if b ∈ (tabsK (K w.params)).map (·.1) then none else H b) a (ns.map V.int) := by
      rcases hS with (z | ⟨o, z⟩) | z
      · exact .inl (.inl (nT a _ z fun ps y => by cases y))
      · exact .inl (.inr ⟨o, nT a _ z fun ps y => by cases y⟩)
      · exact .inr z
    refine ⟨_, [.scr ns], [], fun s _ => s = .d (.bl true), fun _ _ => False, eG, List.nodup_nil, (fun _ z => by cases z), ⟨a, [], rfl, sq, rfl, rfl⟩, fun p hp => ?_, ⟨ns, rfl, hlen, rfl⟩, ?_, fun _ _ _ _ _ _ z => z.elim⟩
    · have hp : p ∈ tabsK (K w.params) := hp
      refine ⟨⟨?_, #[], isT p hp, True.intro, fun pos cv h => ?_⟩, by simp⟩
      · dsimp only
        rw [if_pos (List.mem_map.mpr ⟨p, hp, rfl⟩)]
      · have z : codeAmong pos [] = some cv := h
        simp [codeAmong] at z
    · rintro s M' v G' H' cs rfl sr l r
      exact rep_bl.mp r.d
theorem tabIn_none {K : PySem.W.Frag} {x : Str} (h : PySem.W.nsIn K mainGlobals x = some none) : PySem.W.tabIn K x = none := by
  unfold PySem.W.tabIn
  rw [h]
theorem tab_mk {K : PySem.W.Frag} {x : Str} {f c P : Addr} {oc : Value} {od : Option Addr} {nm q : Str} {ar : Arguments} {bo : List Stmt} {sc : Scope} {dV kV doc pm cdv ct : Value} {an : Option Addr} {sl : Array (Option Value)} {tcv : Value} {tcd : Option Addr} {tvs : Array Value} {tsl : Array (Option Value)}
    (a : PySem.W.nsIn K mainGlobals x = some (some (.ref f))) (l : K.lookup f = some ⟨oc, od, .func (PySem.W.fnOf nm q ar bo sc dV kV doc pm an cdv ct), sl⟩) (hc : cdv = .ref c) (hk : K.lookup c = some ⟨tcv, tcd, .fields tvs, tsl⟩) (hv : (tvs[11]? : Option Value) = some (.ref P)) : PySem.W.tabIn K x = some (c, P) := by
  subst hc
  unfold PySem.W.tabIn
  rw [a]
  simp only [l, hk, hv]
end R
/-! Layer R, part 53: sorted(set(xs)) of many ints, few of them different. -/
namespace ZM
open PySem PyProof.Rows L2
theorem nd_le : ∀ (l m : List Int), l.Nodup → (∀ x ∈ l, x ∈ m) → l.length ≤ m.length
  | [], m, _, _ => Nat.zero_le _
  | x :: r, m, h, hs => by
    have h' := List.nodup_cons.mp h
    have i := nd_le r (m.erase x) h'.2 fun y hy => (List.mem_erase_of_ne fun e => h'.1 (by rw [← e]; exact hy)).mpr (hs y (List.mem_cons_of_mem _ hy))
    have mx := hs x List.mem_cons_self
    rw [List.length_erase_of_mem mx] at i
    have := List.length_pos_of_mem mx
    simp only [List.length_cons]
    omega
theorem setR_few {w : World} {h : Heap} {a : Addr} {S : Int → Bool} {n : Nat} (R : SetR w h a S n) (ds : List Int) (hd : ∀ k, S k = true → k ∈ ds) : n ≤ ds.length := by
  obtain ⟨o, es, ep, t, _, _, _, _, nd, hm, _, _, hn, _⟩ := R
  have := nd_le _ ds nd fun x hx => hd x ((hm x).mpr hx)
  rw [List.length_map, Array.length_toList] at this
  omega
/-- sorted(set(xs)), ints -/
def tSortSetB (K : PySem.W.Frag) (ta : TE) : TE := fun σ H Q => ta σ H fun x H1 => ∃ (l : Addr) (ns ds : List Int), x = V.ref l ∧ SqL K H1 l (ns.map V.int) ∧ ns.length < 4000 ∧ ds.length < 60 ∧ (∀ k ∈ ns, k ∈ ds) ∧
  ∀ (out : List Int) (p : Addr), out.Pairwise (· < ·) → (∀ k, k ∈ out ↔ k ∈ ns) → H1 p = none → Q (.ref p) (upd H1 p (.lst (out.map V.int)))
theorem pe_sortSetB {X : Cx} {a : Expr} {ta : TE} {p p2 q pos : Pos} (hg : Gl X "sorted") (hm : X.mg "sorted" = none) (hg2 : Gl X "set") (hm2 : X.mg "set" = none) (ha : PE X a ta) (hc : X.calm = true := by rfl)
    (na : starEach [a] X.env = (false, eval a X.env) :: starEach [] X.env := by rfl) : PE X (.Call (.Name "sorted" p) [.Call (.Name "set" p2) [a] [] q] [] pos) (tSortSetB X.K ta) := by
  refine ⟨fun pins s σ H Q I h => ?_⟩
  refine Call_ (ld_blt I hg hm R.bt_sorted ?_)
  refine callWith_builtin1 (args_cons ?_ rfl) rfl rfl
  refine Call_ (ld_blt I hg2 hm2 boot_set ?_)
  refine callWith_type1 (args_cons (thn (ha.run pins s σ H _ I h) fun v s1 ⟨x, H1, I1, r1, q1⟩ => args_nil ?_) na) na rfl
  obtain ⟨l, ns, ds, rfl, hq, hn, hdl, hds, q1⟩ := q1
  cases r1
  obtain ⟨its, rv, pl, hz⟩ := I1.list hq
  refine set_of_list ns (I1.ok.hd hc) pl.isList (by simpa using rv.ints) (by unfold scanBound; omega) fun k tk c hR hc2 hk => args_nil ?_
  have few := setR_few hR ds fun k hk => hds k (by simpa using hk)
  have I2 : Inv X _ σ H1 { s1 with heap := k, toks := tk } := I1.kept hk
  refine sorted_set hR (I1.ok.hd hc) (by omega) fun s' p out c' ms k2 g o hp hob hi hs hm hl => ?_
  have hlen : (ms.map V.int).length ≤ sizeLine := by rw [List.length_map, hl, sizeLine_eq]; omega
  have hnp : H1 p = none := I2.hok.fresh hp
  have J : Inv X _ σ (upd H1 p (.lst (ms.map V.int))) { ({ s1 with heap := k, toks := tk } : Shared) with heap := s'.heap, gens := s'.gens, drawn := s'.drawn, toks := s'.toks } :=
    I2.call (ch := []) (Un.laid k2 hp hnp) (I2.hok.laid k2 hp ⟨hlen, out.toList, c', vals_of_ints hi, hob⟩) (by rw [g]; exact I2.bare) (fun _ z => nomatch z)
  have e : s' = { ({ s1 with heap := k, toks := tk } : Shared) with heap := s'.heap, gens := s'.gens, drawn := s'.drawn, toks := s'.toks } := by
    cases s'
    cases s1
    cases o
    rfl
  rw [e]
  exact ⟨.ref p, _, J, rfl, q1 ms p hs (fun k => by rw [hm]; simp) hnp⟩
end ZM
namespace R
open PySem L2 Evl PySem.W
def wSortSetB (we : DW) : DW := fun X env M Q => we X env M fun s M1 => match s with
  | .d (.lst ds) => ∃ ns es : List Int, ds = ns.map D.int ∧ ns.length < 4000 ∧ es.length < 60 ∧ (∀ k ∈ ns, k ∈ es) ∧ ∀ out, SortedOf out ns → Q (.d (.lst (out.map D.int))) M1
  | _ => False
theorem okE_sortSetB {K : PySem.W.Frag} {E : XK} {te : TE} {we : DW} (he : OkE K E te we) : OkE K E (ZM.tSortSetB K te) (wSortSetB we) := by
  intro u G H as M env σ Q Qv c h fin
  refine he u G H as M env σ _ _ c h fun x G1 H1 as1 M1 sx sr1 l1 rx q1 => ?_
  split at q1
  · rename_i ds
    obtain ⟨ns, es, rfl, hn, he2, hes, q1⟩ := q1
    obtain ⟨p, xs, rfl, hp, hxs⟩ := rep_lst.mp rx.d
    cases reps_ints.mp hxs
    exact ⟨p, ns, es, rfl, SqL.of (sr1.gh _ _ hp), hn, he2, hes, fun out l ho hm hl => (fin.from l1).lst sr1 (reps_ints.mpr rfl) (q1 out ⟨ho, hm⟩) hl⟩
  · exact q1.elim
theorem d_sortSetB {X : Cx} {E : XK} {e : Expr} {we : DW} {p p2 q pos : Pos} (hm : X.mg "sorted" = none) (hm2 : X.mg "set" = none) (he : DE X E e we) (hc : X.calm = true := by rfl) (hg : Gl X "sorted" := by rfl) (hg2 : Gl X "set" := by rfl) (na : starEach [e] X.env = (false, eval e X.env) :: starEach [] X.env := by rfl) :
    DE X E (.Call (.Name "sorted" p) [.Call (.Name "set" p2) [e] [] q] [] pos) (wSortSetB we) := .mk' (ZM.pe_sortSetB hg hm hg2 hm2 he.pe hc na) (okE_sortSetB okW)
/-! ### a call with a keyword that raises nothing (within a comprehension) -/
def wCallNn (sp : DSpecX) (n : Nat) (wa wk : DAW) : DW := fun X env M Q => wa X env M fun ss M1 => wk X env M1 fun zs M2 => ss.length = n ∧ zs.length = 1 ∧ callK false sp (fun _ _ => False) (ss ++ zs) M2 Q
theorem d_callNn {X : Cx} {E : XK} {x c : Str} {st : Stmt} {ps : List Str} {f : Addr} {fd : FuncData} {k n : Nat} {sp : DSpecX} {e : Expr} {es : List Expr} {kws : List Keyword} {wl wk : DAW} {p pos : Pos} (D : DefK X.K X.mg x c st ps f fd) (F : FnOk X.prog X.w X.K X.mg X.base (L2N.CX X.prog X.w) k f fd (ps ++ [c]) (spX X.K (tabsB X.K false) sp)) (hr : Room k X.A) (ha : DA X E (e :: es) wl) (hk : DK_ X E kws wk) (hn : ps.length = n := by rfl) (hg : Gl X x := by rfl)
    (hall : (backToKw pos (keywordEach kws X.env)).all (·.1.isSome) = true := by rfl) (hks : (backToKw pos (keywordEach kws X.env)).filterMap (·.1) = [c] := by rfl)
    (hdb : (x == ("__debug__" : Str)) = false := by decide) (he : starEach (e :: es) X.env = (false, eval e X.env) :: starEach es X.env := by rfl)
    (hpl : ((backTo pos (starEach (e :: es) X.env)).any (·.1) || (backToKw pos (keywordEach kws X.env)).any (·.1.isNone)) = false := by rfl) : DE X E (.Call (.Name x p) (e :: es) kws pos) (wCallNn sp n wl wk) := by
  subst hn
  obtain ⟨mv, hb⟩ := D.b1
  have tk : Passes (L2N.CX X.prog X.w) X (fun _ _ _ => False) := fun _ _ _ _ _ _ _ c => (LZ.noCX c).elim
  exact .mk' (pe_callN F hr hg D.gl D.fn.kp hb tk ha.pe hk.pe hall hks hdb he hpl) (by
    intro u G H as M env σ Q Qv c h fin
    refine ⟨u, G, as, M, env, _, c, h, fun vs G1 H1 as1 M1 ss sr1 l1 rs q => ?_⟩
    refine ⟨u, G1, as1, M1, env, _, c.step sr1 l1, q, fun zs G2 H2 as2 M2 ts sr2 l2 rs2 q2 => ?_⟩
    obtain ⟨e1, e2, q2⟩ := q2
    refine ⟨rs.len.trans e1, rs2.len.trans e2, callK_ok (u := u.wish (fun _ _ _ => False) fun _ _ => False) (env := []) (σ := []) (E := fun _ _ _ => False) ⟨rfl, ⟨fun _ _ _ _ _ _ _ z _ => z, fun z => z.elim⟩, sr2.wish _ _, rfl, fun i s e => by simp at e⟩ ((rs.mono l2).append rs2) q2 fun v G' H' as' M' s sr' l' rv q3 => (fin.from (l1.trans l2)) v G' H' as' M' s sr'.unwish l' rv q3⟩)
end R
/-! Layer R, part 54: accounts asked: isinstance, ==, truth. -/
namespace R
open PySem L2 Evl PySem.W
/-- what isinstance asks of the class -/
structure AccI (K : PySem.W.Frag) (C : Addr) : Prop where
  ha : PySem.W.findIn K (.ref C) "__class__" = some (some (.builtin "object.__class__"))
  hn : PySem.W.specialIn K (.builtin "object.__class__") "__get__" = some (some (.builtin "getset_descriptor.__get__"))
  ht : PySem.W.takesIn K (.builtin "object.__class__") = some true
  hm : PySem.W.mroIn K C (.type "object") = some true
  kt : PySem.W.kitOne K (.type "tuple") (.ref C) = some false
  nf : PySem.W.notFirst K C (.type "tuple") = true
def wIsA (we : DW) : DW := fun X env M Q => we X env M fun s M1 => match s with
  | .acc _ => Q (.d (.bl true)) M1
  | .d (.tup _) => Q (.d (.bl false)) M1
  | _ => False
theorem okE_isA {K : PySem.W.Frag} {mg : Str → Option Value} {E : XK} {C : Addr} {te : TE} {we : DW} (T : AccT K mg C) (I : AccI K C) (he : OkE K E te we) : OkE K E (tCB (rIsi K) (tCons te (tCons (tC (.ref C)) tNil))) (wIsA we) := by
  intro u G H as M env σ Q Qv c h fin
  refine he u G H as M env σ _ _ c h fun x G1 H1 as1 M1 sx sr1 l1 rx q1 => ?_
  cases sx with
  | acc j =>
    obtain ⟨C', a, dx, l, hC, rfl, hG, hl⟩ := rx
    have e1 := T.one hC
    subst e1
    exact ⟨.ref a, .ref C', .ref C', .ref C', true, rfl, .own _, .base (.ins (sr1.gh _ _ hG) T.cl I.ha I.hn I.ht I.hm), by unfold PySem.W.kitOne; simp, fin (.bl true) G1 H1 as1 M1 (.d (.bl true)) sr1 l1 srp_bl q1⟩
  | d d =>
    cases d with
    | tup ds =>
      obtain ⟨a, xs, rfl, hG, _⟩ := rep_tup.mp rx.d
      exact ⟨.ref a, .ref C, .type "tuple", .ref C, false, rfl, .own _, .base (.tup (sr1.gh _ _ hG)), I.kt, fin (.bl false) G1 H1 as1 M1 (.d (.bl false)) sr1 l1 srp_bl q1⟩
    | _ => exact (show False from q1).elim
  | _ => exact (show False from q1).elim
theorem d_isA {X : Cx} {E : XK} {C : Addr} {e : Expr} {we : DW} {p p2 pos : Pos} (T : AccT X.K X.mg C) (I : AccI X.K C) (hi : X.mg "isinstance" = none) (he : DE X E e we) (hg : Gl X "isinstance" := by rfl) (hA : Gl X "Account" := by rfl)
    (h1 : starEach [e, .Name "Account" p2] X.env = (false, eval e X.env) :: starEach [.Name "Account" p2] X.env := by rfl) (h2 : starEach [.Name "Account" p2] X.env = (false, eval (.Name "Account" p2) X.env) :: starEach [] X.env := by rfl)
    (hpl : (backTo pos (starEach [.Name "Account" p2] X.env)).any (·.1) = false := by rfl) : DE X E (.Call (.Name "isinstance" p) [e, .Name "Account" p2] [] pos) (wIsA we) :=
  .mk' (pe_callB call_isi hg hi (by decide +kernel) (pa_cons he.pe (pa_cons (pe_glob hA T.gl (v := .ref C) rfl (by decide)) pa_nil h2) h1) (by decide) (by decide) h1 hpl) (okE_isA T I okW)
/-! ### a == b -/
def rEqA (K : PySem.W.Frag) (C : Addr) (sp : DSpec) : R2 := fun x y H Q => ∃ a dx fs t, x = .ref a ∧ H a = some (.ins C dx fs) ∧ TyX K H y t ∧ PySem.W.notFirst K C t = true ∧ spOf K sp [x, y] H (fun v H' => ∃ b, v = .bl b ∧ Q (.bl b) H') E0
theorem op_eqA {X : Cx} {C f : Addr} {sp : DSpec} {k : Nat} (F : FnR X.prog X.w X.K X.mg X.base CX0 k f (spOf X.K sp)) (hm : Meth X.K C "__eq__" f) (hr : Room k X.A) : OpR X (compareOp .Eq) (rEqA X.K C sp) := by
  intro pins s σ H x y v u Q I rx ry h
  obtain ⟨a, dx, fs, t, rfl, ea, ty, nf, hsp⟩ := h
  obtain rfl : v = Value.ref a := rx
  obtain ⟨m, Fr⟩ := fr_of I
  obtain ⟨mA, O, _⟩ := ins_get I.hok ea
  obtain ⟨od, J, _⟩ := O.look
  obtain ⟨P, Z, p, _⟩ := kit_of I ry ty
  have hb := Z.ty (model X.prog X.w) s.heap I.kIn p
  refine PySem.W.cmp_ofEq (PySem.W.cmp_K (tb := t) (by have := hr.units; omega) Fr I.ok.mod.kin J hb nf hm.at_ hm.fn (wpAny_call (codeAny_mono (F X.A X.stack s H [.ref a, u] [.ref a, y] _ E0 hr I.env0 (.cons rfl (.cons ry .nil)) hsp) fun r s' hq => ?_)))
  cases r with
  | error er => exact False.elim hq
  | ok fl =>
    cases fl with
    | ret u =>
      obtain ⟨v, H', I3, rv, b, rfl, q3⟩ := I.after hq
      obtain rfl : u = Value.bool b := rv
      exact ⟨.bl b, H', I3, rfl, q3⟩
    | next => exact False.elim hq
    | brk => exact False.elim hq
    | cont => exact False.elim hq
/-- a method that answers with a bool, and raises nothing -/
def callA (sp : DSpec) (ss : List S) (M : Mem) (Q : Bool → Mem → Prop) : Prop := callK false (noX sp) (fun _ _ => False) ss M fun s M' => match s with
  | .d (.bl b) => Q b M'
  | _ => False
theorem callA_ok {K : PySem.W.Frag} {sp : DSpec} {u : Wr} {G H : Hp} {as : List Addr} {M : Mem} {ss : List S} {vs : List V} {Q : Bool → Mem → Prop} {Qv : VK} (sr : SR u G H as M) (rs : SRs K as G ss vs) (h : callA sp ss M Q)
    (fin : ∀ b G' H' as' M', SR u G' H' as' M' → Le G as G' as' → Q b M' → Qv (.bl b) H') : spOf K sp vs H Qv E0 := by
  refine spOf_of (callK_ok (u := u.wish (fun _ _ _ => False) fun _ _ => False) (G := G) (as := as) (M := M) (env := []) (σ := []) (ss := ss) (E := fun _ _ _ => False) ⟨rfl, ⟨fun _ _ _ _ _ _ _ z _ => z, fun z => z.elim⟩, sr.wish _ _, rfl, fun i s e => by simp at e⟩ rs h ?_)
  intro v G' H' as' M' s sr' l' rv q
  split at q
  · rename_i b
    rw [show v = .bl b from rep_bl.mp rv.d]
    exact fin b G' H' as' M' sr'.unwish l' q
  · exact q.elim
def fEqA (sp : DSpec) : DF := fun sx sy M Q => match sx, sy with
  | .acc i, .acc j => callA sp [.acc i, .acc j] M fun b M' => Q (.d (.bl b)) M'
  | .acc i, .d (.tup ds) => callA sp [.acc i, .d (.tup ds)] M fun b M' => Q (.d (.bl b)) M'
  | _, _ => False
theorem okR_eqA {K : PySem.W.Frag} {mg : Str → Option Value} {C : Addr} {sp : DSpec} (T : AccT K mg C) (I : AccI K C) : OkR K (rEqA K C sp) (fEqA sp) := by
  intro u G H as M x y sx sy Q Qv sr rx ry h fin
  unfold fEqA at h
  split at h
  · rename_i i j
    obtain ⟨C1, a, dx, l, hC, rfl, hG, hl⟩ := id rx
    have e1 := T.one hC
    subst e1
    obtain ⟨C2, a2, dx2, l2, hC2, rfl, hG2, hl2⟩ := id ry
    have e2 := T.one hC2
    subst e2
    refine ⟨a, dx, _, .ref C2, rfl, sr.gh _ _ hG, .base (.ins (sr.gh _ _ hG2) T.cl I.ha I.hn I.ht I.hm), by unfold PySem.W.notFirst; simp, callA_ok sr (.cons rx (.cons ry .nil)) h fun b G' H' as' M' sr' l' q => ⟨b, rfl, fin (.bl b) G' H' as' M' (.d (.bl b)) sr' l' srp_bl q⟩⟩
  · rename_i i ds
    obtain ⟨C1, a, dx, l, hC, rfl, hG, hl⟩ := id rx
    have e1 := T.one hC
    subst e1
    obtain ⟨a2, xs, rfl, hG2, _⟩ := rep_tup.mp (SRp.d ry)
    exact ⟨a, dx, _, .type "tuple", rfl, sr.gh _ _ hG, .base (.tup (sr.gh _ _ hG2)), I.nf, callA_ok sr (.cons rx (.cons ry .nil)) h fun b G' H' as' M' sr' l' q => ⟨b, rfl, fin (.bl b) G' H' as' M' (.d (.bl b)) sr' l' srp_bl q⟩⟩
  · exact h.elim
theorem d_eqA {X : Cx} {E : XK} {C f : Addr} {sp : DSpec} {k : Nat} {a b : Expr} {wa wb : DW} {pos : Pos} (T : AccT X.K X.mg C) (I : AccI X.K C) (F : FnR X.prog X.w X.K X.mg X.base CX0 k f (spOf X.K sp)) (hm : Meth X.K C "__eq__" f) (hr : Room k X.A) (ha : DE X E a wa) (hb : DE X E b wb) :
    DE X E (.Compare a [.Eq] [b] pos) (wOp (fEqA sp) wa wb) := d_cmp (op_eqA F hm hr) (okR_eqA T I) ha hb (nomark _)
theorem t_eqA {X : Cx} {E : XK} {C f : Addr} {sp : DSpec} {k : Nat} {a b : Expr} {wa wb : DW} {pos : Pos} (T : AccT X.K X.mg C) (I : AccI X.K C) (F : FnR X.prog X.w X.K X.mg X.base CX0 k f (spOf X.K sp)) (hm : Meth X.K C "__eq__" f) (hr : Room k X.A) (ha : DE X E a wa) (hb : DE X E b wb) :
    DT X E (.Compare a [.Eq] [b] pos) (wTst (wOp (fEqA sp) wa wb)) := t_cmp (op_eqA F hm hr) (okR_eqA T I) ha hb (nomark _)
/-! ### not a -/
def rTruA (K : PySem.W.Frag) (C : Addr) (sp : DSpec) (x : V) (H : Hp) (Q : Bool → Hp → Prop) : Prop := ∃ a dx fs, x = .ref a ∧ H a = some (.ins C dx fs) ∧ spOf K sp [.ref a] H (fun v H' => ∃ b, v = .bl b ∧ Q b H') E0
theorem tru_A {X : Cx} {C f : Addr} {sp : DSpec} {k : Nat} (F : FnR X.prog X.w X.K X.mg X.base CX0 k f (spOf X.K sp)) (hm : Meth X.K C "__bool__" f) (hr : Room k X.A) {pins : List (Addr × Obj)} {s : Shared} {σ : L2.St} {H : Hp} {x : V} {v : Value} {Q : Bool → Hp → Prop}
    (I : Inv X pins σ H s) (rx : RelV x v) (h : rTruA X.K C sp x H Q) : wpAny (model X.prog X.w) X.A (truthy v) (fun c s' => ∃ H', Inv X pins σ H' s' ∧ Q c H') X.xe s := by
  obtain ⟨a, dx, fs, rfl, ea, hsp⟩ := h
  obtain rfl : v = Value.ref a := rx
  obtain ⟨m, Fr⟩ := fr_of I
  obtain ⟨mA, O, _⟩ := ins_get I.hok ea
  obtain ⟨od, J, _⟩ := O.look
  refine PySem.W.truthy_K Fr I.ok.mod.kin J hm.at_ hm.fn (wpAny_call (codeAny_mono (F X.A X.stack s H [.ref a] [.ref a] _ E0 hr I.env0 (.cons rfl .nil) hsp) fun r s' hq => ?_))
  cases r with
  | error er => exact False.elim hq
  | ok fl =>
    cases fl with
    | ret u =>
      obtain ⟨v, H', I3, rv, b, rfl, q3⟩ := I.after hq
      obtain rfl : u = Value.bool b := rv
      exact ⟨H', I3, q3⟩
    | next => exact False.elim hq
    | brk => exact False.elim hq
    | cont => exact False.elim hq
def wNotA (sp : DSpec) (we : DW) : DW := fun X env M Q => we X env M fun s M1 => match s with
  | .acc j => callA sp [.acc j] M1 fun b M' => Q (.d (.bl (!b))) M'
  | _ => False
theorem okE_notA {K : PySem.W.Frag} {mg : Str → Option Value} {E : XK} {C : Addr} {sp : DSpec} {te : TE} {we : DW} (T : AccT K mg C) (he : OkE K E te we) : OkE K E (fun σ H Q => te σ H fun x H1 => rTruA K C sp x H1 fun b H2 => Q (.bl (!b)) H2) (wNotA sp we) := by
  intro u G H as M env σ Q Qv c h fin
  refine he u G H as M env σ _ _ c h fun x G1 H1 as1 M1 sx sr1 l1 rx q1 => ?_
  cases sx with
  | acc j =>
    obtain ⟨C1, a, dx, l, hC, rfl, hG, hl⟩ := id rx
    have e1 := T.one hC
    subst e1
    exact ⟨a, dx, _, rfl, sr1.gh _ _ hG, callA_ok sr1 (.cons rx .nil) q1 fun b G' H' as' M' sr' l' q => ⟨b, rfl, fin (.bl (!b)) G' H' as' M' (.d (.bl (!b))) sr' (l1.trans l') srp_bl q⟩⟩
  | _ => exact (show False from q1).elim
open PyProof.Rows in
theorem pe_notA {X : Cx} {C f : Addr} {sp : DSpec} {k : Nat} {a : Expr} {ta : TE} {pos : Pos} (F : FnR X.prog X.w X.K X.mg X.base CX0 k f (spOf X.K sp)) (hm : Meth X.K C "__bool__" f) (hr : Room k X.A) (ha : PE X a ta) :
    PE X (.UnaryOp .Not a pos) (fun σ H Q => ta σ H fun x H1 => rTruA X.K C sp x H1 fun b H2 => Q (.bl (!b)) H2) := by
  refine ⟨fun pins s σ H Q I h => ?_⟩
  refine UnaryOp_ (thn (ha.run pins s σ H _ I h) fun v s1 ⟨x, H1, I1, r1, q1⟩ => ?_)
  exact not_of (thn (tru_A (Q := fun c H2 => Q (.bl (!c)) H2) F hm hr I1 r1 q1) fun c s2 ⟨H2, I2, q2⟩ => ⟨.bl (!c), H2, I2, rfl, q2⟩)
theorem d_notA {X : Cx} {E : XK} {C f : Addr} {sp : DSpec} {k : Nat} {a : Expr} {wa : DW} {pos : Pos} (T : AccT X.K X.mg C) (F : FnR X.prog X.w X.K X.mg X.base CX0 k f (spOf X.K sp)) (hm : Meth X.K C "__bool__" f) (hr : Room k X.A) (ha : DE X E a wa) :
    DE X E (.UnaryOp .Not a pos) (wNotA sp wa) := .mk' (pe_notA F hm hr ha.pe) (okE_notA T okW)
open PyProof.Rows in
theorem new_boolA {prog : Program} {w : World} (a : Addr) : MeetsIn prog w (Builtin.«bool.__new__» ⟨[.type "bool", .ref a], []⟩)
    (fun A R s => wpAny (model prog w) A.in1 (truthy (.ref a)) (fun b s1 => R (.ok (.ret (.bool b))) s1) (fun e s1 => R (.error e) s1) s) :=
  .of_wp fun A R s h => by
    have f1 := PySem.F.conv_sub_bool
    unfold Builtin.«bool.__new__»
    simp only [isType, f1, pure_bind, Bool.not_true, Bool.false_eq_true, if_false]
    refine wpAny_bind (m := someArgs "bool" 0 1 _) (wpAny_of_eq (a := [Value.ref a]) (by first | rfl | (simp only [someArgs]; rfl)) ?_)
    exact wpAny_bind (wpAny_mono h (fun b s1 hR => wpAny_pure ⟨_, rfl, hR⟩) fun _ _ z => z)
open PyProof.Rows in
theorem call_boolA {X : Cx} {C f : Addr} {sp : DSpec} {k : Nat} (F : FnR X.prog X.w X.K X.mg X.base CX0 k f (spOf X.K sp)) (hm : Meth X.K C "__bool__" f) (hr : Room (k + 2) X.A) :
    CallR X (.type "bool") (fun xs H Q => ∃ x, xs = [x] ∧ rTruA X.K C sp x H fun b H' => Q (.bl b) H') := by
  intro pins s σ H xs us Q I r h
  obtain ⟨x, rfl, h⟩ := h
  obtain ⟨a, dx, fs, rfl, ea, hsp⟩ := h
  have eu : us = [Value.ref a] := by
    cases r with
    | cons r1 r2 => cases r2; rw [show _ = Value.ref a from r1]
  subst eu
  refine callType_newIn PySem.F.called_bool PySem.F.newNe_bool (PySem.F.typeCall_bool_1 _) (PySem.F.newCall_bool_1 _) (fun obj => PySem.F.args_object_init_2 obj _) PySem.F.entry_bool_new (new_boolA a) ?_
  obtain ⟨m, Fr⟩ := fr_of I
  obtain ⟨mA, O, _⟩ := ins_get I.hok ea
  obtain ⟨od, J, _⟩ := O.look
  show wpAny (model X.prog X.w) X.A.in1.in1 (truthy (.ref a)) _ _ _
  refine PySem.W.truthy_K Fr I.ok.mod.kin J hm.at_ hm.fn (wpAny_call (codeAny_mono (F X.A.in1.in1 X.stack s H [.ref a] [.ref a] _ E0 hr.in1.in1 I.env0.in1.in1 (.cons rfl .nil) hsp) fun r s' hq => ?_))
  cases r with
  | error er => exact False.elim hq
  | ok fl =>
    cases fl with
    | ret u =>
      obtain ⟨v, H', I3, rv, b, rfl, q3⟩ := I.after hq
      obtain rfl : u = Value.bool b := rv
      exact ⟨by first | exact typeIs_bool _ _ | rfl | trivial, .bl b, H', I3, rfl, q3⟩
    | next => exact False.elim hq
    | brk => exact False.elim hq
    | cont => exact False.elim hq
end R
/-! Layer R, part 55: bool(account), bool(a bool), constants and classmethods of the class. -/
namespace R
open PySem L2 Evl PySem.W
def fBoolA (sp : DSpec) : DFC := fun ss M Q => match ss with
  | [.acc j] => callA sp [.acc j] M fun b M' => Q (.d (.bl b)) M'
  | _ => False
theorem okC_boolA {K : PySem.W.Frag} {mg : Str → Option Value} {C : Addr} {sp : DSpec} (T : AccT K mg C) : OkC K (fun xs H Q => ∃ x, xs = [x] ∧ rTruA K C sp x H fun b H' => Q (.bl b) H') (fBoolA sp) := by
  intro u G H as M xs ss Q Qv sr rs h fin
  unfold fBoolA at h
  split at h
  · rename_i j
    obtain ⟨v, rfl, r⟩ := rs.one
    obtain ⟨C1, a, dx, l, hC, rfl, hG, hl⟩ := id r
    have e1 := T.one hC
    subst e1
    exact ⟨_, rfl, a, dx, _, rfl, sr.gh _ _ hG, callA_ok sr (.cons r .nil) h fun b G' H' as' M' sr' l' q => ⟨b, rfl, fin (.bl b) G' H' as' M' (.d (.bl b)) sr' l' srp_bl q⟩⟩
  · exact h.elim
def fBoolB : DFC
  | [.d (.bl b)], M, Q => Q (.d (.bl b)) M
  | _, _, _ => False
open PyProof.Rows in
theorem call_boolB {X : Cx} : CallR X (.type "bool") (fun xs H Q => ∃ b, xs = [V.bl b] ∧ Q (.bl b) H) := by
  intro pins s σ H xs us Q I r h
  obtain ⟨b, rfl, q⟩ := h
  have eu : us = [Value.bool b] := by
    cases r with
    | cons r1 r2 => cases r2; rw [show _ = Value.bool b from r1]
  subst eu
  exact call_bool_bool ⟨.bl b, H, I, rfl, q⟩
theorem okC_boolB {K : PySem.W.Frag} : OkC K (fun xs H Q => ∃ b, xs = [V.bl b] ∧ Q (.bl b) H) fBoolB := by
  intro u G H as M xs ss Q Qv sr rs h fin
  unfold fBoolB at h
  split at h
  · rename_i b
    obtain ⟨v, rfl, r⟩ := rs.one
    exact ⟨b, by rw [show v = .bl b from rep_bl.mp r.d], fin.here sr (s := .d (.bl b)) srp_bl h⟩
  · exact h.elim
theorem bt_bool : bootBuiltins "bool" = some (.type "bool") := by decide +kernel
section
variable {X : Cx} {E : XK} {C f : Addr} {sp : DSpec} {k : Nat} {e : Expr} {we : DW} {es : List Expr} {wl : DAW} {p p1 pos apos : Pos}
theorem d_boolA (T : AccT X.K X.mg C) (F : FnR X.prog X.w X.K X.mg X.base CX0 k f (spOf X.K sp)) (hm : Meth X.K C "__bool__" f) (hr : Room (k + 2) X.A) (hb : X.mg "bool" = none) (ha : DA X E (e :: es) wl) (hg : Gl X "bool" := by rfl)
    (he : starEach (e :: es) X.env = (false, eval e X.env) :: starEach es X.env := by rfl) (hpl : (backTo pos (starEach es X.env)).any (·.1) = false := by rfl) : DE X E (.Call (.Name "bool" p1) (e :: es) [] pos) (wCB (fBoolA sp) wl) :=
  d_callTy (call_boolA F hm hr) (okC_boolA T) hb bt_bool ha hg (by decide) (by decide) he hpl
theorem d_boolB (hb : X.mg "bool" = none) (ha : DA X E (e :: es) wl) (hg : Gl X "bool" := by rfl)
    (he : starEach (e :: es) X.env = (false, eval e X.env) :: starEach es X.env := by rfl) (hpl : (backTo pos (starEach es X.env)).any (·.1) = false := by rfl) : DE X E (.Call (.Name "bool" p1) (e :: es) [] pos) (wCB fBoolB wl) :=
  d_callTy call_boolB okC_boolB hb bt_bool ha hg (by decide) (by decide) he hpl
/-- Account.f, f a number -/
structure ClsC (K : PySem.W.Frag) (C : Addr) (f : Str) (i : Int) : Prop where
  mc : ∃ (mc : Value) (t : Tok), ClX.CRead K C mc ∧ PySem.W.findCls K (.ref C) mc f = some (.val (.int i t))
theorem d_clsC {f : Str} {i : Int} (T : AccT X.K X.mg C) (c : ClsC X.K C f i) (hA : Gl X "Account" := by rfl) (hb : attributeBase (.Name "Account" p) f X.env (eval (.Name "Account" p) X.env) = eval (.Name "Account" p) X.env := by rfl) :
    DE X E (.Attribute (.Name "Account" p) f pos) (wC (.int i)) := by
  obtain ⟨mc, t, rd, hv⟩ := c.mc
  exact .mk' (ClX.pe_cval (pe_glob hA T.gl (v := .ref C) rfl (by decide)) hb) (by
    intro u G H as M env σ Q Qv c h fin
    exact ⟨C, mc, .int i, .int i t, rfl, rd, ⟨hv, ⟨t, rfl⟩⟩, fin.here c.sr (s := .d (.int i)) srp_int h⟩)
end
end R
/-! Layer R, part 56: Account.flat. -/
namespace R
open PySem L2 Evl PySem.W
theorem tW_mono {K : PySem.W.Frag} {E : XK} {w : DW} {σ : L2.St} {H : Hp} {Qv Qv' : VK} (h : ∀ v H1, Qv v H1 → Qv' v H1) (t : tW K E w σ H Qv) : tW K E w σ H Qv' := by
  obtain ⟨u, G, as, M, env, Q, c, hw, f⟩ := t
  exact ⟨u, G, as, M, env, Q, c, hw, fun v G' H' as' M' s sr l r q => h _ _ (f v G' H' as' M' s sr l r q)⟩
/-- a new account of a plan that costs a fee alone -/
def spFlat (C : Addr) (sp : Sp) : Sp := fun vs H Q E => ∃ v, vs = [.ref C, v] ∧ ∀ p, H p = none → ∀ x dx, upd H p (.tup [v, .int 0, .int 0, .int 0]) x = none → upd H p (.tup [v, .int 0, .int 0, .int 0]) dx = none → dx ≠ x →
  sp [.ref x, .ref p] (upd (upd (upd H p (.tup [v, .int 0, .int 0, .int 0])) dx (.own x)) x (.ins C dx [])) (fun w H2 => w = .non ∧ Q (.ref x) H2) E
section
variable {X : Cx}
open PyProof.Rows in
theorem pe_lmake {CX : CXT} {C f : Addr} {fd : FuncData} {ps : List Str} {sp : Sp} {k i : Nat} {x : Str} {e : Expr} {te : TE} {E : XK} {p pos : Pos} (M : Mk X.K C f) (F : FnOk X.prog X.w X.K X.mg X.base CX k f fd ps sp) (hr : Room (k + 1) X.A) (hi : X.N[i]? = some x) (hv : Vis X.env.scope x)
    (hb : Binds X.K fd ps []) (hx : Passes CX X E) (ha : PE X e te) (d1 : (x == ("__debug__" : Str)) = false := by decide) (d2 : (x == ("__classdict__" : Str)) = false := by decide) (he : starEach [e] X.env = (false, eval e X.env) :: starEach [] X.env := by rfl) :
    PE X (.Call (.Name x p) [e] [] pos) (fun σ H Q => σ[i]? = some (some (.ref C)) ∧ tMake C sp [] E (tCons te tNil) σ H Q) := by
  refine ⟨fun pins s σ H Q I h => ?_⟩
  obtain ⟨h0, h⟩ := h
  refine wpAny_Call_Name_kw (thn ((pe_var (pos := p) (i := i) hi hv d1 d2).run pins s σ H (fun v H1 => v = .ref C ∧ H1 = H) I ⟨.ref C, h0, rfl, rfl⟩) fun u s1 ⟨v, H1, I1, r1, q1⟩ => ?_)
  obtain ⟨ev, eH⟩ := q1
  subst ev eH
  obtain rfl : u = Value.ref C := r1
  refine PySem.W.callWith_K (h₀ := X.base) I1.ok.mod.kin M.kp (thn ((pa_cons ha pa_nil he).run pos pins s1 σ H1 _ I1 h) fun us s2 ⟨vs, H2, I2, r, q⟩ => ⟨I2.kIn, ?_⟩) he rfl
  exact run_make M F hr hb .nil hx I2 r q
end
/-- the classmethod flat -/
structure FltD (K : PySem.W.Frag) (C : Addr) (st : Stmt) (g : Addr) (fd : FuncData) : Prop where
  fn : Fun K "flat" "Account.flat" st g fd
  sc : FnScope ["cls", "fee"] ["cls", "fee"] (defScope st)
  bd : Binds K fd ["cls", "fee"] []
  at_ : ∃ (mc : Value) (p : Addr), ClX.CRead K C mc ∧ ClX.CMet K C mc "flat" p g
  lk : (defScope st).names.lookup ("cls" : Str) = some .local
  lf : (defScope st).names.lookup ("fee" : Str) = some .local
  bo : ∃ p1 p2 p3 p4 p5 p6 p7 p8 : Pos, defBody st = [.Return (some (.Call (.Name "cls" p1) [.Tuple [.Name "fee" p2, .Constant (.int 0) 0 p3, .Constant (.int 0) 0 p4, .Constant (.int 0) 0 p5] 0 p6] [] p7)) p8]
open PyProof.Rows in
theorem fn_flat {P : Program} {w0 : World} {K : PySem.W.Frag} {mg : Str → Option Value} {base : Heap} {C f g : Addr} {fd fi : FuncData} {st : Stmt} {k : Nat} (D : FltD K C st g fd) (M : Mk K C f) (F : FnOk P w0 K mg base (L2N.CX P w0) k f fi ["self", "plan"] (spInit K)) (hb : Binds K fi ["self", "plan"] []) :
    FnR P w0 K mg base (L2N.CX P w0) (k + 2) g (spFlat C (spInit K)) := by
  have DD := D
  obtain ⟨oc, od, kV, doc, pm, an, cdv, ct, osl, efd, lk, hcd⟩ := D.fn.ex
  have bd := D.bd
  obtain ⟨p1, p2, p3, p4, p5, p6, p7, p8, bo⟩ := D.bo
  subst efd
  have R0 : FnOk P w0 K mg base (L2N.CX P w0) (k + 1 + 1) g (PySem.W.fnOf "flat" "Account.flat" (defArgs st) (defBody st) (defScope st) .none kV doc pm an cdv ct) ["cls", "fee"] (spFlat C (spInit K)) := by
    refine fn_of lk hcd D.sc (fun vs H Q E ⟨v, e, _⟩ => by rw [e]; rfl) fun A outer s H vs Q E hr hs => ?_
    obtain ⟨v, rfl, h⟩ := hs
    rw [bo]
    refine ⟨_, pss_one (ps_ret (pe_lmake (i := 0) (x := "cls") M F hr rfl (.inl D.lk) hb (passN (L2N.takes_of rfl rfl rfl rfl)) (pe_tup (pa_cons (pe_var (i := 1) (x := "fee") rfl (.inl D.lf)) (pa_cons pe_int (pa_cons pe_int (pa_cons pe_int pa_nil))))))), rfl, ?_⟩
    exact ⟨v, rfl, by show 4 ≤ sizeLine; decide, fun p hp y dx a b c => h p hp y dx a b c⟩
  refine (R0.raw bd .nil).imp fun vs H Q E h => ?_
  rw [List.append_nil]
  exact h
open PyProof.Rows in
theorem d_flat {X : Cx} {E : XK} {C g : Addr} {fd : FuncData} {st : Stmt} {k : Nat} {e : Expr} {we : DW} {pA apos pos : Pos} (T : AccT X.K X.mg C) (D : FltD X.K C st g fd) (F : FnR X.prog X.w X.K X.mg X.base (L2N.CX X.prog X.w) k g (spFlat C (spInit X.K))) (tk : Passes (L2N.CX X.prog X.w) X E) (hr : Room k X.A) (he : DE X E e we)
    (hA : Gl X "Account" := by rfl) (hst : starEach [e] X.env = (false, eval e X.env) :: starEach [] X.env := by rfl)
    {pl : Sem Bool} (ht : eval (.Call (.Attribute (.Name "Account" pA) "flat" apos) [e] [] pos) X.env = (do
      let ov ← eval (.Name "Account" pA) X.env
      standAt apos.atName
      let (f, first) ← holding [ov] (getMethod ov "flat" pl)
      callWith pos f first (backTo pos (starEach [e] X.env)) (backToKw pos (keywordEach [] X.env))) := by rfl) :
    DE X E (.Call (.Attribute (.Name "Account" pA) "flat" apos) [e] [] pos) (wMake (wCons (wTup (wCons we (wCons (wC (.int 0)) (wCons (wC (.int 0)) (wCons (wC (.int 0)) wNil))))) wNil)) := by
  obtain ⟨mc, p, rd, cm⟩ := D.at_
  refine .mk' (ClX.pe_cmeth (pl := pl) (pe_glob hA T.gl (v := .ref C) rfl (by decide)) rd cm F hr tk (pa_cons he.pe pa_nil hst) hst (by rfl) ht) ?_
  intro u G H as M env σ Q Qv c h fin
  have q := okE_make T (okA_cons (okE_tup (okA_cons (okW (w := we)) (okA_cons (okE_int 0) (okA_cons (okE_int 0) (okA_cons (okE_int 0) okA_nil))))) okA_nil) u G H as M env σ Q Qv c h fin
  refine ⟨rfl, tW_mono (fun v H1 q => ⟨v, rfl, fun p hp y dx a b c => ?_⟩) q⟩
  exact q.2 p hp y dx a b c
end R
/-! Layer R, part 57: the rest of class Account. -/
namespace R
open PySem L2 Evl
def sp_Account_bool : DSpec := fun ads Q => ∃ (pre : List D) (s : Acc), ads = [.acc (pre ++ [s.D])] ∧ Q (.d (.bl (decide (s.kept > 0)))) [.ext (pre ++ [s.D])]
theorem l_Account_bool : ∀ ads Q, sp_Account_bool ads Q → ads.length = 1 := by rintro _ _ ⟨_, _, rfl, _⟩; rfl
def w_Account_bool : DSw := (wRet (wCB fBoolB (wCons (wOp fGt (wOp fIx (wOp fIx (wStates (wVar 0)) (wUn fNeg (wC (.int 1)))) (wC (.int 3))) (wC (.int 0))) wNil)))
theorem v_Account_bool : Keeps w_Account_bool 0 sp_Account_bool := by
  rintro ads Q ⟨pre, s, rfl, q⟩
  exact atQ_some (atI_last _ _) q
theorem sh_acc (s : Acc) : Sh 9 s.D := by
  have h := sh_us s.used
  refine ⟨⟨trivial, trivial, trivial, trivial, trivial⟩, ?_, trivial, trivial, trivial, trivial⟩
  have : ∀ (n : Nat) (us : List Int), Shs n (us.map D.int) := by
    intro n us
    induction us with
    | nil => trivial
    | cons u us ih => exact ⟨trivial, ih⟩
  exact this 7 s.used
def sp_Account_eq (ads : List AD) (Q : DK) : Prop := (∃ (pre pre2 : List D) (s t : Acc), ads = [.acc (pre ++ [s.D]), .acc (pre2 ++ [t.D])] ∧ Q (.d (.bl (eqD s.D t.D))) [.ext (pre ++ [s.D]), .ext (pre2 ++ [t.D])]) ∨
  ∃ (pre ds : List D) (s : Acc), ads = [.acc (pre ++ [s.D]), .d (.tup ds)] ∧ Q (.d (.bl false)) [.ext (pre ++ [s.D])]
theorem l_Account_eq : ∀ ads Q, sp_Account_eq ads Q → ads.length = 2 := by
  rintro _ _ (⟨_, _, _, _, rfl, _⟩ | ⟨_, _, _, rfl, _⟩) <;> rfl
def w_Account_eq : DSw := (wRet (wAndV (wIsA (wVar 1)) (wOp fEq (wOp fIx (wStates (wVar 0)) (wUn fNeg (wC (.int 1)))) (wOp fIx (wStates (wVar 1)) (wUn fNeg (wC (.int 1)))))))
theorem v_Account_eq : Keeps w_Account_eq 0 sp_Account_eq := by
  rintro ads Q (⟨pre, pre2, s, t, rfl, q⟩ | ⟨pre, ds, s, rfl, q⟩)
  · exact atQ_some (atI_last _ _) (atQ_some (atI_last _ _) ⟨sh_acc s, sh_acc t, q⟩)
  · exact q
theorem noF' {P : Prop} : (false = true) → P := fun z => Bool.noConfusion z
abbrev errLA : List Str := ["InvalidNumber", "InvalidPlan", "TooMany", "NothingToUndo"]
theorem ints_inj' : ∀ {us vs : List Int}, us.map D.int = vs.map D.int → us = vs
  | [], [], _ => rfl
  | [], _ :: _, h => by cases h
  | _ :: _, [], h => by cases h
  | u :: us, v :: vs, h => by
    rw [List.map_cons, List.map_cons] at h
    injection h with h1 h2
    injection h1 with h1
    rw [h1, ints_inj' h2]
theorem call_useX {Q : DK} {X : XC} {pre : List D} {s : Acc} {ds : List AD} (us : List Int) (hd : ds = us.map fun u => AD.d (.int u)) (ok : s.Ok) (hp : pre.length ≤ 1000) (hu : ∀ u ∈ us, 0 ≤ u ∧ u ≤ 1000000) (h3 : us.length ≤ 1000)
    (q : s.used.length + us.length ≤ 36 → Q (.d (.int ((playM s.plan us s.kept).map Row.cost).sum)) [.ext (pre ++ [s.D] ++ [(s.use us).D])]) (qx : 36 < s.used.length + us.length → X "TooMany" [.ext (pre ++ [s.D])]) : spStarX sx_Account_use 1 (.acc (pre ++ [s.D]) :: ds) Q X := by
  subst hd
  refine ⟨[.acc (pre ++ [s.D])], us.map fun u => AD.d (.int u), us.map D.int, rfl, rfl, by rw [List.map_map]; rfl, by rw [List.length_map]; omega, pre, s, us.map D.int, rfl, ok, hp, fun h => ?_, fun _ h => ?_, fun vs hv _ hl => ?_⟩
  · have : isUnits (us.map D.int) = true := isUnits_all fun i d e => by
      obtain ⟨u, hu', rfl⟩ := map_get e
      obtain ⟨a, b⟩ := hu u (List.mem_of_getElem? hu')
      exact inR_int a b
    rw [this] at h; cases h
  · rw [List.length_map] at h
    exact qx h
  · have e := ints_inj' hv
    subst e
    exact q hl
/-- use with up to three units -/
def sx_law_use : DSpecX := fun ads Q X => ∃ (pre : List D) (s : Acc) (us : List Int), ads = [.acc (pre ++ [s.D]), .d (usD us)] ∧ us.length ≤ 3 ∧ (∀ u ∈ us, 0 ≤ u ∧ u ≤ 1000000) ∧ s.Ok ∧ pre.length ≤ 1000 ∧
  (s.used.length + us.length ≤ 36 → Q (.d (.int ((playM s.plan us s.kept).map Row.cost).sum)) [.ext (pre ++ [s.D] ++ [(s.use us).D])]) ∧ (36 < s.used.length + us.length → X "TooMany" [.ext (pre ++ [s.D])])
theorem l_X_law_use : lenX sx_law_use 2 := by rintro _ _ _ ⟨_, _, _, rfl, _⟩; rfl
def w_X_law_use : DSw := (wSeq (wIfS (wTst (wOp fEq (wVar 1) (wTup wNil))) (wRet (wMethX false (spStarX sx_Account_use 1) (wVar 0) wNil)) wNext) (wSeq (wIfS (wTst (wOp fEq (wCB fLen (wCons (wVar 1) wNil)) (wC (.int 1)))) (wRet (wMethX false (spStarX sx_Account_use 1) (wVar 0) (wCons (wOp fIx (wVar 1) (wC (.int 0))) wNil))) wNext) (wRet (wIf (wTst (wOp fEq (wCB fLen (wCons (wVar 1) wNil)) (wC (.int 2)))) (wMethX false (spStarX sx_Account_use 1) (wVar 0) (wCons (wOp fIx (wVar 1) (wC (.int 0))) (wCons (wOp fIx (wVar 1) (wC (.int 1))) wNil))) (wMethX false (spStarX sx_Account_use 1) (wVar 0) (wCons (wOp fIx (wVar 1) (wC (.int 0))) (wCons (wOp fIx (wVar 1) (wC (.int 1))) (wCons (wOp fIx (wVar 1) (wC (.int 2))) wNil))))))))
theorem v_X_law_use : KeepsX w_X_law_use false 0 sx_law_use := by
  rintro ads Q X ⟨pre, s, us, rfl, hl, hu, ok, hp, q, qx⟩
  match us, hl, hu, q, qx with
  | [], _, hu, q, qx => exact ⟨rfl, trivial, trivial, noF', nod1, call_useX [] rfl ok hp hu (by show _ ≤ 1000; simp) q fun h => xEnds_of (t := false) (x := "TooMany") (by decide) (qx h)⟩
  | [a], _, hu, q, qx => exact ⟨rfl, ⟨trivial, trivial⟩, trivial, trivial, trivial, atQ_some rfl ⟨noF', nod1, call_useX [a] rfl ok hp hu (by show _ ≤ 1000; simp) q fun h => xEnds_of (t := false) (x := "TooMany") (by decide) (qx h)⟩⟩
  | [a, b], _, hu, q, qx => exact ⟨rfl, ⟨trivial, trivial, trivial⟩, trivial, trivial, trivial, trivial, trivial, atQ_some rfl (atQ_some rfl ⟨noF', nod1, call_useX [a, b] rfl ok hp hu (by show _ ≤ 1000; simp) q fun h => xEnds_of (t := false) (x := "TooMany") (by decide) (qx h)⟩)⟩
  | [a, b, c], _, hu, q, qx => exact ⟨rfl, ⟨trivial, trivial, trivial, trivial⟩, trivial, trivial, trivial, trivial, trivial, atQ_some rfl (atQ_some rfl (atQ_some rfl ⟨noF', nod1, call_useX [a, b, c] rfl ok hp hu (by show _ ≤ 1000; simp) q fun h => xEnds_of (t := false) (x := "TooMany") (by decide) (qx h)⟩))⟩
section
variable {P : Program} {w0 : World} {K : PySem.W.Frag} {mg : Str → Option Value} {base : Heap}
/-- a def with lambdas that is no law -/
theorem fn_defXc {x : Str} {st : Stmt} {f c T0 : Addr} {fd : FuncData} {N ps : List Str} {k n : Nat} {t : Bool} {sp : DSpecX} {w : DSw} (F : Fun K x x st f fd) (hns : PySem.W.nsIn K mainGlobals x = some (some (.ref f))) (htab : PySem.W.tabIn K x = some (c, T0))
    (S : FnScope N ps (defScope st)) (hb : Binds K fd ps []) (hn : N.length = ps.length + n) (hlen : ∀ ads Q X, sp ads Q X → ads.length = ps.length)
    (nt : PySem.W.nsIn K mainGlobals "<tables>" = some none)
    (hd : ∀ (A : Around) (outer : List PySem.Env) (s : Shared) (H : Hp) (E : XK), Room k (A.deeper (PyProof.Rows.envOfC x (defScope st) s.heap.objs.size f (.ref c))) → DSs (cxOf (L2N.CX P w0) P w0 K mg base N x (defScope st) f (.ref c) A outer s H E) E (defBody st) w)
    (hw : KeepsX w t n sp) : FnR P w0 K mg base (L2N.CX P w0) (k + 1) f (spX K (tabsB K t) sp) := by
  refine ((fn_okXc F hns htab S hn hlen nt hd hw).raw hb .nil).imp fun vs H Q E h => ?_
  rw [List.append_nil]
  exact h
end
end R
namespace R
open PySem L2 Evl
abbrev errL : List Str := ["InvalidNumber", "InvalidPlan", "TooMany", "NothingToUndo"]
theorem pl_acc {s : Acc} (h : s.used.length ≤ 36) : Pl 4 s.D := by
  refine ⟨(by show 5 ≤ 16000000; decide), fun d hd => ?_⟩
  simp only [List.mem_cons, List.not_mem_nil, or_false] at hd
  rcases hd with rfl | rfl | rfl | rfl | rfl
  · refine ⟨(by show 4 ≤ 16000000; decide), fun d hd => ?_⟩
    simp only [List.mem_cons, List.not_mem_nil, or_false] at hd
    rcases hd with rfl | rfl | rfl | rfl <;> trivial
  · refine ⟨by rw [List.length_map]; omega, fun d hd => ?_⟩
    obtain ⟨u, _, rfl⟩ := List.mem_map.mp hd
    trivial
  · trivial
  · trivial
  · trivial
def sp_law_right : DSpec := fun ads Q => ∃ (pre : List D) (s : Acc), ads = [.acc (pre ++ [s.D]), .d s.D] ∧ s.used.length ≤ 36 ∧ Q (.d (.bl true)) [.ext (pre ++ [s.D])]
theorem l_law_right : ∀ ads Q, sp_law_right ads Q → ads.length = 2 := by rintro _ _ ⟨_, _, rfl, _⟩; rfl
def w_law_right : DSw := (wSeq (wAsg (wTup (wCons (wProp sp_Account_plan (wVar 0)) (wCons (wProp sp_Account_used (wVar 0)) (wCons (wProp sp_Account_paid (wVar 0)) (wCons (wProp sp_Account_kept (wVar 0)) (wCons (wProp sp_Account_lost (wVar 0)) wNil)))))) (wgName 2)) (wRet (wAndV (wCall sp_law_same (wCons (wVar 2) (wCons (wVar 1) wNil))) (wAndV (wOp fEq (wCB (fBoolA sp_Account_bool) (wCons (wVar 0) wNil)) (wOp fGt (wOp fIx (wVar 1) (wC (.int 3))) (wC (.int 0)))) (wOp fEq (wCB (fLenA sp_Account_len) (wCons (wVar 0) wNil)) (wCB fLen (wCons (wOp fIx (wVar 1) (wC (.int 1))) wNil)))))))
theorem v_law_right : Keeps w_law_right 1 sp_law_right := by
  rintro ads Q ⟨pre, s, rfl, hl, q⟩
  refine ⟨noF', nod1, pre, s, rfl, noF', nod1, pre, s, rfl, noF', nod1, pre, s, rfl, noF', nod1, pre, s, rfl, noF', nod1, pre, s, rfl, ?_⟩
  refine ⟨rfl, nod0, call_same (pl_acc hl) ?_⟩
  have e : eqD (.bl (decide (s.kept > 0))) (.bl (decide (0 < s.kept))) = true := by
    show (decide (s.kept > 0) == decide (0 < s.kept)) = true
    exact beq_self_eq_true _
  have e2 : eqD (.int (s.used.length : Int)) (.int ((s.used.map D.int).length : Int)) = true := by
    show ((s.used.length : Int) == ((s.used.map D.int).length : Int)) = true
    rw [List.length_map]
    exact beq_self_eq_true _
  refine ⟨noF', nod1, pre, s, rfl, trivial, trivial, ?_⟩
  show if eqD (.bl (decide (s.kept > 0))) (.bl (decide (0 < s.kept))) = true then _ else _
  rw [if_pos e]
  refine ⟨noF', nod1, pre, s, rfl, ⟨by omega, by omega, trivial, trivial, ?_⟩⟩
  show Q (.d (.bl (eqD (.int (s.used.length : Int)) (.int ((s.used.map D.int).length : Int))))) _
  rw [e2]
  exact q
theorem odd_at {c : Int} (c0 : 0 ≤ c) (c1 : c < 5) : ∃ d, atI [D.non, .bl true, .int (-1), .int 1000001, .str "3"] c = some d ∧ inR d 0 1000000 = false ∧ isPlanD d = false := by
  have h : c = 0 ∨ c = 1 ∨ c = 2 ∨ c = 3 ∨ c = 4 := by omega
  rcases h with rfl | rfl | rfl | rfl | rfl
  · exact ⟨.non, rfl, rfl, rfl⟩
  · exact ⟨.bl true, rfl, rfl, rfl⟩
  · exact ⟨.int (-1), rfl, rfl, rfl⟩
  · exact ⟨.int 1000001, rfl, rfl, rfl⟩
  · exact ⟨.str "3", rfl, rfl, rfl⟩
theorem call_odd {Q : DK} {X : XC} {pre : List D} {s : Acc} {d : D} (h : inR d 0 1000000 = false) (ok : s.Ok) (hp : pre.length ≤ 1000) (qx : X "InvalidNumber" [.ext (pre ++ [s.D])]) : spStarX sx_Account_use 1 [.acc (pre ++ [s.D]), .d (.int 1), .d d] Q X := by
  have no : isUnits [.int 1, d] = false := isUnits_no (i := 1) rfl h
  refine ⟨[.acc (pre ++ [s.D])], [.d (.int 1), .d d], [.int 1, d], rfl, rfl, rfl, (by show 2 ≤ 16000000; decide), pre, s, [.int 1, d], rfl, ok, hp, fun _ => qx, (fun z => by rw [no] at z; cases z), fun us e hu _ => ?_⟩
  rw [e] at no
  have : isUnits (us.map D.int) = true := isUnits_all fun i d e => by
    obtain ⟨u, hu', rfl⟩ := map_get e
    obtain ⟨a, b⟩ := hu u (List.mem_of_getElem? hu')
    exact inR_int a b
  rw [this] at no; cases no
theorem pl_val (k : Int) : Pl 4 (.tup [.str "value", .int k]) := by
  refine ⟨(by show 2 ≤ 16000000; decide), fun d hd => ?_⟩
  simp only [List.mem_cons, List.not_mem_nil, or_false] at hd
  rcases hd with rfl | rfl
  · exact (by decide +kernel : PyData.canLay0 (.str "value") = true)
  · trivial
theorem plan_inj {p q : Plan} (h : p.D = q.D) : p = q := by
  obtain ⟨a, b, c, d⟩ := p
  obtain ⟨a', b', c', d'⟩ := q
  simp only [Plan.D, D.tup.injEq, List.cons.injEq, D.int.injEq, and_true] at h
  obtain ⟨rfl, rfl, rfl, rfl⟩ := h
  rfl
theorem use_snoc (s : Acc) (vs : List Int) (u : Int) : (s.use vs).use [u] = s.use (vs ++ [u]) := by
  unfold Acc.use
  simp [playM_snoc, kAfter_snoc, playM, kAfter, List.append_assoc, Int.add_assoc]
theorem eqD_used {s t : Acc} (h : s.used ≠ t.used) : eqD s.D t.D = false := by
  show (eqD s.plan.D t.plan.D && (eqD (.tup (s.used.map D.int)) (.tup (t.used.map D.int)) && _)) = false
  rw [eqD_tints, decide_eq_false h, Bool.false_and, Bool.and_false]
theorem use_ok {s : Acc} {us : List Int} (ok : s.Ok) (hu : ∀ u ∈ us, 0 ≤ u ∧ u ≤ 1000000) (h : s.used.length + us.length ≤ 36) : (s.use us).Ok := by
  refine ⟨ok.plan, ⟨by show (s.used ++ us).length ≤ 36; rw [List.length_append]; exact h, fun u hm => ?_⟩⟩
  rcases List.mem_append.mp hm with z | z
  · exact ok.used.all u z
  · exact hu u z
/-- one step: the states that come after -/
def sx_law_step : DSpecX := fun ads Q _ => ∃ (n : Nat) (pre : List D) (s : Acc), ads = [.mo (.bag n), .acc (pre ++ [s.D]), .d s.D] ∧ n < 2 ^ 50 ∧ s.Ok ∧ pre.length ≤ 900 ∧
  ∀ (later : List Acc) (n' : Nat), later.length ≤ 1 → (∀ t ∈ later, t.Ok) → n' ≤ n + 5020 → Q (.d (.tup [.bl true, .lst (later.map Acc.D)])) [.bag n', .ext (pre ++ [s.D] ++ later.map Acc.D)]
theorem l_X_law_step : lenX sx_law_step 3 := by rintro _ _ _ ⟨_, _, _, rfl, _⟩; rfl
def w_X_law_step : DSw := (wSeq (wAsg (wVar 2) (wgTup 5 (wgCons (wgName 6) (wgCons (wgName 7) (wgCons (wgName 8) (wgCons (wgName 9) (wgCons (wgName 10) wgNil))))))) (wSeq (wAsg (wCall sp_law_take (wCons (wVar 0) (wCons (wC (.int 8)) wNil))) (wgName 3)) (wSeq (wIfS (wTst (wOp fLt (wVar 3) (wC (.int 5)))) (wSeq (wAsg (wCall sp_law_usage (wCons (wVar 0) (wCons (wC (.int 3)) (wCons (wVar 6) wNil)))) (wgName 11)) (wSeq (wAsg (wOutcome errL (wCallX false sx_law_use (wCons (wVar 1) (wCons (wVar 11) wNil)))) (wgName 12)) (wSeq (wIfS (wTst (wOp fGt (wOp fAdd (wCB fLen (wCons (wVar 7) wNil)) (wCB fLen (wCons (wVar 11) wNil))) (wC (.int 36)))) (wRet (wTup (wCons (wOp fEq (wVar 12) (wTup (wCons (wC (.str "TooMany")) wNil))) (wCons (wLst wNil) wNil)))) wNext) (wSeq (wAsg (wCall sp_law_months (wCons (wVar 6) (wCons (wVar 11) (wCons (wVar 9) wNil)))) (wgTup 2 (wgCons (wgName 15) (wgCons (wgName 16) wgNil)))) (wSeq (wAsg (wCB fSum (wCons (wLc (wiLst (wVar 15)) (wgName 17) wYes (wOp fIx (wVar 17) (wC (.int 0))) [17]) wNil)) (wgName 13)) (wSeq (wAsg (wTup (wCons (wVar 6) (wCons (wOp fAdd (wVar 7) (wVar 11)) (wCons (wOp fAdd (wVar 8) (wVar 13)) (wCons (wVar 16) (wCons (wOp fAdd (wVar 10) (wCB fSum (wCons (wLc (wiLst (wVar 15)) (wgName 17) wYes (wOp fIx (wVar 17) (wC (.int 2))) [17]) wNil))) wNil)))))) (wgName 2)) (wRet (wTup (wCons (wCall sp_law_same (wCons (wVar 12) (wCons (wTup (wCons (wC (.str "value")) (wCons (wVar 13) wNil))) wNil))) (wCons (wLst (wCons (wVar 2) wNil)) wNil)))))))))) wNext) (wSeq (wIfS (wTst (wOp fLt (wVar 3) (wC (.int 7)))) (wSeq (wAsg (wIf (wTst (wOp fEq (wCall sp_law_take (wCons (wVar 0) (wCons (wC (.int 5)) wNil))) (wC (.int 0)))) (wVar 6) (wCall sp_law_near (wCons (wVar 0) (wCons (wVar 6) wNil)))) (wgName 14)) (wSeq (wAsg (wOutcome errL (wMethX false sx_Account_change (wVar 1) (wCons (wVar 14) wNil))) (wgName 12)) (wRet (wTup (wCons (wCall sp_law_same (wCons (wVar 12) (wCons (wTup (wCons (wC (.str "value")) (wCons (wVar 9) wNil))) wNil))) (wCons (wLst (wCons (wTup (wCons (wVar 14) (wCons (wVar 7) (wCons (wVar 8) (wCons (wC (.int 0)) (wCons (wOp fAdd (wVar 10) (wVar 9)) wNil)))))) wNil)) wNil)))))) wNext) (wSeq (wAsg (wOp fIx (wLst (wCons (wC .non) (wCons (wC (.bl true)) (wCons (wUn fNeg (wC (.int 1))) (wCons (wOp fAdd (wOp fPow (wC (.int 10)) (wC (.int 6))) (wC (.int 1))) (wCons (wC (.str "3")) wNil)))))) (wCall sp_law_take (wCons (wVar 0) (wCons (wC (.int 5)) wNil)))) (wgName 4)) (wSeq (wAsg (wOp fEq (wOutcome errL (wMethX false (spStarX sx_Account_use 1) (wVar 1) (wCons (wC (.int 1)) (wCons (wVar 4) wNil)))) (wTup (wCons (wC (.str "InvalidNumber")) wNil))) (wgName 5)) (wRet (wTup (wCons (wAndV (wVar 5) (wOp fEq (wOutcome errL (wMethX false sx_Account_change (wVar 1) (wCons (wVar 4) wNil))) (wTup (wCons (wC (.str "InvalidPlan")) wNil)))) (wCons (wLst wNil) wNil))))))))))
theorem v_X_law_step : KeepsX w_X_law_step true 15 sx_law_step := by
  rintro ads Q X ⟨n, pre, s, rfl, hn, ok, hp, q⟩
  have q0 : ∀ n' : Nat, n' ≤ n + 5020 → Q (.d (.tup [.bl true, .lst []])) [.bag n', .ext (pre ++ [s.D])] := fun n' hn' => by
    have z := q [] n' (Nat.zero_le _) (fun t ht => by cases ht) hn'
    rw [List.map_nil, List.append_nil] at z
    exact z
  show w_X_law_step _ _ [some (.m 0), some (.acc 1), some (.d s.D), none, none, none, none, none, none, none, none, none, none, none, none, none, none, none] [.bag n, .ext (pre ++ [s.D])]
  refine ⟨rfl, nod1, n, 8, rfl, by omega, by decide, by decide, fun w w0 w1 => ?_⟩
  simp only [List.set_cons_succ, List.set_cons_zero, putAll, List.length_nil, List.take_zero, List.drop_zero, List.append_nil]
  show if decide (w < 5) = true then _ else _
  refine ifd (fun w5 => ?_) fun _ => ?_
  · refine ⟨nod1, n + 1, 3, s.plan, rfl, by omega, by decide, by decide, ok.plan, fun us n' hl hu hn' => ?_⟩
    simp only [List.set_cons_succ, List.set_cons_zero, putAll, List.length_nil, List.take_zero, List.drop_zero, List.append_nil]
    refine ⟨xEnds_t, noF', nod1, pre, s, us, rfl, by omega, fun u hm => (let h := hu u hm; ⟨h.1, Int.le_trans h.2 (by decide)⟩), ok, by omega, fun hs => ?_, fun hs => ?_⟩
    · have el : (((s.used.map D.int).length : Int) + ((us.map D.int).length : Int)) = ((s.used.length + us.length : Nat) : Int) := by rw [List.length_map, List.length_map]; omega
      show if decide ((36 : Int) < ((s.used.map D.int).length : Int) + ((us.map D.int).length : Int)) = true then _ else _
      rw [el]
      refine ifd (fun z => by omega) fun _ => ?_
      refine ⟨nod0, s.plan, us, s.kept, rfl, ok.plan, by omega, rfl, ?_⟩
      refine dLc_dmap (playM s.plan us s.kept) Row.D (fun r => .int r.cost) (by rw [playM_len]; omega) (fun r _ k hk => hk) ?_
      refine ⟨(playM s.plan us s.kept).map Row.cost, by rw [List.map_map]; rfl, ?_⟩
      refine ⟨(by show (s.used.map D.int).length + (us.map D.int).length ≤ 16000000; rw [List.length_map, List.length_map]; omega), ?_⟩
      show dLc _ _ _ _ _ (((playM s.plan us s.kept).map Row.D).map S.d) _ _ _
      refine dLc_dmap (playM s.plan us s.kept) Row.D (fun r => .int r.lost) (by rw [playM_len]; omega) (fun r _ k hk => hk) ?_
      refine ⟨(playM s.plan us s.kept).map Row.lost, by rw [List.map_map]; rfl, ?_⟩
      refine ⟨rfl, rfl, nod0, call_same (pl_val _) ⟨rfl, rfl, ?_⟩⟩
      have e : (s.use us).D = .tup [s.plan.D, .tup (s.used.map D.int ++ us.map D.int), .int (s.paid + ((playM s.plan us s.kept).map Row.cost).sum), .int (kps s.plan.data s.plan.cap us s.kept), .int (s.lost + ((playM s.plan us s.kept).map Row.lost).sum)] := by
        unfold Acc.D Acc.use usD
        rw [List.map_append, kAfter_eq]
      have q1 : Q (.d (.tup [.bl true, .lst [(s.use us).D]])) [.bag n', .ext (pre ++ [s.D] ++ [(s.use us).D])] := q [s.use us] n' (Nat.le_refl 1) (fun t ht => by
        rw [List.mem_singleton.mp ht]
        exact use_ok ok (fun u hm => (let h := hu u hm; ⟨h.1, Int.le_trans h.2 (by decide)⟩)) hs) (by omega)
      rw [e] at q1 ⊢
      exact q1
    · have el : (((s.used.map D.int).length : Int) + ((us.map D.int).length : Int)) = ((s.used.length + us.length : Nat) : Int) := by rw [List.length_map, List.length_map]; omega
      show if ("TooMany" : Str) = "<tables>" then _ else _
      rw [if_neg (by decide)]
      refine ⟨by simp [errL], ?_⟩
      show if decide ((36 : Int) < ((s.used.map D.int).length : Int) + ((us.map D.int).length : Int)) = true then _ else _
      rw [el]
      refine ifd (fun _ => ?_) fun z => by omega
      have sh : Sh 9 (.tup [.str "TooMany"]) := ⟨(by decide +kernel : PyData.canLay0 (.str "TooMany") = true), trivial⟩
      refine ⟨rfl, sh, sh, rfl, rfl, ?_⟩
      show Q (.d (.tup [.bl (eqD (.tup [.str "TooMany"]) (.tup [.str "TooMany"])), .lst []])) [.bag n', .ext (pre ++ [s.D])]
      rw [eqD_same sh]
      exact q0 n' (by omega)
  · show if decide (w < 7) = true then _ else _
    refine ifd (fun w7 => ?_) fun _ => ?_
    · refine ⟨nod1, n + 1, 5, rfl, by omega, by decide, by decide, fun c c0 c1 => ⟨trivial, trivial, ?_⟩⟩
      have qc : ∀ (p : Plan) (n' : Nat), p.Ok → n' ≤ n + 20 → Q (.d (.tup [.bl true, .lst [(s.change p).D]])) [.bag n', .ext (pre ++ [s.D] ++ [(s.change p).D])] := fun p n' okp hn' => q [s.change p] n' (Nat.le_refl 1) (fun t ht => by
        rw [List.mem_singleton.mp ht]
        exact ⟨okp, ok.used⟩) (by omega)
      show if eqD (.int c) (.int 0) = true then _ else _
      refine ite2 (fun _ => ?_) fun _ => ?_
      · refine ⟨xEnds_t, noF', nod1, pre, s, s.plan.D, rfl, by omega, fun h => (by rw [plan_ok ok.plan] at h; cases h), fun p e okp => ?_⟩
        have ep := plan_inj e
        subst ep
        refine ⟨rfl, nod0, call_same (pl_val _) ⟨rfl, rfl, rfl, ?_⟩⟩
        exact qc _ _ ok.plan (by omega)
      · refine ⟨nod1, n + 2, s.plan, rfl, by omega, ok.plan, fun r n' okr hn' => ?_⟩
        refine ⟨xEnds_t, noF', nod1, pre, s, r.D, rfl, by omega, fun h => (by rw [plan_ok okr] at h; cases h), fun p e okp => ?_⟩
        have ep := plan_inj e
        subst ep
        refine ⟨rfl, nod0, call_same (pl_val _) ⟨rfl, rfl, rfl, ?_⟩⟩
        exact qc _ _ okr (by omega)
    · refine ⟨by unfold CPow; decide, rfl, nod1, n + 1, 5, rfl, by omega, by decide, by decide, fun c c0 c1 => ?_⟩
      obtain ⟨d, hd, h1, h2⟩ := odd_at c0 c1
      refine atQ_some (a := d) hd ?_
      have shN : Sh 9 (.tup [.str "InvalidNumber"]) := ⟨(by decide +kernel : PyData.canLay0 (.str "InvalidNumber") = true), trivial⟩
      have shP : Sh 9 (.tup [.str "InvalidPlan"]) := ⟨(by decide +kernel : PyData.canLay0 (.str "InvalidPlan") = true), trivial⟩
      refine ⟨xEnds_t, noF', nod1, call_odd h1 ok (by omega) ?_⟩
      show if ("InvalidNumber" : Str) = "<tables>" then _ else _
      rw [if_neg (by decide)]
      refine ⟨by simp [errL], rfl, shN, shN, ?_⟩
      refine ⟨xEnds_t, noF', nod1, pre, s, d, rfl, by omega, fun _ => ?_, fun p e okp => ?_⟩
      · show if ("InvalidPlan" : Str) = "<tables>" then _ else _
        rw [if_neg (by decide)]
        refine ⟨by simp [errL], rfl, shP, shP, rfl, rfl, ?_⟩
        show Q (.d (.tup [.bl (eqD (.tup [.str "InvalidPlan"]) (.tup [.str "InvalidPlan"])), .lst []])) [.bag (n + 2), .ext (pre ++ [s.D])]
        rw [eqD_same shP]
        exact q0 _ (by omega)
      · rw [e, plan_ok okp] at h2
        cases h2
/-! ### the law -/
def w_X_law : DSw := (wSeq (wForB (wCall sp_law_bags (wCons (wVar 0) (wCons (wC (.int 5)) wNil))) 1 (wSeq (wAsg (wCall sp_law_plan (wCons (wVar 1) wNil)) (wgName 3)) (wSeq (wPar 7 8 (wCons (wMake (wCons (wVar 3) wNil)) (wCons (wLst (wCons (wTup (wCons (wVar 3) (wCons (wTup wNil) (wCons (wC (.int 0)) (wCons (wC (.int 0)) (wCons (wC (.int 0)) wNil)))))) wNil)) wNil))) (wSeq (wFor (wiR1 (wCons (wC (.int 30)) wNil)) (wgName 4) (wSeq (wIfS (wTst (wOp fEq (wCall sp_law_take (wCons (wVar 1) (wCons (wC (.int 5)) wNil))) (wC (.int 0)))) (wSeq (wAsg (wIf (wTst (wOp fGt (wCB fLen (wCons (wVar 8) wNil)) (wC (.int 1)))) (wTup (wCons (wC (.str "value")) (wCons (wC .non) wNil))) (wTup (wCons (wC (.str "NothingToUndo")) wNil))) (wgName 11)) (wSeq (wAsg (wCall sp_law_same (wCons (wOutcome errL (wMethX false sx_Account_undo (wVar 7) wNil)) (wCons (wVar 11) wNil))) (wgName 12)) (wAsg (wSl (wVar 8) wNo (wSome (wCB fMax2 (wCons (wC (.int 1)) (wCons (wOp fSub (wCB fLen (wCons (wVar 8) wNil)) (wC (.int 1))) wNil))))) (wgName 8)))) (wSeq (wAsg (wCallX true sx_law_step (wCons (wVar 1) (wCons (wVar 7) (wCons (wOp fIx (wVar 8) (wUn fNeg (wC (.int 1)))) wNil)))) (wgTup 2 (wgCons (wgName 12) (wgCons (wgName 13) wgNil)))) (wAsg (wOp fAdd (wVar 8) (wVar 13)) (wgName 8)))) (wIfS (wOrT (wNotT (wTst (wVar 12))) (wNotT (wTst (wCall sp_law_right (wCons (wVar 7) (wCons (wOp fIx (wVar 8) (wUn fNeg (wC (.int 1)))) wNil)))))) (wRet (wC (.bl false))) wNext))) (wSeq (wAsg (wCall sp_law_usage (wCons (wVar 1) (wCons (wC (.int 30)) (wCons (wVar 3) wNil)))) (wgName 5)) (wSeq (wPar 9 10 (wCons (wMake (wCons (wVar 3) wNil)) (wCons (wMake (wCons (wVar 3) wNil)) wNil))) (wSeq (wFor (wiTup (wVar 5)) (wgName 6) (wSeq (wDrop (wMethX false (spStarX sx_Account_use 1) (wVar 9) (wCons (wVar 6) wNil))) (wDrop (wMethX false (spStarX sx_Account_use 1) (wVar 10) (wCons (wVar 6) wNil))))) (wSeq (wIfS (wOrT (wNotT (wTst (wOp (fEqA sp_Account_eq) (wVar 9) (wVar 10)))) (wOrT (wTst (wOp fNe (wProp sp_Account_paid (wVar 9)) (wCall (spStar sp_total_cost 1) (wCons (wVar 3) (wCons (wVar 5) wNil))))) (wTst (wOp (fEqA sp_Account_eq) (wVar 9) (wVar 3))))) (wRet (wC (.bl false))) wNext) (wSeq (wDrop (wMethX false (spStarX sx_Account_use 1) (wVar 10) (wCons (wC (.int 0)) wNil))) (wIfS (wOrT (wTst (wOp (fEqA sp_Account_eq) (wVar 9) (wVar 10))) (wOrT (wTst (wOp fNe (wProp sp_Account_kept (wVar 9)) (wCall sp_kept_after (wCons (wVar 3) (wCons (wVar 5) wNil))))) (wTst (wOp fNe (wProp sp_Account_lost (wVar 9)) (wCall sp_lost_units (wCons (wVar 3) (wCons (wVar 5) wNil))))))) (wRet (wC (.bl false))) wNext)))))))))) (wSeq (wAsg (wMake (wCons (wTup (wCons (wC (.int 7)) (wCons (wC (.int 0)) (wCons (wC (.int 0)) (wCons (wC (.int 0)) wNil))))) wNil)) (wgName 2)) (wRet (wAndV (wOp fEq (wMethX false (spStarX sx_Account_use 1) (wVar 2) (wCons (wC (.int 5)) (wCons (wC (.int 0)) wNil))) (wC (.int 14))) (wAndV (wOp fEq (wProp sp_Account_plan (wVar 2)) (wTup (wCons (wC (.int 7)) (wCons (wC (.int 0)) (wCons (wC (.int 0)) (wCons (wC (.int 0)) wNil)))))) (wAndV (wOp fEq (wC (.int 36)) (wC (.int 36))) (wNotA sp_Account_bool (wVar 2))))))))
def w_checkL : DSw := (wIfS (wOrT (wNotT (wTst (wVar 12))) (wNotT (wTst (wCall sp_law_right (wCons (wVar 7) (wCons (wOp fIx (wVar 8) (wUn fNeg (wC (.int 1)))) wNil)))))) (wRet (wC (.bl false))) wNext)
def w_undoL : DSw := (wSeq (wAsg (wIf (wTst (wOp fGt (wCB fLen (wCons (wVar 8) wNil)) (wC (.int 1)))) (wTup (wCons (wC (.str "value")) (wCons (wC .non) wNil))) (wTup (wCons (wC (.str "NothingToUndo")) wNil))) (wgName 11)) (wSeq (wAsg (wCall sp_law_same (wCons (wOutcome errL (wMethX false sx_Account_undo (wVar 7) wNil)) (wCons (wVar 11) wNil))) (wgName 12)) (wAsg (wSl (wVar 8) wNo (wSome (wCB fMax2 (wCons (wC (.int 1)) (wCons (wOp fSub (wCB fLen (wCons (wVar 8) wNil)) (wC (.int 1))) wNil))))) (wgName 8))))
def w_restL : DSw := (wSeq (wAsg (wCall sp_law_usage (wCons (wVar 1) (wCons (wC (.int 30)) (wCons (wVar 3) wNil)))) (wgName 5)) (wSeq (wPar 9 10 (wCons (wMake (wCons (wVar 3) wNil)) (wCons (wMake (wCons (wVar 3) wNil)) wNil))) (wSeq (wFor (wiTup (wVar 5)) (wgName 6) (wSeq (wDrop (wMethX false (spStarX sx_Account_use 1) (wVar 9) (wCons (wVar 6) wNil))) (wDrop (wMethX false (spStarX sx_Account_use 1) (wVar 10) (wCons (wVar 6) wNil))))) (wSeq (wIfS (wOrT (wNotT (wTst (wOp (fEqA sp_Account_eq) (wVar 9) (wVar 10)))) (wOrT (wTst (wOp fNe (wProp sp_Account_paid (wVar 9)) (wCall (spStar sp_total_cost 1) (wCons (wVar 3) (wCons (wVar 5) wNil))))) (wTst (wOp (fEqA sp_Account_eq) (wVar 9) (wVar 3))))) (wRet (wC (.bl false))) wNext) (wSeq (wDrop (wMethX false (spStarX sx_Account_use 1) (wVar 10) (wCons (wC (.int 0)) wNil))) (wIfS (wOrT (wTst (wOp (fEqA sp_Account_eq) (wVar 9) (wVar 10))) (wOrT (wTst (wOp fNe (wProp sp_Account_kept (wVar 9)) (wCall sp_kept_after (wCons (wVar 3) (wCons (wVar 5) wNil))))) (wTst (wOp fNe (wProp sp_Account_lost (wVar 9)) (wCall sp_lost_units (wCons (wVar 3) (wCons (wVar 5) wNil))))))) (wRet (wC (.bl false))) wNext))))))
def w_endL : DSw := (wSeq (wAsg (wMake (wCons (wTup (wCons (wC (.int 7)) (wCons (wC (.int 0)) (wCons (wC (.int 0)) (wCons (wC (.int 0)) wNil))))) wNil)) (wgName 2)) (wRet (wAndV (wOp fEq (wMethX false (spStarX sx_Account_use 1) (wVar 2) (wCons (wC (.int 5)) (wCons (wC (.int 0)) wNil))) (wC (.int 14))) (wAndV (wOp fEq (wProp sp_Account_plan (wVar 2)) (wTup (wCons (wC (.int 7)) (wCons (wC (.int 0)) (wCons (wC (.int 0)) (wCons (wC (.int 0)) wNil)))))) (wAndV (wOp fEq (wC (.int 36)) (wC (.int 36))) (wNotA sp_Account_bool (wVar 2)))))))
theorem pl_str1 {x : Str} (h : PyData.canLay0 (.str x) = true) : Pl 4 (.tup [.str x]) := by
  refine ⟨(by show 1 ≤ 16000000; decide), fun d hd => ?_⟩
  rw [List.mem_singleton.mp hd]
  exact h
theorem pl_none : Pl 4 (.tup [.str "value", .non]) := by
  refine ⟨(by show 2 ≤ 16000000; decide), fun d hd => ?_⟩
  simp only [List.mem_cons, List.not_mem_nil, or_false] at hd
  rcases hd with rfl | rfl
  · exact (by decide +kernel : PyData.canLay0 (.str "value") = true)
  · trivial
theorem check_ok {X : XC} {Dn : DEnds} {ns : List Int} {a2 a3 a4 a5 a6 a9 a10 a11 a13 : Option S} {n : Nat} {pre : List D} {s : Acc} (hl : s.used.length ≤ 36)
    (h : Dn.nx [some (.scr ns), some (.m 0), a2, a3, a4, a5, a6, some (.acc 1), some (.d (.lst (pre ++ [s.D]))), a9, a10, a11, some (.d (.bl true)), a13] [.bag n, .ext (pre ++ [s.D])]) :
    w_checkL X Dn [some (.scr ns), some (.m 0), a2, a3, a4, a5, a6, some (.acc 1), some (.d (.lst (pre ++ [s.D]))), a9, a10, a11, some (.d (.bl true)), a13] [.bag n, .ext (pre ++ [s.D])] :=
  atQ_some (atI_last _ _) ⟨nod1, pre, s, rfl, hl, h⟩
theorem undo_one {X : XC} {Dn : DEnds} {ns : List Int} {a2 a3 a4 a5 a6 a9 a10 a11 a12 a13 : Option S} {n : Nat} {s : D} (hX : X "<tables>" [])
    (h : ∀ a11, Dn.nx [some (.scr ns), some (.m 0), a2, a3, a4, a5, a6, some (.acc 1), some (.d (.lst [s])), a9, a10, a11, some (.d (.bl true)), a13] [.bag n, .ext [s]]) :
    w_undoL X Dn [some (.scr ns), some (.m 0), a2, a3, a4, a5, a6, some (.acc 1), some (.d (.lst [s])), a9, a10, a11, a12, a13] [.bag n, .ext [s]] := by
  refine ⟨rfl, hX, noF', nod1, [s], rfl, (by show 1 ≤ 1000; decide), Nat.zero_lt_one, fun _ => ?_, fun z => (by have z : 1 < 1 := z; omega)⟩
  show if ("NothingToUndo" : Str) = "<tables>" then _ else _
  rw [if_neg (by decide)]
  refine ⟨by simp [errL], nod0, call_same (pl_str1 (by decide +kernel)) ?_⟩
  exact h _
theorem undo_more {X : XC} {Dn : DEnds} {ns : List Int} {a2 a3 a4 a5 a6 a9 a10 a11 a12 a13 : Option S} {n : Nat} {pre : List D} {s t : D} (hX : X "<tables>" []) (hp : pre.length ≤ 900)
    (h : ∀ a11, Dn.nx [some (.scr ns), some (.m 0), a2, a3, a4, a5, a6, some (.acc 1), some (.d (.lst (pre ++ [s]))), a9, a10, a11, some (.d (.bl true)), a13] [.bag n, .ext (pre ++ [s])]) :
    w_undoL X Dn [some (.scr ns), some (.m 0), a2, a3, a4, a5, a6, some (.acc 1), some (.d (.lst (pre ++ [s] ++ [t]))), a9, a10, a11, a12, a13] [.bag n, .ext (pre ++ [s] ++ [t])] := by
  have el : (pre ++ [s] ++ [t]).length = pre.length + 2 := by simp
  show if decide ((1 : Int) < ((pre ++ [s] ++ [t]).length : Int)) = true then _ else _
  refine if_t (decide_eq_true (by rw [el]; omega)) ?_
  refine ⟨rfl, hX, noF', nod1, pre ++ [s] ++ [t], rfl, by omega, by omega, fun z => by omega, fun _ => ?_⟩
  rw [List.dropLast_concat]
  refine ⟨nod0, call_same pl_none ?_⟩
  have em : max (1 : Int) (((pre ++ [s] ++ [t]).length : Int) - 1) = ((pre.length + 1 : Nat) : Int) := by rw [el]; omega
  have ec : cutG (pre ++ [s] ++ [t]) none (some (max (1 : Int) (((pre ++ [s] ++ [t]).length : Int) - 1))) = pre ++ [s] := by
    rw [em, cut_to _ (by rw [el]; omega), List.take_append_of_le_length (by simp), List.take_of_length_le (by simp)]
  have h := h (some (.d (.tup [.str "value", .non])))
  show Dn.nx [some (.scr ns), some (.m 0), a2, a3, a4, a5, a6, some (.acc 1), some (.d (.lst (cutG (pre ++ [s] ++ [t]) none (some (max (1 : Int) (((pre ++ [s] ++ [t]).length : Int) - 1)))))), a9, a10, some (.d (.tup [.str "value", .non])), some (.d (.bl true)), a13] [.bag n, .ext (pre ++ [s])]
  rw [ec]
  exact h
def w_stepL : DSw := (wSeq (wAsg (wCallX true sx_law_step (wCons (wVar 1) (wCons (wVar 7) (wCons (wOp fIx (wVar 8) (wUn fNeg (wC (.int 1)))) wNil)))) (wgTup 2 (wgCons (wgName 12) (wgCons (wgName 13) wgNil)))) (wAsg (wOp fAdd (wVar 8) (wVar 13)) (wgName 8)))
theorem step_ok {X : XC} {Dn : DEnds} {ns : List Int} {a2 a3 a4 a5 a6 a9 a10 a11 a12 a13 : Option S} {n : Nat} {pre : List D} {s : Acc} (hX : X "<tables>" []) (hp : pre.length ≤ 900) (hn : n < 2 ^ 50) (ok : s.Ok)
    (h : ∀ (later : List Acc) (n' : Nat) a13, later.length ≤ 1 → (∀ t ∈ later, t.Ok) → n' ≤ n + 5020 → Dn.nx [some (.scr ns), some (.m 0), a2, a3, a4, a5, a6, some (.acc 1), some (.d (.lst (pre ++ [s.D] ++ later.map Acc.D))), a9, a10, a11, some (.d (.bl true)), a13] [.bag n', .ext (pre ++ [s.D] ++ later.map Acc.D)]) :
    w_stepL X Dn [some (.scr ns), some (.m 0), a2, a3, a4, a5, a6, some (.acc 1), some (.d (.lst (pre ++ [s.D]))), a9, a10, a11, a12, a13] [.bag n, .ext (pre ++ [s.D])] := by
  refine atQ_some (atI_last _ _) ⟨fun _ => hX, (by simp), n, pre, s, rfl, hn, ok, hp, fun later n' hl hok hn' => ?_⟩
  exact ⟨rfl, (by show (pre ++ [s.D]).length + (later.map Acc.D).length ≤ 16000000; simp only [List.length_append, List.length_map, List.length_cons, List.length_nil]; omega), h later n' _ hl hok hn'⟩
theorem bags_loopX {X : XC} {m : Int} {b : DSw} {env : Env} {Dn : DEnds} {ns : List Int} (P : Env → Prop) (h0 : env[0]? = some (some (.scr ns))) (hns : ns.length ≤ 63) (p0 : P (clearM env))
    (hb : ∀ env, P env → b X { nx := fun env' _ => P (clearM env'), ct := fun env' _ => P (clearM env'), bk := fun env' _ => Dn.nx (clearM env') [], rt := fun s _ => (match s with
      | .d d => Dn.rt (.d d) []
      | _ => False) } (env.set 1 (some (.m 0))) [.bag 70000]) (hd : ∀ env, P env → Dn.nx env []) : wForB (wCall sp_law_bags (wCons (wVar 0) (wCons (wC (.int m)) wNil))) 1 b X Dn env [] := by
  refine ⟨rfl, ?_⟩
  unfold wCall
  show wVar 0 X env [] _
  unfold wVar
  rw [h0]
  refine ⟨nod0, ns, m, rfl, hns, fun kk => ⟨P, 70000, ?_, fun j k h => ?_, p0, hb, hd⟩⟩
  · show ((List.range kk).map (reN 0 [])).Nodup
    rw [re_rng]
    exact List.nodup_range
  · have h' : ((List.range kk).map (reN 0 []))[j]? = some k := h
    rw [re_rng] at h'
    have hk : k < kk := List.mem_range.mp (List.mem_of_getElem? h')
    show (List.replicate kk (MO.bag 70000))[k]? = _
    rw [List.getElem?_replicate, if_pos hk]
theorem l_X_law : lenX sx_law 1 := by rintro _ _ _ ⟨_, rfl, _⟩; rfl
theorem v_X_law : KeepsX w_X_law true 13 sx_law := by
  rintro ads Q X ⟨ns, rfl, hns, q⟩
  refine bags_loopX (fun env => ∃ a1 a2 a3 a4 a5 a6 a7 a8 a9 a10 a11 a12 a13, env = [some (.scr ns), a1, a2, a3, a4, a5, a6, a7, a8, a9, a10, a11, a12, a13]) rfl hns ⟨_, _, _, _, _, _, _, _, _, _, _, _, _, rfl⟩ ?_ ?_
  · rintro env ⟨a1, a2, a3, a4, a5, a6, a7, a8, a9, a10, a11, a12, a13, rfl⟩
    refine ⟨nod1, 70000, rfl, by decide, fun p ok => ?_⟩
    refine ⟨fun _ => ?_, fun h => by rw [plan_ok ok] at h; cases h⟩
    refine ⟨rfl, rfl, rfl, ⟨by decide, by decide⟩, fun i env M => ∃ (a2 a4 a5 a6 a9 a10 a11 a12 a13 : Option S) (n : Nat) (pre : List Acc) (s : Acc), env = [some (.scr ns), some (.m 0), a2, some (.d p.D), a4, a5, a6, some (.acc 1), some (.d (.lst (pre.map Acc.D ++ [s.D]))), a9, a10, a11, a12, a13] ∧ M = [.bag n, .ext (pre.map Acc.D ++ [s.D])] ∧ pre.length ≤ i ∧ (∀ t ∈ pre, t.Ok) ∧ s.Ok ∧ n ≤ 70005 + 6000 * i, ?_, ?_, ?_⟩
    · exact ⟨_, _, _, _, _, _, _, _, _, 70005, [], Acc.new p, rfl, rfl, Nat.zero_le _, (fun t h => by cases h), ⟨ok, ⟨Nat.zero_le _, fun u h => by cases h⟩⟩, by omega⟩
    · rintro i s0 env M hs ⟨a2, a4, a5, a6, a9, a10, a11, a12, a13, n, pre, s, rfl, rfl, hp, hpo, oks, hn⟩
      obtain ⟨hi, rfl⟩ := rng_get hs
      have hi : i < 30 := hi
      refine ⟨nod1, n, 5, rfl, by omega, by decide, by decide, fun c c0 c1 => ⟨trivial, trivial, ?_⟩⟩
      show if eqD (.int c) (.int 0) = true then _ else _
      refine ite2 (fun _ => ?_) fun _ => ?_
      · rcases List.eq_nil_or_concat pre with rfl | ⟨pre', t, rfl⟩
        · refine undo_one xEnds_t fun b11 => check_ok (pre := []) oks.used.len ?_
          exact ⟨_, _, _, _, _, _, _, _, _, n + 1, [], s, rfl, rfl, Nat.zero_le _, hpo, oks, by omega⟩
        · have okt : t.Ok := hpo t (by simp)
          have hl : pre'.length + 1 ≤ i := by simpa using hp
          rw [List.concat_eq_append, List.map_append]
          refine undo_more (pre := pre'.map Acc.D) (s := t.D) (t := s.D) xEnds_t (by rw [List.length_map]; omega) fun b11 => check_ok (pre := pre'.map Acc.D) (s := t) okt.used.len ?_
          exact ⟨_, _, _, _, _, _, _, _, _, n + 1, pre', t, rfl, rfl, by omega, fun x hx => hpo x (by simp [hx]), okt, by omega⟩
      · refine step_ok (pre := pre.map Acc.D) xEnds_t (by rw [List.length_map]; omega) (by omega) oks fun later n' b13 hl hok hn' => ?_
        match later, hl, hok with
        | [], _, _ =>
          rw [List.map_nil, List.append_nil]
          refine check_ok (pre := pre.map Acc.D) oks.used.len ?_
          exact ⟨_, _, _, _, _, _, _, _, _, n', pre, s, rfl, rfl, by omega, hpo, oks, by omega⟩
        | [t], _, hok =>
          have okt : t.Ok := hok t (List.mem_singleton.mpr rfl)
          refine check_ok (pre := pre.map Acc.D ++ [s.D]) (s := t) okt.used.len ?_
          have e : pre.map Acc.D ++ [s.D] = (pre ++ [s]).map Acc.D := by rw [List.map_append]; rfl
          rw [e]
          exact ⟨_, _, _, _, _, _, _, _, _, n', pre ++ [s], t, rfl, rfl, by rw [List.length_append]; show pre.length + 1 ≤ i + 1; omega, fun x hx => (by
            rcases List.mem_append.mp hx with z | z
            · exact hpo x z
            · rw [List.mem_singleton.mp z]; exact oks), okt, by omega⟩
    · rintro env M ⟨a2, a4, a5, a6, a9, a10, a11, a12, a13, n, pre, s, rfl, rfl, hp, hpo, oks, hn⟩
      rw [rngS_len] at hn
      refine ⟨nod1, n, 30, p, rfl, by omega, by decide, by decide, ok, fun us n' hl hu hn' => ?_⟩
      refine ⟨fun _ => ⟨fun _ => ?_, fun h => by rw [plan_ok ok] at h; cases h⟩, fun h => by rw [plan_ok ok] at h; cases h⟩
      have hu' : ∀ u ∈ us, 0 ≤ u ∧ u ≤ 1000000 := fun u hm => (let h := hu u hm; ⟨h.1, Int.le_trans h.2 (by decide)⟩)
      obtain ⟨E0, hE0⟩ : ∃ E0, E0 = pre.map Acc.D ++ [s.D] := ⟨_, rfl⟩
      rw [← hE0]
      refine ⟨fun i env M => ∃ (a6 : Option S) (h : List D), env = [some (.scr ns), some (.m 0), a2, some (.d p.D), a4, some (.d (usD us)), a6, some (.acc 1), some (.d (.lst E0)), some (.acc 2), some (.acc 3), a11, a12, a13] ∧ M = [.bag n', .ext E0, .ext (h ++ [((Acc.new p).use (us.take i)).D]), .ext (h ++ [((Acc.new p).use (us.take i)).D])] ∧ h.length = i, ⟨_, [], rfl, ?_, rfl⟩, ?_, ?_⟩
      · rfl
      · rintro i s0 env M hs ⟨a6, h, rfl, rfl, hh⟩
        obtain ⟨u, hu1, rfl⟩ := dmap_get hs
        have hi : i < us.length := (List.getElem?_eq_some_iff.mp hu1).1
        have lt : (us.take i).length ≤ 30 := by rw [List.length_take]; omega
        have lu : ((Acc.new p).use (us.take i)).used.length ≤ 30 := by show ([] ++ us.take i).length ≤ 30; rw [List.nil_append]; exact lt
        have okn : ((Acc.new p).use (us.take i)).Ok := use_ok ⟨ok, ⟨Nat.zero_le _, fun u h => by cases h⟩⟩ (fun x hm => hu' x (List.mem_of_mem_take hm)) (by show 0 + _ ≤ 36; omega)
        have h1 : ∀ x ∈ [u], 0 ≤ x ∧ x ≤ 1000000 := fun x hx => by rw [List.mem_singleton.mp hx]; exact hu' u (List.mem_of_getElem? hu1)
        refine ⟨noF', nod1, call_useX [u] rfl okn (by omega) h1 (by show 1 ≤ 1000; decide) (fun _ => ?_) fun z => absurd z (by show ¬ 36 < _ + 1; omega)⟩
        refine ⟨noF', nod1, call_useX [u] rfl okn (by omega) h1 (by show 1 ≤ 1000; decide) (fun _ => ?_) fun z => absurd z (by show ¬ 36 < _ + 1; omega)⟩
        refine ⟨_, h ++ [((Acc.new p).use (us.take i)).D], rfl, ?_, by rw [List.length_append, hh]; rfl⟩
        rw [take_suc hu1, ← use_snoc]
        rfl
      · rintro env M ⟨a6, h, rfl, rfl, hh⟩
        rw [List.length_map, List.length_map, List.take_length]
        rw [List.length_map, List.length_map] at hh
        obtain ⟨S, hS⟩ : ∃ S, S = (Acc.new p).use us := ⟨_, rfl⟩
        have okS : S.Ok := by rw [hS]; exact use_ok ⟨ok, ⟨Nat.zero_le _, fun u h => by cases h⟩⟩ hu' (by show 0 + _ ≤ 36; omega)
        have uok : UsOk us := ⟨by omega, hu'⟩
        have e1 : S.paid = costM p us := by rw [hS]; show 0 + _ = _; rw [Int.zero_add]; rfl
        have e2 : S.kept = kAfter p us 0 := by rw [hS]; rfl
        have e3 : S.lost = lostM p us := by rw [hS]; show 0 + _ = _; rw [Int.zero_add]; rfl
        have lu : S.used.length = us.length := by rw [hS]; show ([] ++ us).length = _; rw [List.nil_append]
        rw [← hS]
        refine ⟨noF', (by simp), .inl ⟨h, h, S, S, rfl, ?_⟩⟩
        rw [eqD_same (sh_acc S)]
        refine ⟨noF', nod1, h, S, rfl, nod0, call_cost ok uok ⟨trivial, trivial, if_ne e1 ?_⟩⟩
        refine ⟨noF', nod1, .inr ⟨h, _, S, rfl, ?_⟩⟩
        refine ⟨noF', nod1, call_useX [0] rfl okS (by omega) (fun x hx => by rw [List.mem_singleton.mp hx]; decide) (by show 1 ≤ 1000; decide) (fun _ => ?_) fun z => absurd z (by show ¬ 36 < _ + 1; omega)⟩
        refine ⟨noF', (by simp), .inl ⟨h, h ++ [S.D], S, S.use [0], rfl, ?_⟩⟩
        rw [eqD_used (s := S) (t := S.use [0]) (fun e => by
          have e := congrArg List.length e
          have e' : (S.used ++ [0]).length = S.used.length := e.symm
          rw [List.length_append] at e'
          have e' : S.used.length + 1 = S.used.length := e'
          omega)]
        refine ⟨noF', nod1, h, S, rfl, nod0, p, us, rfl, ok, uok, ⟨trivial, trivial, if_ne e2 ?_⟩⟩
        refine ⟨noF', nod1, h, S, rfl, nod0, p, us, rfl, ok, uok, ⟨trivial, trivial, if_ne e3 ?_⟩⟩
        exact ⟨_, _, _, _, _, _, _, _, _, _, _, _, _, rfl⟩
  · rintro env ⟨a1, a2, a3, a4, a5, a6, a7, a8, a9, a10, a11, a12, a13, rfl⟩
    have okF : (⟨7, 0, 0, 0⟩ : Plan).Ok := ⟨by decide, by decide, by decide, by decide, by decide, by decide, by decide, by decide⟩
    refine ⟨rfl, fun _ => ?_, fun h => by cases h⟩
    refine ⟨noF', nod1, call_useX (pre := []) (s := Acc.new ⟨7, 0, 0, 0⟩) [5, 0] rfl ⟨okF, ⟨by decide, by decide⟩⟩ (by decide) (by decide) (by decide) (fun _ => ?_) fun z => absurd z (by decide)⟩
    refine ⟨trivial, trivial, ?_⟩
    refine ⟨noF', nod1, [(Acc.new ⟨7, 0, 0, 0⟩).D], (Acc.new ⟨7, 0, 0, 0⟩).use [5, 0], rfl, ?_⟩
    have shP := sh_us [7, 0, 0, 0]
    refine ⟨rfl, shP, shP, ?_⟩
    refine ⟨trivial, trivial, noF', nod1, [(Acc.new ⟨7, 0, 0, 0⟩).D], (Acc.new ⟨7, 0, 0, 0⟩).use [5, 0], rfl, ?_⟩
    exact q
end R
namespace R
open PySem L2 Evl
def top (i : Nat) : Stmt := PySem.Challenge.pw_rollplans_k19_accounts_step_by_step.main.body.getD i (.Pass ⟨0, 0, 0, 0⟩)
structure Glb (K : PySem.W.Frag) (mg : Str → Option Value) (CA : Addr) : Prop where
  TA : AccT K mg CA
  MOST : ∃ u0, Con K CA "MOST" (.int 36) u0
  AI : AccI K CA
  CM : ClsC K CA "MOST" 36
  nt : PySem.W.nsIn K mainGlobals "<tables>" = some none
  x_InvalidNumber : ∃ C, ExcV K mg "InvalidNumber" C
  x_InvalidPlan : ∃ C, ExcV K mg "InvalidPlan" C
  x_NothingToUndo : ∃ C, ExcV K mg "NothingToUndo" C
  x_TooMany : ∃ C, ExcV K mg "TooMany" C
  all : mg "all" = none
  bool_ : mg "bool" = none
  enumerate : mg "enumerate" = none
  int_ : mg "int" = none
  isinstance : mg "isinstance" = none
  len : mg "len" = none
  list_ : mg "list" = none
  max : mg "max" = none
  min : mg "min" = none
  range : mg "range" = none
  str_ : mg "str" = none
  sum : mg "sum" = none
  tuple_ : mg "tuple" = none
  zip : mg "zip" = none
  MOST_CAP : MgI mg "MOST_CAP" 10000
  MOST_DATA : MgI mg "MOST_DATA" 1000
  MOST_FEE : MgI mg "MOST_FEE" 10000
  MOST_MONTHS : MgI mg "MOST_MONTHS" 36
  MOST_PRICE : MgI mg "MOST_PRICE" 100
  MOST_UNITS : MgI mg "MOST_UNITS" 1000000
section
variable {P : Program} {w0 : World} {K : PySem.W.Frag} {mg : Str → Option Value} {base : Heap} {CA : Addr}
abbrev s_Account_flat : Stmt := inClass (top 28) 2
abbrev s_law_error : Stmt := top 34
abbrev s_law_outcome : Stmt := top 35
theorem err_D {f : Addr} {fd : FuncData} (mi : mg "isinstance" = none) (mz : mg "zip" = none) (D : Def K mg "_law_error" s_law_error ["_law_e"] f fd) : LZ.ErrD K mg s_law_error f fd :=
  ⟨D, ⟨rfl, rfl, rfl, by decide +kernel, rfl, by decide +kernel, by decide +kernel⟩, fun X a Dd oe nm hK hmg hN hS N hz hf hp hot => by
    subst hK hmg
    have G : ∀ y : Str, (defScope s_law_error).names.lookup y = some .globalImplicit → Gl X y := fun y h => (by rw [hS]; exact h : X.env.scope.names.lookup y = some .globalImplicit)
    refine LZ.err_pss N hz hf hp hot hN (by rw [hS]; rfl) (by rw [hS]; rfl) (by rw [hS]; rfl) (G _ rfl) mi (G _ rfl) mz (G _ rfl) (G _ rfl) (G _ rfl) (G _ rfl) (G _ rfl) (G _ rfl) (G _ rfl) ?_ ?_ ?_ ?_
    · rw [hN, hS]
      exact blkOk_by (own := [("_law_word", 3), ("_law_good", 4)]) (by rfl)
    · rfl
    · rfl
    · rfl⟩
abbrev s_law_well : Stmt := top 30
abbrev n_law_well : List Str := ["_law_cell", "_law_turn"]
theorem c_law_well : FnScope n_law_well ["_law_cell", "_law_turn"] (defScope s_law_well) := ⟨rfl, rfl, rfl, by decide +kernel, rfl, by decide +kernel, by decide +kernel⟩
theorem R_law_well {f_law_well : Addr} {d_law_well : FuncData} (T : Glb K mg CA) (D : Def K mg "_law_well" s_law_well ["_law_cell", "_law_turn"] f_law_well d_law_well) : FnR P w0 K mg base CX0 1 f_law_well (spOf K sp_law_well) :=
  fn_mkbag (fn_def (sp := sp_well_raw) (w := w_law_well) (n := 0) D.fn c_law_well D.bd rfl l_well_raw (fun cdv A outer s H E hr => by have TA := T.TA; exact (s_cons (s_if (t_ge (d_var 0) (d_pow d_int d_int)) (s_one (s_ret (d_lstO (a_cons (d_sub (d_var 0) (d_pow d_int d_int)) (a_cons (d_mod (d_var 0) d_int) (a_cons (d_var 1) a_nil)))))) s_nil) (s_one (s_ret (d_lstO (a_cons d_int (a_cons (d_mod (d_var 0) d_int) (a_cons (d_var 1) a_nil)))))))) v_law_well) (fun ads Q h => wells h)
abbrev s_law_bags : Stmt := top 32
abbrev n_law_bags : List Str := ["_law_script", "_law_most", "_law_k", "_law_cell"]
theorem c_law_bags : FnScope n_law_bags ["_law_script", "_law_most"] (defScope s_law_bags) := ⟨rfl, rfl, rfl, by decide +kernel, rfl, by decide +kernel, by decide +kernel⟩
theorem R_law_bags {f_law_bags : Addr} {d_law_bags : FuncData} (T : Glb K mg CA) (D : Def K mg "_law_bags" s_law_bags ["_law_script", "_law_most"] f_law_bags d_law_bags) {f_law_well : Addr} {d_law_well : FuncData} (D_law_well : Def K mg "_law_well" s_law_well ["_law_cell", "_law_turn"] f_law_well d_law_well) (R_law_well : FnR P w0 K mg base CX0 1 f_law_well (spOf K sp_law_well)) : FnR P w0 K mg base CX0 2 f_law_bags (spOf K sp_law_bags) :=
  fn_def (w := w_law_bags) (n := 2) D.fn c_law_bags D.bd rfl l_law_bags (fun cdv A outer s H E hr => by have TA := T.TA; exact (s_one (s_ret (d_lcM (own := [("_law_k", 2), ("_law_cell", 3)]) rfl c_law_bags.nd (i_enum T.enumerate (a_cons (d_add (d_sl (d_var 0) o_none (o_some (d_var 1))) (d_lst (a_cons d_int a_nil))) a_nil)) (blkOk_by (own := [("_law_k", 2), ("_law_cell", 3)]) (N := n_law_bags) (sc := defScope s_law_bags) (by decide +kernel)) (gw_tup (gws_cons (gw_name (by decide)) (gws_cons (gw_name (by decide)) gws_nil))) (okG_tup (okGs_cons (okG_name 2) (okGs_cons (okG_name 3) okGs_nil))) (fun _ _ _ _ _ => (g_tup rfl (gl_cons (g_name (i := 2) c_law_bags.nd) (gl_cons (g_name (i := 3) c_law_bags.nd) gl_nil)))) (fun _ _ _ _ _ => ts_nil) (fun _ _ _ _ _ => (d_call R_law_well (hr.mono (by decide)) D_law_well.fn.kp D_law_well.gl (a_cons (d_var 3) (a_cons (d_mul d_int (d_var 2)) a_nil)))))))) v_law_bags
abbrev s_law_take : Stmt := top 31
abbrev n_law_take : List Str := ["_law_bag", "_law_many", "_law_p", "_law_n", "_law_found"]
theorem c_law_take : FnScope n_law_take ["_law_bag", "_law_many"] (defScope s_law_take) := ⟨rfl, rfl, rfl, by decide +kernel, rfl, by decide +kernel, by decide +kernel⟩
theorem R_law_take {f_law_take : Addr} {d_law_take : FuncData} (T : Glb K mg CA) (D : Def K mg "_law_take" s_law_take ["_law_bag", "_law_many"] f_law_take d_law_take) : FnR P w0 K mg base CX0 1 f_law_take (spOf K sp_law_take) :=
  fn_drawbag (fn_def (sp := sp_take_raw) (w := w_law_take) (n := 3) D.fn c_law_take D.bd rfl l_take_raw (fun cdv A outer s H E hr => by have TA := T.TA; exact (s_cons (s_if (t_gt (d_ix (d_var 0) d_int) d_int) (s_cons (s_set c_law_take.nd (i := 4) (d_mod (d_ix (d_var 0) d_int) (d_var 1))) (s_cons (s_asg (d_div (d_ix (d_var 0) d_int) (d_var 1)) (g_sub (d_var 0) d_int)) (s_one (s_ret (d_var 4))))) s_nil) (s_cons (s_asg (d_add (d_ix (d_var 0) d_int) d_int) (g_sub (d_var 0) d_int)) (s_cons (s_set c_law_take.nd (i := 2) d_int) (s_cons (s_set c_law_take.nd (i := 3) (d_mod (d_add (d_ix (d_var 0) d_int) (d_mul d_int (d_ix (d_var 0) d_int))) (d_var 2))) (s_cons (s_set c_law_take.nd (i := 3) (d_mod (d_add (d_add (d_mul (d_var 3) (d_var 3)) (d_mul d_int (d_pow (d_ix (d_var 0) d_int) d_int))) d_int) (d_var 2))) (s_one (s_ret (d_mod (d_div (d_mod (d_pow (d_var 3) d_int) (d_var 2)) d_int) (d_var 1)))))))))) v_law_take) (fun ads Q h => takes h)
abbrev s_law_plan : Stmt := top 36
abbrev n_law_plan : List Str := ["_law_bag", "_law_way", "_law_fee", "_law_data"]
theorem c_law_plan : FnScope n_law_plan ["_law_bag"] (defScope s_law_plan) := ⟨rfl, rfl, rfl, by decide +kernel, rfl, by decide +kernel, by decide +kernel⟩
theorem R_law_plan {f_law_plan : Addr} {d_law_plan : FuncData} (T : Glb K mg CA) (D : Def K mg "_law_plan" s_law_plan ["_law_bag"] f_law_plan d_law_plan) {f_law_take : Addr} {d_law_take : FuncData} (D_law_take : Def K mg "_law_take" s_law_take ["_law_bag", "_law_many"] f_law_take d_law_take) (R_law_take : FnR P w0 K mg base CX0 1 f_law_take (spOf K sp_law_take)) : FnR P w0 K mg base CX0 2 f_law_plan (spOf K sp_law_plan) :=
  fn_def (w := w_law_plan) (n := 3) D.fn c_law_plan D.bd rfl l_law_plan (fun cdv A outer s H E hr => by have TA := T.TA; exact (s_cons (s_set c_law_plan.nd (i := 1) (d_call R_law_take (hr.mono (by decide)) D_law_take.fn.kp D_law_take.gl (a_cons (d_var 0) (a_cons d_int a_nil)))) (s_cons (s_par c_law_plan.nd (i := 2) (j := 3) (a_cons (d_call R_law_take (hr.mono (by decide)) D_law_take.fn.kp D_law_take.gl (a_cons (d_var 0) (a_cons (d_ix (d_lst (a_cons d_int (a_cons d_int a_nil))) (d_div (d_var 1) d_int)) a_nil))) (a_cons (d_call R_law_take (hr.mono (by decide)) D_law_take.fn.kp D_law_take.gl (a_cons (d_var 0) (a_cons (d_ix (d_lst (a_cons d_int (a_cons d_int (a_cons d_int (a_cons d_int a_nil))))) (d_var 1)) a_nil))) a_nil))) (s_one (s_ret (d_tup (a_cons (d_var 2) (a_cons (d_var 3) (a_cons (d_call R_law_take (hr.mono (by decide)) D_law_take.fn.kp D_law_take.gl (a_cons (d_var 0) (a_cons (d_ix (d_lst (a_cons d_int (a_cons d_int (a_cons d_int (a_cons d_int a_nil))))) (d_var 1)) a_nil))) (a_cons (d_call R_law_take (hr.mono (by decide)) D_law_take.fn.kp D_law_take.gl (a_cons (d_var 0) (a_cons (d_ix (d_lst (a_cons d_int (a_cons d_int (a_cons d_int (a_cons d_int a_nil))))) (d_var 1)) a_nil))) a_nil)))))))))) v_law_plan
abbrev s_in_range : Stmt := top 16
abbrev n_in_range : List Str := ["value", "low", "high"]
theorem c_in_range : FnScope n_in_range ["value", "low", "high"] (defScope s_in_range) := ⟨rfl, rfl, rfl, by decide +kernel, rfl, by decide +kernel, by decide +kernel⟩
theorem R_in_range {f_in_range : Addr} {d_in_range : FuncData} (T : Glb K mg CA) (D : Def K mg "in_range" s_in_range ["value", "low", "high"] f_in_range d_in_range) : FnR P w0 K mg base CX0 1 f_in_range (spOf K sp_in_range) :=
  fn_def (w := w_in_range) (n := 0) D.fn c_in_range D.bd rfl l_in_range (fun cdv A outer s H E hr => by have TA := T.TA; exact (s_one (s_ret (d_and (d_isi (T := .int) T.isinstance T.int_ (by decide +kernel) (d_var 0)) (d_and (d_not (d_isi (T := .bool) T.isinstance T.bool_ (by decide +kernel) (d_var 0))) (d_one (d_chain op_le op_le okR_B okR_B (d_var 1) (d_var 0) (d_var 2)))))))) v_in_range
abbrev s_is_plan : Stmt := top 17
abbrev n_is_plan : List Str := ["value", "tops", "part", "top"]
theorem c_is_plan : FnScope n_is_plan ["value"] (defScope s_is_plan) := ⟨rfl, rfl, rfl, by decide +kernel, rfl, by decide +kernel, by decide +kernel⟩
theorem R_is_plan {f_is_plan : Addr} {d_is_plan : FuncData} (T : Glb K mg CA) (D : Def K mg "is_plan" s_is_plan ["value"] f_is_plan d_is_plan) {f_in_range : Addr} {d_in_range : FuncData} (D_in_range : Def K mg "in_range" s_in_range ["value", "low", "high"] f_in_range d_in_range) (R_in_range : FnR P w0 K mg base CX0 1 f_in_range (spOf K sp_in_range)) : FnR P w0 K mg base CX0 2 f_is_plan (spOf K sp_is_plan) :=
  fn_def (w := w_is_plan) (n := 3) D.fn c_is_plan D.bd rfl l_is_plan (fun cdv A outer s H E hr => by have TA := T.TA; exact (s_cons (s_if (t_w (tw_or (t_not (t_val (d_isi (T := .tuple) T.isinstance T.tuple_ (by decide +kernel) (d_var 0)))) (tw_or1 (t_ne hr (d_callB call_len_seq okC_len T.len bt_len (a_cons (d_var 0) a_nil)) d_int)))) (s_one (s_ret d_bl)) s_nil) (s_cons (s_set c_is_plan.nd (i := 1) (d_tup (a_cons (d_glob T.MOST_FEE) (a_cons (d_glob T.MOST_DATA) (a_cons (d_glob T.MOST_CAP) (a_cons (d_glob T.MOST_PRICE) a_nil)))))) (s_one (s_ret (d_callB (cr_all rfl) okC_all T.all bt_all (a_cons (d_lc (own := [("part", 2), ("top", 3)]) rfl c_is_plan.nd (i_zip T.zip (a_cons (d_var 0) (a_cons (d_var 1) a_nil))) (blkOk_by (own := [("part", 2), ("top", 3)]) (N := n_is_plan) (sc := defScope s_is_plan) (by decide +kernel)) (gw_tup (gws_cons (gw_name (by decide)) (gws_cons (gw_name (by decide)) gws_nil))) (okG_tup (okGs_cons (okG_name 2) (okGs_cons (okG_name 3) okGs_nil))) (fun _ _ _ _ _ => (g_tup rfl (gl_cons (g_name (i := 2) c_is_plan.nd) (gl_cons (g_name (i := 3) c_is_plan.nd) gl_nil)))) (fun _ _ _ _ _ => ts_nil) (fun _ _ _ _ _ => (d_call R_in_range (hr.mono (by decide)) D_in_range.fn.kp D_in_range.gl (a_cons (d_var 2) (a_cons d_int (a_cons (d_var 3) a_nil)))))) a_nil))))))) v_is_plan
abbrev s_check_plan : Stmt := top 19
abbrev n_check_plan : List Str := ["value"]
theorem c_check_plan : FnScope n_check_plan ["value"] (defScope s_check_plan) := ⟨rfl, rfl, rfl, by decide +kernel, rfl, by decide +kernel, by decide +kernel⟩
theorem R_X_check_plan {f_X_check_plan : Addr} {d_X_check_plan : FuncData} (T : Glb K mg CA) (D : Def K mg "check_plan" s_check_plan ["value"] f_X_check_plan d_X_check_plan) {f_is_plan : Addr} {d_is_plan : FuncData} (D_is_plan : Def K mg "is_plan" s_is_plan ["value"] f_is_plan d_is_plan) (R_is_plan : FnR P w0 K mg base CX0 2 f_is_plan (spOf K sp_is_plan)) : FnR P w0 K mg base (L2N.CX P w0) 3 f_X_check_plan (spX K (tabsB K false) sx_check_plan) :=
  fn_defX (t := false) (w := w_X_check_plan) (n := 0) D.fn c_check_plan D.bd rfl l_X_check_plan T.nt (fun cdv A outer s H E hr => by have TA := T.TA; exact (s_one (s_if (t_not (t_val (d_call R_is_plan (hr.mono (by decide)) D_is_plan.fn.kp D_is_plan.gl (a_cons (d_var 0) a_nil)))) (s_one (s_raiseE T.x_InvalidPlan (L2N.takes_of rfl rfl rfl rfl))) s_nil))) v_X_check_plan
abbrev s_Account_init : Stmt := inClass (top 28) 1
theorem c_Account_init : FnScope ["self", "plan"] ["self", "plan"] (defScope s_Account_init) := ⟨rfl, rfl, rfl, by decide +kernel, rfl, by decide +kernel, by decide +kernel⟩
theorem R_X_Account_init {f_X_Account_init : Addr} {d_X_Account_init : FuncData} (T : Glb K mg CA) (D : IniD K CA s_Account_init f_X_Account_init d_X_Account_init) {f_X_check_plan : Addr} {d_X_check_plan : FuncData} (D_X_check_plan : Def K mg "check_plan" s_check_plan ["value"] f_X_check_plan d_X_check_plan) (R_X_check_plan : FnR P w0 K mg base (L2N.CX P w0) 3 f_X_check_plan (spX K (tabsB K false) sx_check_plan)) : FnOk P w0 K mg base (L2N.CX P w0) 4 f_X_Account_init d_X_Account_init ["self", "plan"] (spInit K) :=
  fn_init T.TA D.fn c_Account_init rfl (fun cdv A outer s H E hr => by have TA := T.TA; exact ⟨(s_expr (d_callX R_X_check_plan (passN (L2N.takes_of rfl rfl rfl rfl)) (hr.mono (by decide)) D_X_check_plan.fn.kp D_X_check_plan.gl (a_cons (d_var 1) a_nil))), (d_lstO (a_cons (d_tup (a_cons (d_var 1) (a_cons (d_tup a_nil) (a_cons d_int (a_cons d_int (a_cons d_int a_nil)))))) a_nil)), (pv 0), rfl⟩)
abbrev s_law_same : Stmt := top 33
abbrev n_law_same : List Str := ["_law_a", "_law_b", "_law_x", "_law_y"]
theorem c_law_same : FnScope n_law_same ["_law_a", "_law_b"] (defScope s_law_same) := ⟨rfl, rfl, rfl, by decide +kernel, rfl, by decide +kernel, by decide +kernel⟩
theorem R_law_same_st {f : Addr} {fd : FuncData} (T : Glb K mg CA) (D : Def K mg "_law_same" s_law_same ["_law_a", "_law_b"] f fd) {sp sp1 : DSpec} {k : Nat} (R_self : FnR P w0 K mg base CX0 k f (spOf K sp)) (hl : ∀ ads Q, sp1 ads Q → ads.length = 2) (hv : Keeps (w_law_same sp) 2 sp1) : FnR P w0 K mg base CX0 (k + 1) f (spOf K sp1) :=
  fn_def (w := w_law_same sp) (n := 2) D.fn c_law_same D.bd rfl hl (fun cdv A outer s H E hr => by have TA := T.TA; exact (s_cons (s_if (t_w (tw_or (t_w (tw_and (t_val (d_isi (T := .list) T.isinstance T.list_ (by decide +kernel) (d_var 0))) (tw_and1 (t_val (d_isi (T := .list) T.isinstance T.list_ (by decide +kernel) (d_var 1)))))) (tw_or1 (t_w (tw_and (t_val (d_isi (T := .tuple) T.isinstance T.tuple_ (by decide +kernel) (d_var 0))) (tw_and1 (t_val (d_isi (T := .tuple) T.isinstance T.tuple_ (by decide +kernel) (d_var 1))))))))) (s_one (s_ret (d_and (d_eq hr (d_callB call_len_seq okC_len T.len bt_len (a_cons (d_var 0) a_nil)) (d_callB call_len_seq okC_len T.len bt_len (a_cons (d_var 1) a_nil))) (d_one (d_callB (cr_all rfl) okC_all T.all bt_all (a_cons (d_lc (own := [("_law_x", 2), ("_law_y", 3)]) rfl c_law_same.nd (i_zip T.zip (a_cons (d_var 0) (a_cons (d_var 1) a_nil))) (blkOk_by (own := [("_law_x", 2), ("_law_y", 3)]) (N := n_law_same) (sc := defScope s_law_same) (by decide +kernel)) (gw_tup (gws_cons (gw_name (by decide)) (gws_cons (gw_name (by decide)) gws_nil))) (okG_tup (okGs_cons (okG_name 2) (okGs_cons (okG_name 3) okGs_nil))) (fun _ _ _ _ _ => (g_tup rfl (gl_cons (g_name (i := 2) c_law_same.nd) (gl_cons (g_name (i := 3) c_law_same.nd) gl_nil)))) (fun _ _ _ _ _ => ts_nil) (fun _ _ _ _ _ => (d_call R_self hr D.fn.kp D.gl (a_cons (d_var 2) (a_cons (d_var 3) a_nil))))) a_nil)))))) s_nil) (s_cons (s_if (t_w (tw_or (t_val (d_isi3 (T1 := .bool) (T2 := .list) (T3 := .tuple) T.isinstance T.bool_ T.list_ T.tuple_ (by decide +kernel) (by decide +kernel) (by decide +kernel) (d_var 0))) (tw_or1 (t_val (d_isi3 (T1 := .bool) (T2 := .list) (T3 := .tuple) T.isinstance T.bool_ T.list_ T.tuple_ (by decide +kernel) (by decide +kernel) (by decide +kernel) (d_var 1)))))) (s_one (s_ret (d_and (d_isi (T := .bool) T.isinstance T.bool_ (by decide +kernel) (d_var 0)) (d_and (d_isi (T := .bool) T.isinstance T.bool_ (by decide +kernel) (d_var 1)) (d_one (d_eq hr (d_var 0) (d_var 1))))))) s_nil) (s_cons (s_if (t_w (tw_or (t_val (d_isi (T := .int) T.isinstance T.int_ (by decide +kernel) (d_var 0))) (tw_or1 (t_val (d_isi (T := .int) T.isinstance T.int_ (by decide +kernel) (d_var 1)))))) (s_one (s_ret (d_and (d_isi (T := .int) T.isinstance T.int_ (by decide +kernel) (d_var 0)) (d_and (d_isi (T := .int) T.isinstance T.int_ (by decide +kernel) (d_var 1)) (d_one (d_eq hr (d_var 0) (d_var 1))))))) s_nil) (s_cons (s_if (t_w (tw_or (t_val (d_isi (T := .str) T.isinstance T.str_ (by decide +kernel) (d_var 0))) (tw_or1 (t_val (d_isi (T := .str) T.isinstance T.str_ (by decide +kernel) (d_var 1)))))) (s_one (s_ret (d_and (d_isi (T := .str) T.isinstance T.str_ (by decide +kernel) (d_var 0)) (d_and (d_isi (T := .str) T.isinstance T.str_ (by decide +kernel) (d_var 1)) (d_one (d_eq hr (d_var 0) (d_var 1))))))) s_nil) (s_one (s_ret (d_and (d_isN (d_var 0) d_non) (d_one (d_isN (d_var 1) d_non)))))))))) hv
theorem R_law_same {f : Addr} {fd : FuncData} (T : Glb K mg CA) (D : Def K mg "_law_same" s_law_same ["_law_a", "_law_b"] f fd) : FnR P w0 K mg base CX0 5 f (spOf K sp_law_same) :=
  (R_law_same_st T D (R_law_same_st T D (R_law_same_st T D (R_law_same_st T D (fn_never no_same) (l_same 1) (v_same 0)) (l_same 2) (v_same 1)) (l_same 3) (v_same 2)) (l_same 4) (v_same 3))
abbrev s_Account_undo : Stmt := inClass (top 28) 5
abbrev n_Account_undo : List Str := ["self"]
theorem c_Account_undo : FnScope n_Account_undo ["self"] (defScope s_Account_undo) := ⟨rfl, rfl, rfl, by decide +kernel, rfl, by decide +kernel, by decide +kernel⟩
theorem R_X_Account_undo {f_X_Account_undo : Addr} {d_X_Account_undo : FuncData} (T : Glb K mg CA) (D : MetD K CA "undo" "Account.undo" s_Account_undo f_X_Account_undo d_X_Account_undo) : FnR P w0 K mg base (L2N.CX P w0) 1 f_X_Account_undo (spX K (tabsB K false) sx_Account_undo) :=
  fn_defX (t := false) (w := w_X_Account_undo) (n := 0) D.fn c_Account_undo (D.fn.binds fun _ _ _ _ _ _ us hl => match us, hl with | [_], _ => rfl) rfl l_X_Account_undo T.nt (fun cdv A outer s H E hr => by have TA := T.TA; exact (s_cons (s_if (t_eq hr (d_callB call_len_seq okC_lenX T.len bt_len (a_cons (d_states TA (d_var 0)) a_nil)) d_int) (s_one (s_raiseE T.x_NothingToUndo (L2N.takes_of rfl rfl rfl rfl))) s_nil) (s_one (s_expr (d_popX (d_states TA (d_var 0))))))) v_X_Account_undo
abbrev s_law_usage : Stmt := top 38
abbrev n_law_usage : List Str := ["_law_bag", "_law_most", "_law_plan_here", "_law_found", "_law_turn", "_law_near_here", "_law_some"]
theorem c_law_usage : FnScope n_law_usage ["_law_bag", "_law_most", "_law_plan_here"] (defScope s_law_usage) := ⟨rfl, rfl, rfl, by decide +kernel, rfl, by decide +kernel, by decide +kernel⟩
theorem R_law_usage {f_law_usage : Addr} {d_law_usage : FuncData} (T : Glb K mg CA) (D : Def K mg "_law_usage" s_law_usage ["_law_bag", "_law_most", "_law_plan_here"] f_law_usage d_law_usage) {f_law_take : Addr} {d_law_take : FuncData} (D_law_take : Def K mg "_law_take" s_law_take ["_law_bag", "_law_many"] f_law_take d_law_take) (R_law_take : FnR P w0 K mg base CX0 1 f_law_take (spOf K sp_law_take)) : FnR P w0 K mg base CX0 2 f_law_usage (spOf K sp_law_usage) :=
  fn_def (w := w_law_usage) (n := 4) D.fn c_law_usage D.bd rfl l_law_usage (fun cdv A outer s H E hr => by have TA := T.TA; exact (s_cons (s_set c_law_usage.nd (i := 3) (d_tup a_nil)) (s_cons (s_for PassesOwn.never rfl (i_r1 T.range (a_cons (d_call R_law_take (hr.mono (by decide)) D_law_take.fn.kp D_law_take.gl (a_cons (d_var 0) (a_cons (d_add (d_var 1) d_int) a_nil))) a_nil)) (g_name (i := 4) c_law_usage.nd) (s_cons (s_set c_law_usage.nd (i := 5) (d_callB (call_max2 rfl) okC_max2 T.max bt_max (a_cons d_int (a_cons (d_sub (d_add (d_ix (d_var 2) d_int) (d_call R_law_take (hr.mono (by decide)) D_law_take.fn.kp D_law_take.gl (a_cons (d_var 0) (a_cons d_int a_nil)))) d_int) a_nil)))) (s_cons (s_set c_law_usage.nd (i := 6) (d_lst (a_cons d_int (a_cons (d_var 5) (a_cons (d_call R_law_take (hr.mono (by decide)) D_law_take.fn.kp D_law_take.gl (a_cons (d_var 0) (a_cons (d_add (d_mul d_int (d_ix (d_var 2) d_int)) d_int) a_nil))) (a_cons (d_call R_law_take (hr.mono (by decide)) D_law_take.fn.kp D_law_take.gl (a_cons (d_var 0) (a_cons (d_add (d_add (d_ix (d_var 2) d_int) (d_ix (d_var 2) d_int)) d_int) a_nil))) a_nil)))))) (s_one (s_set c_law_usage.nd (i := 3) (d_add (d_var 3) (d_tup (a_cons (d_ix (d_var 6) (d_call R_law_take (hr.mono (by decide)) D_law_take.fn.kp D_law_take.gl (a_cons (d_var 0) (a_cons d_int a_nil)))) a_nil)))))))) (s_one (s_ret (d_var 3)))))) v_law_usage
abbrev s_month : Stmt := top 21
abbrev n_month : List Str := ["plan", "kept", "units", "further", "rest", "fee", "data", "cap", "price"]
theorem c_month : FnScope n_month ["plan", "kept", "units"] (defScope s_month) := ⟨rfl, rfl, rfl, by decide +kernel, rfl, by decide +kernel, by decide +kernel⟩
theorem R_month {f_month : Addr} {d_month : FuncData} (T : Glb K mg CA) (D : Def K mg "month" s_month ["plan", "kept", "units"] f_month d_month) : FnR P w0 K mg base CX0 1 f_month (spOf K sp_month) :=
  fn_def (w := w_month) (n := 6) D.fn c_month D.bd rfl l_month (fun cdv A outer s H E hr => by have TA := T.TA; exact (s_cons (s_asg (d_var 0) (g_tup rfl (gl_cons (g_name (i := 5) c_month.nd) (gl_cons (g_name (i := 6) c_month.nd) (gl_cons (g_name (i := 7) c_month.nd) (gl_cons (g_name (i := 8) c_month.nd) gl_nil)))))) (s_cons (s_set c_month.nd (i := 3) (d_callB (call_max2 rfl) okC_max2 T.max bt_max (a_cons d_int (a_cons (d_sub (d_sub (d_var 2) (d_var 1)) (d_var 6)) a_nil)))) (s_cons (s_set c_month.nd (i := 4) (d_add (d_sub (d_add (d_var 1) (d_var 6)) (d_var 2)) (d_var 3))) (s_one (s_ret (d_tup (a_cons (d_add (d_var 5) (d_mul (d_var 8) (d_var 3))) (a_cons (d_callB (call_min2 rfl) okC_min2 T.min bt_min (a_cons (d_var 7) (a_cons (d_var 4) a_nil))) (a_cons (d_callB (call_max2 rfl) okC_max2 T.max bt_max (a_cons d_int (a_cons (d_sub (d_var 4) (d_var 7)) a_nil))) (a_cons (d_var 3) a_nil))))))))))) v_month
abbrev s_Account_use : Stmt := inClass (top 28) 3
abbrev n_Account_use : List Str := ["self", "units", "number", "before", "plan", "used", "paid", "kept", "lost", "row"]
theorem c_Account_use : FnScope n_Account_use ["self", "units"] (defScope s_Account_use) := ⟨rfl, rfl, rfl, by decide +kernel, rfl, by decide +kernel, by decide +kernel⟩
theorem R_X_Account_use {f_X_Account_use : Addr} {d_X_Account_use : FuncData} (T : Glb K mg CA) (D : MetS K CA "use" "Account.use" s_Account_use "units" f_X_Account_use d_X_Account_use) {f_in_range : Addr} {d_in_range : FuncData} (D_in_range : Def K mg "in_range" s_in_range ["value", "low", "high"] f_in_range d_in_range) (R_in_range : FnR P w0 K mg base CX0 1 f_in_range (spOf K sp_in_range)) {f_month : Addr} {d_month : FuncData} (D_month : Def K mg "month" s_month ["plan", "kept", "units"] f_month d_month) (R_month : FnR P w0 K mg base CX0 1 f_month (spOf K sp_month)) : FnR P w0 K mg base (L2N.CX P w0) 2 f_X_Account_use (spX K (tabsB K false) (spStarX sx_Account_use 1)) :=
  fn_starX (t := false) (w := w_X_Account_use) (n := 8) D.fn c_Account_use D.bd rfl l_X_Account_use T.nt (fun cdv A outer s H E hr => by have TA := T.TA; exact (s_cons (s_asg (d_ix (d_states TA (d_var 0)) (d_neg d_int)) (g_tup rfl (gl_cons (g_name (i := 4) c_Account_use.nd) (gl_cons (g_name (i := 5) c_Account_use.nd) (gl_cons (g_name (i := 6) c_Account_use.nd) (gl_cons (g_name (i := 7) c_Account_use.nd) (gl_cons (g_name (i := 8) c_Account_use.nd) gl_nil))))))) (s_cons (s_for (L2.passes_of rfl) rfl (i_tup (d_var 1)) (g_name (i := 2) c_Account_use.nd) (s_one (s_if (t_not (t_val (d_call R_in_range (hr.mono (by decide)) D_in_range.fn.kp D_in_range.gl (a_cons (d_var 2) (a_cons d_int (a_cons (d_glob T.MOST_UNITS) a_nil)))))) (s_one (s_raiseE T.x_InvalidNumber (L2N.takes_of rfl rfl rfl rfl))) s_nil))) (s_cons (s_if (t_gt (d_add (d_callB call_len_seq okC_len T.len bt_len (a_cons (d_var 5) a_nil)) (d_callB call_len_seq okC_len T.len bt_len (a_cons (d_var 1) a_nil))) (d_mostE TA T.MOST (d_var 0))) (s_one (s_raiseE T.x_TooMany (L2N.takes_of rfl rfl rfl rfl))) s_nil) (s_cons (s_set c_Account_use.nd (i := 3) (d_var 6)) (s_cons (s_for (L2.passes_of rfl) rfl (i_tup (d_var 1)) (g_name (i := 2) c_Account_use.nd) (s_cons (s_set c_Account_use.nd (i := 9) (d_call R_month (hr.mono (by decide)) D_month.fn.kp D_month.gl (a_cons (d_var 4) (a_cons (d_var 7) (a_cons (d_var 2) a_nil))))) (s_one (s_par3 c_Account_use.nd (i := 6) (j := 7) (l := 8) (a_cons (d_add (d_var 6) (d_ix (d_var 9) d_int)) (a_cons (d_ix (d_var 9) d_int) (a_cons (d_add (d_var 8) (d_ix (d_var 9) d_int)) a_nil))))))) (s_cons (s_expr (d_appX (d_states TA (d_var 0)) (d_tup (a_cons (d_var 4) (a_cons (d_add (d_var 5) (d_var 1)) (a_cons (d_var 6) (a_cons (d_var 7) (a_cons (d_var 8) a_nil)))))))) (s_one (s_ret (d_sub (d_var 6) (d_var 3))))))))))) v_X_Account_use
abbrev s_law_use : Stmt := top 40
abbrev n_law_use : List Str := ["_law_run", "_law_units"]
theorem c_law_use : FnScope n_law_use ["_law_run", "_law_units"] (defScope s_law_use) := ⟨rfl, rfl, rfl, by decide +kernel, rfl, by decide +kernel, by decide +kernel⟩
theorem R_X_law_use {f_X_law_use : Addr} {d_X_law_use : FuncData} (T : Glb K mg CA) (D : Def K mg "_law_use" s_law_use ["_law_run", "_law_units"] f_X_law_use d_X_law_use) {f_X_Account_use : Addr} {d_X_Account_use : FuncData} (D_X_Account_use : MetS K CA "use" "Account.use" s_Account_use "units" f_X_Account_use d_X_Account_use) (R_X_Account_use : FnR P w0 K mg base (L2N.CX P w0) 2 f_X_Account_use (spX K (tabsB K false) (spStarX sx_Account_use 1))) : FnR P w0 K mg base (L2N.CX P w0) 3 f_X_law_use (spX K (tabsB K false) sx_law_use) :=
  fn_defX (t := false) (w := w_X_law_use) (n := 0) D.fn c_law_use D.bd rfl l_X_law_use T.nt (fun cdv A outer s H E hr => by have TA := T.TA; exact (s_cons (s_if (t_eq hr (d_var 1) (d_tup a_nil)) (s_one (s_ret (d_methX0 TA R_X_Account_use D_X_Account_use.mt (passN (L2N.takes_of rfl rfl rfl rfl)) (hr.mono (by decide)) (d_var 0)))) s_nil) (s_cons (s_if (t_eq hr (d_callB call_len_seq okC_len T.len bt_len (a_cons (d_var 1) a_nil)) d_int) (s_one (s_ret (d_methX TA R_X_Account_use D_X_Account_use.mt (passN (L2N.takes_of rfl rfl rfl rfl)) (hr.mono (by decide)) (d_var 0) (a_cons (d_ix (d_var 1) d_int) a_nil)))) s_nil) (s_one (s_ret (d_if (t_eq hr (d_callB call_len_seq okC_len T.len bt_len (a_cons (d_var 1) a_nil)) d_int) (d_methX TA R_X_Account_use D_X_Account_use.mt (passN (L2N.takes_of rfl rfl rfl rfl)) (hr.mono (by decide)) (d_var 0) (a_cons (d_ix (d_var 1) d_int) (a_cons (d_ix (d_var 1) d_int) a_nil))) (d_methX TA R_X_Account_use D_X_Account_use.mt (passN (L2N.takes_of rfl rfl rfl rfl)) (hr.mono (by decide)) (d_var 0) (a_cons (d_ix (d_var 1) d_int) (a_cons (d_ix (d_var 1) d_int) (a_cons (d_ix (d_var 1) d_int) a_nil)))))))))) v_X_law_use
abbrev s_law_months : Stmt := top 39
abbrev n_law_months : List Str := ["_law_plan_here", "_law_usage_here", "_law_kept", "_law_rows", "_law_units", "_law_fee", "_law_data", "_law_cap", "_law_price", "_law_there", "_law_further", "_law_left"]
theorem c_law_months : FnScope n_law_months ["_law_plan_here", "_law_usage_here", "_law_kept"] (defScope s_law_months) := ⟨rfl, rfl, rfl, by decide +kernel, rfl, by decide +kernel, by decide +kernel⟩
theorem R_law_months {f_law_months : Addr} {d_law_months : FuncData} (T : Glb K mg CA) (D : Def K mg "_law_months" s_law_months ["_law_plan_here", "_law_usage_here", "_law_kept"] f_law_months d_law_months) : FnR P w0 K mg base CX0 1 f_law_months (spOf K sp_law_months) :=
  fn_def (w := w_law_months) (n := 9) D.fn c_law_months D.bd rfl l_law_months (fun cdv A outer s H E hr => by have TA := T.TA; exact (s_cons (s_asg (d_var 0) (g_tup rfl (gl_cons (g_name (i := 5) c_law_months.nd) (gl_cons (g_name (i := 6) c_law_months.nd) (gl_cons (g_name (i := 7) c_law_months.nd) (gl_cons (g_name (i := 8) c_law_months.nd) gl_nil)))))) (s_cons (s_set c_law_months.nd (i := 3) (d_lstO a_nil)) (s_cons (s_for PassesOwn.never rfl (i_tup (d_var 1)) (g_name (i := 4) c_law_months.nd) (s_cons (s_set c_law_months.nd (i := 9) (d_add (d_var 2) (d_var 6))) (s_cons (s_set c_law_months.nd (i := 10) (d_if (t_gt (d_var 4) (d_var 9)) (d_sub (d_var 4) (d_var 9)) d_int)) (s_cons (s_set c_law_months.nd (i := 11) (d_if (t_lt (d_var 4) (d_var 9)) (d_sub (d_var 9) (d_var 4)) d_int)) (s_cons (s_set c_law_months.nd (i := 2) (d_if (t_lt (d_var 11) (d_var 7)) (d_var 11) (d_var 7))) (s_one (s_expr (d_append (d_var 3) (d_tup (a_cons (d_add (d_var 5) (d_mul (d_var 8) (d_var 10))) (a_cons (d_var 2) (a_cons (d_sub (d_var 11) (d_var 2)) (a_cons (d_var 10) a_nil))))))))))))) (s_frz 3 (s_one (s_ret (d_tup (a_cons (d_var 3) (a_cons (d_var 2) a_nil)))))))))) v_law_months
abbrev s_law_near : Stmt := top 37
abbrev n_law_near : List Str := ["_law_bag", "_law_plan_here", "_law_way", "_law_fee", "_law_data", "_law_cap", "_law_price", "_law_part"]
theorem c_law_near : FnScope n_law_near ["_law_bag", "_law_plan_here"] (defScope s_law_near) := ⟨rfl, rfl, rfl, by decide +kernel, rfl, by decide +kernel, by decide +kernel⟩
theorem R_law_near {f_law_near : Addr} {d_law_near : FuncData} (T : Glb K mg CA) (D : Def K mg "_law_near" s_law_near ["_law_bag", "_law_plan_here"] f_law_near d_law_near) {f_law_take : Addr} {d_law_take : FuncData} (D_law_take : Def K mg "_law_take" s_law_take ["_law_bag", "_law_many"] f_law_take d_law_take) (R_law_take : FnR P w0 K mg base CX0 1 f_law_take (spOf K sp_law_take)) {f_law_plan : Addr} {d_law_plan : FuncData} (D_law_plan : Def K mg "_law_plan" s_law_plan ["_law_bag"] f_law_plan d_law_plan) (R_law_plan : FnR P w0 K mg base CX0 2 f_law_plan (spOf K sp_law_plan)) : FnR P w0 K mg base CX0 3 f_law_near (spOf K sp_law_near) :=
  fn_def (w := w_law_near) (n := 6) D.fn c_law_near D.bd rfl l_law_near (fun cdv A outer s H E hr => by have TA := T.TA; exact (s_cons (s_asg (d_var 1) (g_tup rfl (gl_cons (g_name (i := 3) c_law_near.nd) (gl_cons (g_name (i := 4) c_law_near.nd) (gl_cons (g_name (i := 5) c_law_near.nd) (gl_cons (g_name (i := 6) c_law_near.nd) gl_nil)))))) (s_cons (s_set c_law_near.nd (i := 2) (d_call R_law_take (hr.mono (by decide)) D_law_take.fn.kp D_law_take.gl (a_cons (d_var 0) (a_cons d_int a_nil)))) (s_cons (s_if (t_eq hr (d_var 2) d_int) (s_one (s_ret (d_tup (a_cons (d_callB (call_min2 rfl) okC_min2 T.min bt_min (a_cons d_int (a_cons (d_add (d_var 3) (d_call R_law_take (hr.mono (by decide)) D_law_take.fn.kp D_law_take.gl (a_cons (d_var 0) (a_cons d_int a_nil)))) a_nil))) (a_cons (d_var 4) (a_cons (d_callB (call_min2 rfl) okC_min2 T.min bt_min (a_cons d_int (a_cons (d_call R_law_take (hr.mono (by decide)) D_law_take.fn.kp D_law_take.gl (a_cons (d_var 0) (a_cons (d_add (d_var 5) d_int) a_nil))) a_nil))) (a_cons (d_var 6) a_nil))))))) s_nil) (s_cons (s_if (t_eq hr (d_var 2) d_int) (s_one (s_ret (d_tup (a_cons (d_callB (call_min2 rfl) okC_min2 T.min bt_min (a_cons d_int (a_cons (d_add (d_var 3) (d_mul (d_var 6) (d_call R_law_take (hr.mono (by decide)) D_law_take.fn.kp D_law_take.gl (a_cons (d_var 0) (a_cons d_int a_nil))))) a_nil))) (a_cons (d_callB (call_min2 rfl) okC_min2 T.min bt_min (a_cons d_int (a_cons (d_add (d_var 4) (d_call R_law_take (hr.mono (by decide)) D_law_take.fn.kp D_law_take.gl (a_cons (d_var 0) (a_cons d_int a_nil)))) a_nil))) (a_cons (d_var 5) (a_cons (d_var 6) a_nil))))))) s_nil) (s_cons (s_if (t_eq hr (d_var 2) d_int) (s_cons (s_set c_law_near.nd (i := 7) (d_call R_law_take (hr.mono (by decide)) D_law_take.fn.kp D_law_take.gl (a_cons (d_var 0) (a_cons (d_add (d_callB (call_min2 rfl) okC_min2 T.min bt_min (a_cons d_int (a_cons (d_add (d_var 4) d_int) a_nil))) d_int) a_nil)))) (s_one (s_ret (d_tup (a_cons (d_callB (call_min2 rfl) okC_min2 T.min bt_min (a_cons d_int (a_cons (d_add (d_var 3) (d_call R_law_take (hr.mono (by decide)) D_law_take.fn.kp D_law_take.gl (a_cons (d_var 0) (a_cons d_int a_nil)))) a_nil))) (a_cons (d_var 7) (a_cons (d_div (d_var 5) d_int) (a_cons (d_callB (call_min2 rfl) okC_min2 T.min bt_min (a_cons d_int (a_cons (d_add (d_var 6) (d_call R_law_take (hr.mono (by decide)) D_law_take.fn.kp D_law_take.gl (a_cons (d_var 0) (a_cons d_int a_nil)))) a_nil))) a_nil)))))))) s_nil) (s_cons (s_if (t_eq hr (d_var 2) d_int) (s_one (s_ret (d_tup (a_cons (d_callB (call_max2 rfl) okC_max2 T.max bt_max (a_cons d_int (a_cons (d_sub (d_var 3) (d_call R_law_take (hr.mono (by decide)) D_law_take.fn.kp D_law_take.gl (a_cons (d_var 0) (a_cons d_int a_nil)))) a_nil))) (a_cons (d_var 4) (a_cons (d_callB (call_min2 rfl) okC_min2 T.min bt_min (a_cons d_int (a_cons (d_add (d_var 5) (d_call R_law_take (hr.mono (by decide)) D_law_take.fn.kp D_law_take.gl (a_cons (d_var 0) (a_cons d_int a_nil)))) a_nil))) (a_cons (d_var 6) a_nil))))))) s_nil) (s_one (s_ret (d_if (t_eq hr (d_var 2) d_int) (d_tup (a_cons (d_var 3) (a_cons (d_callB (call_max2 rfl) okC_max2 T.max bt_max (a_cons d_int (a_cons (d_sub (d_var 4) d_int) a_nil))) (a_cons (d_callB (call_min2 rfl) okC_min2 T.min bt_min (a_cons d_int (a_cons (d_mul d_int (d_var 5)) a_nil))) (a_cons (d_var 6) a_nil))))) (d_call R_law_plan (hr.mono (by decide)) D_law_plan.fn.kp D_law_plan.gl (a_cons (d_var 0) a_nil)))))))))))) v_law_near
abbrev s_Account_change : Stmt := inClass (top 28) 4
abbrev n_Account_change : List Str := ["self", "plan", "old", "used", "paid", "kept", "lost"]
theorem c_Account_change : FnScope n_Account_change ["self", "plan"] (defScope s_Account_change) := ⟨rfl, rfl, rfl, by decide +kernel, rfl, by decide +kernel, by decide +kernel⟩
theorem R_X_Account_change {f_X_Account_change : Addr} {d_X_Account_change : FuncData} (T : Glb K mg CA) (D : MetD K CA "change" "Account.change" s_Account_change f_X_Account_change d_X_Account_change) {f_X_check_plan : Addr} {d_X_check_plan : FuncData} (D_X_check_plan : Def K mg "check_plan" s_check_plan ["value"] f_X_check_plan d_X_check_plan) (R_X_check_plan : FnR P w0 K mg base (L2N.CX P w0) 3 f_X_check_plan (spX K (tabsB K false) sx_check_plan)) : FnR P w0 K mg base (L2N.CX P w0) 4 f_X_Account_change (spX K (tabsB K false) sx_Account_change) :=
  fn_defX (t := false) (w := w_X_Account_change) (n := 5) D.fn c_Account_change (D.fn.binds fun _ _ _ _ _ _ us hl => match us, hl with | [_, _], _ => rfl) rfl l_X_Account_change T.nt (fun cdv A outer s H E hr => by have TA := T.TA; exact (s_cons (s_expr (d_callX R_X_check_plan (passN (L2N.takes_of rfl rfl rfl rfl)) (hr.mono (by decide)) D_X_check_plan.fn.kp D_X_check_plan.gl (a_cons (d_var 1) a_nil))) (s_cons (s_asg (d_ix (d_states TA (d_var 0)) (d_neg d_int)) (g_tup rfl (gl_cons (g_name (i := 2) c_Account_change.nd) (gl_cons (g_name (i := 3) c_Account_change.nd) (gl_cons (g_name (i := 4) c_Account_change.nd) (gl_cons (g_name (i := 5) c_Account_change.nd) (gl_cons (g_name (i := 6) c_Account_change.nd) gl_nil))))))) (s_cons (s_expr (d_appX (d_states TA (d_var 0)) (d_tup (a_cons (d_var 1) (a_cons (d_var 3) (a_cons (d_var 4) (a_cons d_int (a_cons (d_add (d_var 6) (d_var 5)) a_nil)))))))) (s_one (s_ret (d_var 5))))))) v_X_Account_change
abbrev s_law_step : Stmt := top 42
abbrev n_law_step : List Str := ["_law_bag", "_law_run", "_law_state", "_law_way", "_law_odd", "_law_good", "_law_plan_here", "_law_used", "_law_paid", "_law_kept", "_law_lost", "_law_units", "_law_told", "_law_cost", "_law_other", "_law_rows", "_law_later", "_law_row"]
theorem c_law_step : FnScope n_law_step ["_law_bag", "_law_run", "_law_state"] (defScope s_law_step) := ⟨rfl, rfl, rfl, by decide +kernel, rfl, by decide +kernel, by decide +kernel⟩
theorem R_X_law_step {f_X_law_step : Addr} {d_X_law_step : FuncData} (T : Glb K mg CA) (D : Def K mg "_law_step" s_law_step ["_law_bag", "_law_run", "_law_state"] f_X_law_step d_X_law_step) {f_law_take : Addr} {d_law_take : FuncData} (D_law_take : Def K mg "_law_take" s_law_take ["_law_bag", "_law_many"] f_law_take d_law_take) (R_law_take : FnR P w0 K mg base CX0 1 f_law_take (spOf K sp_law_take)) {f_law_usage : Addr} {d_law_usage : FuncData} (D_law_usage : Def K mg "_law_usage" s_law_usage ["_law_bag", "_law_most", "_law_plan_here"] f_law_usage d_law_usage) (R_law_usage : FnR P w0 K mg base CX0 2 f_law_usage (spOf K sp_law_usage)) {f_X_law_use : Addr} {d_X_law_use : FuncData} (D_X_law_use : Def K mg "_law_use" s_law_use ["_law_run", "_law_units"] f_X_law_use d_X_law_use) (R_X_law_use : FnR P w0 K mg base (L2N.CX P w0) 3 f_X_law_use (spX K (tabsB K false) sx_law_use)) {f_law_months : Addr} {d_law_months : FuncData} (D_law_months : Def K mg "_law_months" s_law_months ["_law_plan_here", "_law_usage_here", "_law_kept"] f_law_months d_law_months) (R_law_months : FnR P w0 K mg base CX0 1 f_law_months (spOf K sp_law_months)) {f_law_same : Addr} {d_law_same : FuncData} (D_law_same : Def K mg "_law_same" s_law_same ["_law_a", "_law_b"] f_law_same d_law_same) (R_law_same : FnR P w0 K mg base CX0 5 f_law_same (spOf K sp_law_same)) {f_law_near : Addr} {d_law_near : FuncData} (D_law_near : Def K mg "_law_near" s_law_near ["_law_bag", "_law_plan_here"] f_law_near d_law_near) (R_law_near : FnR P w0 K mg base CX0 3 f_law_near (spOf K sp_law_near)) {f_X_Account_change : Addr} {d_X_Account_change : FuncData} (D_X_Account_change : MetD K CA "change" "Account.change" s_Account_change f_X_Account_change d_X_Account_change) (R_X_Account_change : FnR P w0 K mg base (L2N.CX P w0) 4 f_X_Account_change (spX K (tabsB K false) sx_Account_change)) {f_X_Account_use : Addr} {d_X_Account_use : FuncData} (D_X_Account_use : MetS K CA "use" "Account.use" s_Account_use "units" f_X_Account_use d_X_Account_use) (R_X_Account_use : FnR P w0 K mg base (L2N.CX P w0) 2 f_X_Account_use (spX K (tabsB K false) (spStarX sx_Account_use 1))) {g_out e_out : Addr} {d_out d_err : FuncData} (OUT : LZ.OutD K mg s_law_outcome s_law_error g_out e_out d_out d_err) (ERL : ErL K mg errL) {cT PT : Addr} (hns : PySem.W.nsIn K mainGlobals "_law_step" = some (some (.ref f_X_law_step))) (htab : PySem.W.tabIn K "_law_step" = some (cT, PT)) (TB : LamX.TabB base mg cT PT) (hmT : (PT, (("_law_step" : Str) ++ ".<locals>.") ++ "<lambda>") ∈ tabsK K) (huT : ∀ p ∈ tabsK K, p.1 = PT → p.2 = (("_law_step" : Str) ++ ".<locals>.") ++ "<lambda>") : FnR P w0 K mg base (L2N.CX P w0) 8 f_X_law_step (spX K (tabsB K true) sx_law_step) :=
  fn_defXc (t := true) (w := w_X_law_step) (n := 15) D.fn hns htab c_law_step D.bd rfl l_X_law_step T.nt (fun A outer s H E hr => by have TA := T.TA; exact (s_cons (s_asg (d_var 2) (g_tup rfl (gl_cons (g_name (i := 6) c_law_step.nd) (gl_cons (g_name (i := 7) c_law_step.nd) (gl_cons (g_name (i := 8) c_law_step.nd) (gl_cons (g_name (i := 9) c_law_step.nd) (gl_cons (g_name (i := 10) c_law_step.nd) gl_nil))))))) (s_cons (s_set c_law_step.nd (i := 3) (d_call R_law_take (hr.mono (by decide)) D_law_take.fn.kp D_law_take.gl (a_cons (d_var 0) (a_cons d_int a_nil)))) (s_cons (s_if (t_lt (d_var 3) d_int) (s_cons (s_set c_law_step.nd (i := 11) (d_call R_law_usage (hr.mono (by decide)) D_law_usage.fn.kp D_law_usage.gl (a_cons (d_var 0) (a_cons d_int (a_cons (d_var 6) a_nil))))) (s_cons (s_set c_law_step.nd (i := 12) (d_outcome (k := 4) (L := errL) OUT ERL T.nt TB hmT huT (hr.mono (by decide)) (fun A outer s H E1 f cc hr => (d_callX R_X_law_use (passN (L2N.takes_of rfl rfl rfl rfl)) (hr.mono (by decide)) D_X_law_use.fn.kp D_X_law_use.gl (a_cons (d_var 1) (a_cons (d_var 11) a_nil)))))) (s_cons (s_if (t_gt (d_add (d_callB call_len_seq okC_len T.len bt_len (a_cons (d_var 7) a_nil)) (d_callB call_len_seq okC_len T.len bt_len (a_cons (d_var 11) a_nil))) d_int) (s_one (s_ret (d_tup (a_cons (d_eq hr (d_var 12) (d_tup (a_cons d_str a_nil))) (a_cons (d_lst a_nil) a_nil))))) s_nil) (s_cons (s_asg (d_call R_law_months (hr.mono (by decide)) D_law_months.fn.kp D_law_months.gl (a_cons (d_var 6) (a_cons (d_var 11) (a_cons (d_var 9) a_nil)))) (g_tup rfl (gl_cons (g_name (i := 15) c_law_step.nd) (gl_cons (g_name (i := 16) c_law_step.nd) gl_nil)))) (s_cons (s_set c_law_step.nd (i := 13) (d_callB (cr_sum rfl) okC_sum T.sum bt_sum (a_cons (d_lc (own := [("_law_row", 17)]) rfl c_law_step.nd (i_lst (d_var 15)) (blkOk_by (own := [("_law_row", 17)]) (N := n_law_step) (sc := defScope s_law_step) (by decide +kernel)) (gw_name (by decide)) (okG_name 17) (fun _ _ _ _ _ => (g_name (i := 17) c_law_step.nd)) (fun _ _ _ _ _ => ts_nil) (fun _ _ _ _ _ => (d_ix (d_var 17) d_int))) a_nil))) (s_cons (s_set c_law_step.nd (i := 2) (d_tup (a_cons (d_var 6) (a_cons (d_add (d_var 7) (d_var 11)) (a_cons (d_add (d_var 8) (d_var 13)) (a_cons (d_var 16) (a_cons (d_add (d_var 10) (d_callB (cr_sum rfl) okC_sum T.sum bt_sum (a_cons (d_lc (own := [("_law_row", 17)]) rfl c_law_step.nd (i_lst (d_var 15)) (blkOk_by (own := [("_law_row", 17)]) (N := n_law_step) (sc := defScope s_law_step) (by decide +kernel)) (gw_name (by decide)) (okG_name 17) (fun _ _ _ _ _ => (g_name (i := 17) c_law_step.nd)) (fun _ _ _ _ _ => ts_nil) (fun _ _ _ _ _ => (d_ix (d_var 17) d_int))) a_nil))) a_nil))))))) (s_one (s_ret (d_tup (a_cons (d_call R_law_same (hr.mono (by decide)) D_law_same.fn.kp D_law_same.gl (a_cons (d_var 12) (a_cons (d_tup (a_cons d_str (a_cons (d_var 13) a_nil))) a_nil))) (a_cons (d_lst (a_cons (d_var 2) a_nil)) a_nil))))))))))) s_nil) (s_cons (s_if (t_lt (d_var 3) d_int) (s_cons (s_set c_law_step.nd (i := 14) (d_if (t_eq hr (d_call R_law_take (hr.mono (by decide)) D_law_take.fn.kp D_law_take.gl (a_cons (d_var 0) (a_cons d_int a_nil))) d_int) (d_var 6) (d_call R_law_near (hr.mono (by decide)) D_law_near.fn.kp D_law_near.gl (a_cons (d_var 0) (a_cons (d_var 6) a_nil))))) (s_cons (s_set c_law_step.nd (i := 12) (d_outcome (k := 4) (L := errL) OUT ERL T.nt TB hmT huT (hr.mono (by decide)) (fun A outer s H E1 f cc hr => (d_methX TA R_X_Account_change D_X_Account_change.mt (passN (L2N.takes_of rfl rfl rfl rfl)) (hr.mono (by decide)) (d_var 1) (a_cons (d_var 14) a_nil))))) (s_one (s_ret (d_tup (a_cons (d_call R_law_same (hr.mono (by decide)) D_law_same.fn.kp D_law_same.gl (a_cons (d_var 12) (a_cons (d_tup (a_cons d_str (a_cons (d_var 9) a_nil))) a_nil))) (a_cons (d_lst (a_cons (d_tup (a_cons (d_var 14) (a_cons (d_var 7) (a_cons (d_var 8) (a_cons d_int (a_cons (d_add (d_var 10) (d_var 9)) a_nil)))))) a_nil)) a_nil))))))) s_nil) (s_cons (s_set c_law_step.nd (i := 4) (d_ix (d_lst (a_cons d_non (a_cons d_bl (a_cons (d_neg d_int) (a_cons (d_add (d_pow d_int d_int) d_int) (a_cons d_str a_nil)))))) (d_call R_law_take (hr.mono (by decide)) D_law_take.fn.kp D_law_take.gl (a_cons (d_var 0) (a_cons d_int a_nil))))) (s_cons (s_set c_law_step.nd (i := 5) (d_eq hr (d_outcome (k := 4) (L := errL) OUT ERL T.nt TB hmT huT (hr.mono (by decide)) (fun A outer s H E1 f cc hr => (d_methX TA R_X_Account_use D_X_Account_use.mt (passN (L2N.takes_of rfl rfl rfl rfl)) (hr.mono (by decide)) (d_var 1) (a_cons d_int (a_cons (d_var 4) a_nil))))) (d_tup (a_cons d_str a_nil)))) (s_one (s_ret (d_tup (a_cons (d_and (d_var 5) (d_one (d_eq hr (d_outcome (k := 4) (L := errL) OUT ERL T.nt TB hmT huT (hr.mono (by decide)) (fun A outer s H E1 f cc hr => (d_methX TA R_X_Account_change D_X_Account_change.mt (passN (L2N.takes_of rfl rfl rfl rfl)) (hr.mono (by decide)) (d_var 1) (a_cons (d_var 4) a_nil)))) (d_tup (a_cons d_str a_nil))))) (a_cons (d_lst a_nil) a_nil)))))))))))) v_X_law_step
abbrev s_Account_lost : Stmt := inClass (top 28) 10
abbrev n_Account_lost : List Str := ["self"]
theorem c_Account_lost : FnScope n_Account_lost ["self"] (defScope s_Account_lost) := ⟨rfl, rfl, rfl, by decide +kernel, rfl, by decide +kernel, by decide +kernel⟩
theorem R_Account_lost {p_Account_lost f_Account_lost : Addr} {d_Account_lost : FuncData} (T : Glb K mg CA) (D : PrpD K CA "lost" "Account.lost" s_Account_lost p_Account_lost f_Account_lost d_Account_lost) : FnOk P w0 K mg base CX0 1 f_Account_lost d_Account_lost ["self"] (spOf K sp_Account_lost) :=
  fn_defOk (w := w_Account_lost) (n := 0) D.fn c_Account_lost rfl l_Account_lost (fun cdv A outer s H E hr => by have TA := T.TA; exact (s_one (s_ret (d_ix (d_ix (d_states TA (d_var 0)) (d_neg d_int)) d_int)))) v_Account_lost
abbrev s_Account_kept : Stmt := inClass (top 28) 9
abbrev n_Account_kept : List Str := ["self"]
theorem c_Account_kept : FnScope n_Account_kept ["self"] (defScope s_Account_kept) := ⟨rfl, rfl, rfl, by decide +kernel, rfl, by decide +kernel, by decide +kernel⟩
theorem R_Account_kept {p_Account_kept f_Account_kept : Addr} {d_Account_kept : FuncData} (T : Glb K mg CA) (D : PrpD K CA "kept" "Account.kept" s_Account_kept p_Account_kept f_Account_kept d_Account_kept) : FnOk P w0 K mg base CX0 1 f_Account_kept d_Account_kept ["self"] (spOf K sp_Account_kept) :=
  fn_defOk (w := w_Account_kept) (n := 0) D.fn c_Account_kept rfl l_Account_kept (fun cdv A outer s H E hr => by have TA := T.TA; exact (s_one (s_ret (d_ix (d_ix (d_states TA (d_var 0)) (d_neg d_int)) d_int)))) v_Account_kept
abbrev s_Account_paid : Stmt := inClass (top 28) 8
abbrev n_Account_paid : List Str := ["self"]
theorem c_Account_paid : FnScope n_Account_paid ["self"] (defScope s_Account_paid) := ⟨rfl, rfl, rfl, by decide +kernel, rfl, by decide +kernel, by decide +kernel⟩
theorem R_Account_paid {p_Account_paid f_Account_paid : Addr} {d_Account_paid : FuncData} (T : Glb K mg CA) (D : PrpD K CA "paid" "Account.paid" s_Account_paid p_Account_paid f_Account_paid d_Account_paid) : FnOk P w0 K mg base CX0 1 f_Account_paid d_Account_paid ["self"] (spOf K sp_Account_paid) :=
  fn_defOk (w := w_Account_paid) (n := 0) D.fn c_Account_paid rfl l_Account_paid (fun cdv A outer s H E hr => by have TA := T.TA; exact (s_one (s_ret (d_ix (d_ix (d_states TA (d_var 0)) (d_neg d_int)) d_int)))) v_Account_paid
abbrev s_Account_used : Stmt := inClass (top 28) 7
abbrev n_Account_used : List Str := ["self"]
theorem c_Account_used : FnScope n_Account_used ["self"] (defScope s_Account_used) := ⟨rfl, rfl, rfl, by decide +kernel, rfl, by decide +kernel, by decide +kernel⟩
theorem R_Account_used {p_Account_used f_Account_used : Addr} {d_Account_used : FuncData} (T : Glb K mg CA) (D : PrpD K CA "used" "Account.used" s_Account_used p_Account_used f_Account_used d_Account_used) : FnOk P w0 K mg base CX0 1 f_Account_used d_Account_used ["self"] (spOf K sp_Account_used) :=
  fn_defOk (w := w_Account_used) (n := 0) D.fn c_Account_used rfl l_Account_used (fun cdv A outer s H E hr => by have TA := T.TA; exact (s_one (s_ret (d_ix (d_ix (d_states TA (d_var 0)) (d_neg d_int)) d_int)))) v_Account_used
abbrev s_Account_plan : Stmt := inClass (top 28) 6
abbrev n_Account_plan : List Str := ["self"]
theorem c_Account_plan : FnScope n_Account_plan ["self"] (defScope s_Account_plan) := ⟨rfl, rfl, rfl, by decide +kernel, rfl, by decide +kernel, by decide +kernel⟩
theorem R_Account_plan {p_Account_plan f_Account_plan : Addr} {d_Account_plan : FuncData} (T : Glb K mg CA) (D : PrpD K CA "plan" "Account.plan" s_Account_plan p_Account_plan f_Account_plan d_Account_plan) : FnOk P w0 K mg base CX0 1 f_Account_plan d_Account_plan ["self"] (spOf K sp_Account_plan) :=
  fn_defOk (w := w_Account_plan) (n := 0) D.fn c_Account_plan rfl l_Account_plan (fun cdv A outer s H E hr => by have TA := T.TA; exact (s_one (s_ret (d_ix (d_ix (d_states TA (d_var 0)) (d_neg d_int)) d_int)))) v_Account_plan
abbrev s_Account_bool : Stmt := inClass (top 28) 11
abbrev n_Account_bool : List Str := ["self"]
theorem c_Account_bool : FnScope n_Account_bool ["self"] (defScope s_Account_bool) := ⟨rfl, rfl, rfl, by decide +kernel, rfl, by decide +kernel, by decide +kernel⟩
theorem R_Account_bool {f_Account_bool : Addr} {d_Account_bool : FuncData} (T : Glb K mg CA) (D : MetD K CA "__bool__" "Account.__bool__" s_Account_bool f_Account_bool d_Account_bool) : FnR P w0 K mg base CX0 1 f_Account_bool (spOf K sp_Account_bool) :=
  fn_def (w := w_Account_bool) (n := 0) D.fn c_Account_bool (D.fn.binds fun _ _ _ _ _ _ us hl => match us, hl with | [_], _ => rfl) rfl l_Account_bool (fun cdv A outer s H E hr => by have TA := T.TA; exact (s_one (s_ret (d_boolB T.bool_ (a_cons (d_gt (d_ix (d_ix (d_states TA (d_var 0)) (d_neg d_int)) d_int) d_int) a_nil))))) v_Account_bool
abbrev s_Account_len : Stmt := inClass (top 28) 12
abbrev n_Account_len : List Str := ["self"]
theorem c_Account_len : FnScope n_Account_len ["self"] (defScope s_Account_len) := ⟨rfl, rfl, rfl, by decide +kernel, rfl, by decide +kernel, by decide +kernel⟩
theorem R_Account_len {f_Account_len : Addr} {d_Account_len : FuncData} (T : Glb K mg CA) (D : MetD K CA "__len__" "Account.__len__" s_Account_len f_Account_len d_Account_len) : FnR P w0 K mg base CX0 1 f_Account_len (spOf K sp_Account_len) :=
  fn_def (w := w_Account_len) (n := 0) D.fn c_Account_len (D.fn.binds fun _ _ _ _ _ _ us hl => match us, hl with | [_], _ => rfl) rfl l_Account_len (fun cdv A outer s H E hr => by have TA := T.TA; exact (s_one (s_ret (d_callB call_len_seq okC_len T.len bt_len (a_cons (d_ix (d_ix (d_states TA (d_var 0)) (d_neg d_int)) d_int) a_nil))))) v_Account_len
abbrev s_law_right : Stmt := top 41
abbrev n_law_right : List Str := ["_law_run", "_law_state", "_law_told"]
theorem c_law_right : FnScope n_law_right ["_law_run", "_law_state"] (defScope s_law_right) := ⟨rfl, rfl, rfl, by decide +kernel, rfl, by decide +kernel, by decide +kernel⟩
theorem R_law_right {f_law_right : Addr} {d_law_right : FuncData} (T : Glb K mg CA) (D : Def K mg "_law_right" s_law_right ["_law_run", "_law_state"] f_law_right d_law_right) {p_Account_lost f_Account_lost : Addr} {d_Account_lost : FuncData} (D_Account_lost : PrpD K CA "lost" "Account.lost" s_Account_lost p_Account_lost f_Account_lost d_Account_lost) (R_Account_lost : FnOk P w0 K mg base CX0 1 f_Account_lost d_Account_lost ["self"] (spOf K sp_Account_lost)) {p_Account_kept f_Account_kept : Addr} {d_Account_kept : FuncData} (D_Account_kept : PrpD K CA "kept" "Account.kept" s_Account_kept p_Account_kept f_Account_kept d_Account_kept) (R_Account_kept : FnOk P w0 K mg base CX0 1 f_Account_kept d_Account_kept ["self"] (spOf K sp_Account_kept)) {p_Account_paid f_Account_paid : Addr} {d_Account_paid : FuncData} (D_Account_paid : PrpD K CA "paid" "Account.paid" s_Account_paid p_Account_paid f_Account_paid d_Account_paid) (R_Account_paid : FnOk P w0 K mg base CX0 1 f_Account_paid d_Account_paid ["self"] (spOf K sp_Account_paid)) {p_Account_used f_Account_used : Addr} {d_Account_used : FuncData} (D_Account_used : PrpD K CA "used" "Account.used" s_Account_used p_Account_used f_Account_used d_Account_used) (R_Account_used : FnOk P w0 K mg base CX0 1 f_Account_used d_Account_used ["self"] (spOf K sp_Account_used)) {p_Account_plan f_Account_plan : Addr} {d_Account_plan : FuncData} (D_Account_plan : PrpD K CA "plan" "Account.plan" s_Account_plan p_Account_plan f_Account_plan d_Account_plan) (R_Account_plan : FnOk P w0 K mg base CX0 1 f_Account_plan d_Account_plan ["self"] (spOf K sp_Account_plan)) {f_law_same : Addr} {d_law_same : FuncData} (D_law_same : Def K mg "_law_same" s_law_same ["_law_a", "_law_b"] f_law_same d_law_same) (R_law_same : FnR P w0 K mg base CX0 5 f_law_same (spOf K sp_law_same)) {f_Account_bool : Addr} {d_Account_bool : FuncData} (D_Account_bool : MetD K CA "__bool__" "Account.__bool__" s_Account_bool f_Account_bool d_Account_bool) (R_Account_bool : FnR P w0 K mg base CX0 1 f_Account_bool (spOf K sp_Account_bool)) {f_Account_len : Addr} {d_Account_len : FuncData} (D_Account_len : MetD K CA "__len__" "Account.__len__" s_Account_len f_Account_len d_Account_len) (R_Account_len : FnR P w0 K mg base CX0 1 f_Account_len (spOf K sp_Account_len)) : FnR P w0 K mg base CX0 6 f_law_right (spOf K sp_law_right) :=
  fn_def (w := w_law_right) (n := 1) D.fn c_law_right D.bd rfl l_law_right (fun cdv A outer s H E hr => by have TA := T.TA; exact (s_cons (s_set c_law_right.nd (i := 2) (d_tup (a_cons (d_prop TA D_Account_plan R_Account_plan (hr.mono (by decide)) (d_var 0)) (a_cons (d_prop TA D_Account_used R_Account_used (hr.mono (by decide)) (d_var 0)) (a_cons (d_prop TA D_Account_paid R_Account_paid (hr.mono (by decide)) (d_var 0)) (a_cons (d_prop TA D_Account_kept R_Account_kept (hr.mono (by decide)) (d_var 0)) (a_cons (d_prop TA D_Account_lost R_Account_lost (hr.mono (by decide)) (d_var 0)) a_nil))))))) (s_one (s_ret (d_and (d_call R_law_same (hr.mono (by decide)) D_law_same.fn.kp D_law_same.gl (a_cons (d_var 2) (a_cons (d_var 1) a_nil))) (d_and (d_eq hr (d_boolA TA R_Account_bool D_Account_bool.mt (hr.mono (by decide)) T.bool_ (a_cons (d_var 0) a_nil)) (d_gt (d_ix (d_var 1) d_int) d_int)) (d_one (d_eq hr (d_lenA TA R_Account_len D_Account_len.mt (hr.mono (by decide)) T.len (a_cons (d_var 0) a_nil)) (d_callB call_len_seq okC_len T.len bt_len (a_cons (d_ix (d_var 1) d_int) a_nil)))))))))) v_law_right
abbrev s_Account_eq : Stmt := inClass (top 28) 13
abbrev n_Account_eq : List Str := ["self", "other"]
theorem c_Account_eq : FnScope n_Account_eq ["self", "other"] (defScope s_Account_eq) := ⟨rfl, rfl, rfl, by decide +kernel, rfl, by decide +kernel, by decide +kernel⟩
theorem R_Account_eq {f_Account_eq : Addr} {d_Account_eq : FuncData} (T : Glb K mg CA) (D : MetD K CA "__eq__" "Account.__eq__" s_Account_eq f_Account_eq d_Account_eq) : FnR P w0 K mg base CX0 1 f_Account_eq (spOf K sp_Account_eq) :=
  fn_def (w := w_Account_eq) (n := 0) D.fn c_Account_eq (D.fn.binds fun _ _ _ _ _ _ us hl => match us, hl with | [_, _], _ => rfl) rfl l_Account_eq (fun cdv A outer s H E hr => by have TA := T.TA; exact (s_one (s_ret (d_and (d_isA TA T.AI T.isinstance (d_var 1)) (d_one (d_eq hr (d_ix (d_states TA (d_var 0)) (d_neg d_int)) (d_ix (d_states TA (d_var 1)) (d_neg d_int)))))))) v_Account_eq
theorem R_check_plan {f_check_plan : Addr} {d_check_plan : FuncData} (T : Glb K mg CA) (D : Def K mg "check_plan" s_check_plan ["value"] f_check_plan d_check_plan) {f_is_plan : Addr} {d_is_plan : FuncData} (D_is_plan : Def K mg "is_plan" s_is_plan ["value"] f_is_plan d_is_plan) (R_is_plan : FnR P w0 K mg base CX0 2 f_is_plan (spOf K sp_is_plan)) : FnR P w0 K mg base CX0 3 f_check_plan (spOf K sp_check_plan) :=
  fn_def (w := w_check_plan) (n := 0) D.fn c_check_plan D.bd rfl l_check_plan (fun cdv A outer s H E hr => by have TA := T.TA; exact (s_one (s_if (t_not (t_val (d_call R_is_plan (hr.mono (by decide)) D_is_plan.fn.kp D_is_plan.gl (a_cons (d_var 0) a_nil)))) (s_one s_never) s_nil))) v_check_plan
abbrev s_is_usage : Stmt := top 18
abbrev n_is_usage : List Str := ["value", "units"]
theorem c_is_usage : FnScope n_is_usage ["value"] (defScope s_is_usage) := ⟨rfl, rfl, rfl, by decide +kernel, rfl, by decide +kernel, by decide +kernel⟩
theorem R_is_usage {f_is_usage : Addr} {d_is_usage : FuncData} (T : Glb K mg CA) (D : Def K mg "is_usage" s_is_usage ["value"] f_is_usage d_is_usage) {f_in_range : Addr} {d_in_range : FuncData} (D_in_range : Def K mg "in_range" s_in_range ["value", "low", "high"] f_in_range d_in_range) (R_in_range : FnR P w0 K mg base CX0 1 f_in_range (spOf K sp_in_range)) : FnR P w0 K mg base CX0 2 f_is_usage (spOf K sp_is_usage) :=
  fn_def (w := w_is_usage) (n := 1) D.fn c_is_usage D.bd rfl l_is_usage (fun cdv A outer s H E hr => by have TA := T.TA; exact (s_cons (s_if (t_w (tw_or (t_not (t_val (d_isi (T := .tuple) T.isinstance T.tuple_ (by decide +kernel) (d_var 0)))) (tw_or1 (t_gt (d_callB call_len_seq okC_len T.len bt_len (a_cons (d_var 0) a_nil)) (d_glob T.MOST_MONTHS))))) (s_one (s_ret d_bl)) s_nil) (s_one (s_ret (d_callB (cr_all rfl) okC_all T.all bt_all (a_cons (d_lc (own := [("units", 1)]) rfl c_is_usage.nd (i_tup (d_var 0)) (blkOk_by (own := [("units", 1)]) (N := n_is_usage) (sc := defScope s_is_usage) (by decide +kernel)) (gw_name (by decide)) (okG_name 1) (fun _ _ _ _ _ => (g_name (i := 1) c_is_usage.nd)) (fun _ _ _ _ _ => ts_nil) (fun _ _ _ _ _ => (d_call R_in_range (hr.mono (by decide)) D_in_range.fn.kp D_in_range.gl (a_cons (d_var 1) (a_cons d_int (a_cons (d_glob T.MOST_UNITS) a_nil)))))) a_nil)))))) v_is_usage
abbrev s_check_usage : Stmt := top 20
abbrev n_check_usage : List Str := ["value"]
theorem c_check_usage : FnScope n_check_usage ["value"] (defScope s_check_usage) := ⟨rfl, rfl, rfl, by decide +kernel, rfl, by decide +kernel, by decide +kernel⟩
theorem R_check_usage {f_check_usage : Addr} {d_check_usage : FuncData} (T : Glb K mg CA) (D : Def K mg "check_usage" s_check_usage ["value"] f_check_usage d_check_usage) {f_is_usage : Addr} {d_is_usage : FuncData} (D_is_usage : Def K mg "is_usage" s_is_usage ["value"] f_is_usage d_is_usage) (R_is_usage : FnR P w0 K mg base CX0 2 f_is_usage (spOf K sp_is_usage)) : FnR P w0 K mg base CX0 3 f_check_usage (spOf K sp_check_usage) :=
  fn_def (w := w_check_usage) (n := 0) D.fn c_check_usage D.bd rfl l_check_usage (fun cdv A outer s H E hr => by have TA := T.TA; exact (s_one (s_if (t_not (t_val (d_call R_is_usage (hr.mono (by decide)) D_is_usage.fn.kp D_is_usage.gl (a_cons (d_var 0) a_nil)))) (s_one s_never) s_nil))) v_check_usage
abbrev s_played : Stmt := top 22
abbrev n_played : List Str := ["plan", "usage", "kept", "rows", "units"]
theorem c_played : FnScope n_played ["plan", "usage", "kept"] (defScope s_played) := ⟨rfl, rfl, rfl, by decide +kernel, rfl, by decide +kernel, by decide +kernel⟩
theorem R_played {f_played : Addr} {d_played : FuncData} (T : Glb K mg CA) (D : Def K mg "played" s_played ["plan", "usage", "kept"] f_played d_played) {f_month : Addr} {d_month : FuncData} (D_month : Def K mg "month" s_month ["plan", "kept", "units"] f_month d_month) (R_month : FnR P w0 K mg base CX0 1 f_month (spOf K sp_month)) : FnR P w0 K mg base CX0 2 f_played (spOf K sp_played) :=
  fn_def (w := w_played) (n := 2) D.fn c_played D.bd rfl l_played (fun cdv A outer s H E hr => by have TA := T.TA; exact (s_cons (s_set c_played.nd (i := 3) (d_lstO a_nil)) (s_cons (s_for PassesOwn.never rfl (i_tup (d_var 1)) (g_name (i := 4) c_played.nd) (s_cons (s_expr (d_append (d_var 3) (d_call R_month (hr.mono (by decide)) D_month.fn.kp D_month.gl (a_cons (d_var 0) (a_cons (d_var 2) (a_cons (d_var 4) a_nil)))))) (s_one (s_set c_played.nd (i := 2) (d_ix (d_ix (d_var 3) (d_neg d_int)) d_int))))) (s_one (s_ret (d_var 3)))))) v_played
abbrev s_cost_of : Stmt := top 23
abbrev n_cost_of : List Str := ["plan", "usage", "row"]
theorem c_cost_of : FnScope n_cost_of ["plan", "usage"] (defScope s_cost_of) := ⟨rfl, rfl, rfl, by decide +kernel, rfl, by decide +kernel, by decide +kernel⟩
theorem R_cost_of {f_cost_of : Addr} {d_cost_of : FuncData} (T : Glb K mg CA) (D : Def K mg "cost_of" s_cost_of ["plan", "usage"] f_cost_of d_cost_of) {f_played : Addr} {d_played : FuncData} (D_played : Def K mg "played" s_played ["plan", "usage", "kept"] f_played d_played) (R_played : FnR P w0 K mg base CX0 2 f_played (spOf K sp_played)) : FnR P w0 K mg base CX0 3 f_cost_of (spOf K sp_cost_of) :=
  fn_def (w := w_cost_of) (n := 1) D.fn c_cost_of D.bd rfl l_cost_of (fun cdv A outer s H E hr => by have TA := T.TA; exact (s_one (s_ret (d_callB (cr_sum rfl) okC_sum T.sum bt_sum (a_cons (d_lc (own := [("row", 2)]) rfl c_cost_of.nd (i_lst (d_fz (d_call R_played (hr.mono (by decide)) D_played.fn.kp D_played.gl (a_cons (d_var 0) (a_cons (d_var 1) (a_cons d_int a_nil)))))) (blkOk_by (own := [("row", 2)]) (N := n_cost_of) (sc := defScope s_cost_of) (by decide +kernel)) (gw_name (by decide)) (okG_name 2) (fun _ _ _ _ _ => (g_name (i := 2) c_cost_of.nd)) (fun _ _ _ _ _ => ts_nil) (fun _ _ _ _ _ => (d_ix (d_var 2) d_int))) a_nil))))) v_cost_of
abbrev s_total_cost : Stmt := top 24
abbrev n_total_cost : List Str := ["plan", "usages", "usage"]
theorem c_total_cost : FnScope n_total_cost ["plan", "usages"] (defScope s_total_cost) := ⟨rfl, rfl, rfl, by decide +kernel, rfl, by decide +kernel, by decide +kernel⟩
theorem R_total_cost {f_total_cost : Addr} {d_total_cost : FuncData} (T : Glb K mg CA) (D : DefS K mg "total_cost" s_total_cost ["plan"] "usages" f_total_cost d_total_cost) {f_check_plan : Addr} {d_check_plan : FuncData} (D_check_plan : Def K mg "check_plan" s_check_plan ["value"] f_check_plan d_check_plan) (R_check_plan : FnR P w0 K mg base CX0 3 f_check_plan (spOf K sp_check_plan)) {f_check_usage : Addr} {d_check_usage : FuncData} (D_check_usage : Def K mg "check_usage" s_check_usage ["value"] f_check_usage d_check_usage) (R_check_usage : FnR P w0 K mg base CX0 3 f_check_usage (spOf K sp_check_usage)) {f_cost_of : Addr} {d_cost_of : FuncData} (D_cost_of : Def K mg "cost_of" s_cost_of ["plan", "usage"] f_cost_of d_cost_of) (R_cost_of : FnR P w0 K mg base CX0 3 f_cost_of (spOf K sp_cost_of)) : FnR P w0 K mg base CX0 4 f_total_cost (spOf K (spStar sp_total_cost 1)) :=
  fn_defS (w := w_total_cost) (n := 1) D.fn c_total_cost D.bd rfl l_total_cost (fun cdv A outer s H E hr => by have TA := T.TA; exact (s_cons (s_expr (d_call R_check_plan (hr.mono (by decide)) D_check_plan.fn.kp D_check_plan.gl (a_cons (d_var 0) a_nil))) (s_cons (s_for PassesOwn.never rfl (i_tup (d_var 1)) (g_name (i := 2) c_total_cost.nd) (s_one (s_expr (d_call R_check_usage (hr.mono (by decide)) D_check_usage.fn.kp D_check_usage.gl (a_cons (d_var 2) a_nil))))) (s_one (s_ret (d_callB (cr_sum rfl) okC_sum T.sum bt_sum (a_cons (d_lc (own := [("usage", 2)]) rfl c_total_cost.nd (i_tup (d_var 1)) (blkOk_by (own := [("usage", 2)]) (N := n_total_cost) (sc := defScope s_total_cost) (by decide +kernel)) (gw_name (by decide)) (okG_name 2) (fun _ _ _ _ _ => (g_name (i := 2) c_total_cost.nd)) (fun _ _ _ _ _ => ts_nil) (fun _ _ _ _ _ => (d_call R_cost_of (hr.mono (by decide)) D_cost_of.fn.kp D_cost_of.gl (a_cons (d_var 0) (a_cons (d_var 2) a_nil))))) a_nil))))))) v_total_cost
abbrev s_kept_after : Stmt := top 25
abbrev n_kept_after : List Str := ["plan", "usage", "row"]
theorem c_kept_after : FnScope n_kept_after ["plan", "usage"] (defScope s_kept_after) := ⟨rfl, rfl, rfl, by decide +kernel, rfl, by decide +kernel, by decide +kernel⟩
theorem R_kept_after {f_kept_after : Addr} {d_kept_after : FuncData} (T : Glb K mg CA) (D : Def K mg "kept_after" s_kept_after ["plan", "usage"] f_kept_after d_kept_after) {f_check_plan : Addr} {d_check_plan : FuncData} (D_check_plan : Def K mg "check_plan" s_check_plan ["value"] f_check_plan d_check_plan) (R_check_plan : FnR P w0 K mg base CX0 3 f_check_plan (spOf K sp_check_plan)) {f_check_usage : Addr} {d_check_usage : FuncData} (D_check_usage : Def K mg "check_usage" s_check_usage ["value"] f_check_usage d_check_usage) (R_check_usage : FnR P w0 K mg base CX0 3 f_check_usage (spOf K sp_check_usage)) {f_played : Addr} {d_played : FuncData} (D_played : Def K mg "played" s_played ["plan", "usage", "kept"] f_played d_played) (R_played : FnR P w0 K mg base CX0 2 f_played (spOf K sp_played)) : FnR P w0 K mg base CX0 4 f_kept_after (spOf K sp_kept_after) :=
  fn_def (w := w_kept_after) (n := 1) D.fn c_kept_after D.bd rfl l_kept_after (fun cdv A outer s H E hr => by have TA := T.TA; exact (s_cons (s_expr (d_call R_check_plan (hr.mono (by decide)) D_check_plan.fn.kp D_check_plan.gl (a_cons (d_var 0) a_nil))) (s_cons (s_expr (d_call R_check_usage (hr.mono (by decide)) D_check_usage.fn.kp D_check_usage.gl (a_cons (d_var 1) a_nil))) (s_one (s_ret (d_ix (d_add (d_lst (a_cons d_int a_nil)) (d_lc (own := [("row", 2)]) rfl c_kept_after.nd (i_lst (d_fz (d_call R_played (hr.mono (by decide)) D_played.fn.kp D_played.gl (a_cons (d_var 0) (a_cons (d_var 1) (a_cons d_int a_nil)))))) (blkOk_by (own := [("row", 2)]) (N := n_kept_after) (sc := defScope s_kept_after) (by decide +kernel)) (gw_name (by decide)) (okG_name 2) (fun _ _ _ _ _ => (g_name (i := 2) c_kept_after.nd)) (fun _ _ _ _ _ => ts_nil) (fun _ _ _ _ _ => (d_ix (d_var 2) d_int)))) (d_neg d_int))))))) v_kept_after
abbrev s_lost_units : Stmt := top 26
abbrev n_lost_units : List Str := ["plan", "usage", "row"]
theorem c_lost_units : FnScope n_lost_units ["plan", "usage"] (defScope s_lost_units) := ⟨rfl, rfl, rfl, by decide +kernel, rfl, by decide +kernel, by decide +kernel⟩
theorem R_lost_units {f_lost_units : Addr} {d_lost_units : FuncData} (T : Glb K mg CA) (D : Def K mg "lost_units" s_lost_units ["plan", "usage"] f_lost_units d_lost_units) {f_check_plan : Addr} {d_check_plan : FuncData} (D_check_plan : Def K mg "check_plan" s_check_plan ["value"] f_check_plan d_check_plan) (R_check_plan : FnR P w0 K mg base CX0 3 f_check_plan (spOf K sp_check_plan)) {f_check_usage : Addr} {d_check_usage : FuncData} (D_check_usage : Def K mg "check_usage" s_check_usage ["value"] f_check_usage d_check_usage) (R_check_usage : FnR P w0 K mg base CX0 3 f_check_usage (spOf K sp_check_usage)) {f_played : Addr} {d_played : FuncData} (D_played : Def K mg "played" s_played ["plan", "usage", "kept"] f_played d_played) (R_played : FnR P w0 K mg base CX0 2 f_played (spOf K sp_played)) : FnR P w0 K mg base CX0 4 f_lost_units (spOf K sp_lost_units) :=
  fn_def (w := w_lost_units) (n := 1) D.fn c_lost_units D.bd rfl l_lost_units (fun cdv A outer s H E hr => by have TA := T.TA; exact (s_cons (s_expr (d_call R_check_plan (hr.mono (by decide)) D_check_plan.fn.kp D_check_plan.gl (a_cons (d_var 0) a_nil))) (s_cons (s_expr (d_call R_check_usage (hr.mono (by decide)) D_check_usage.fn.kp D_check_usage.gl (a_cons (d_var 1) a_nil))) (s_one (s_ret (d_callB (cr_sum rfl) okC_sum T.sum bt_sum (a_cons (d_lc (own := [("row", 2)]) rfl c_lost_units.nd (i_lst (d_fz (d_call R_played (hr.mono (by decide)) D_played.fn.kp D_played.gl (a_cons (d_var 0) (a_cons (d_var 1) (a_cons d_int a_nil)))))) (blkOk_by (own := [("row", 2)]) (N := n_lost_units) (sc := defScope s_lost_units) (by decide +kernel)) (gw_name (by decide)) (okG_name 2) (fun _ _ _ _ _ => (g_name (i := 2) c_lost_units.nd)) (fun _ _ _ _ _ => ts_nil) (fun _ _ _ _ _ => (d_ix (d_var 2) d_int))) a_nil))))))) v_lost_units
abbrev s_law : Stmt := top 43
abbrev n_law : List Str := ["_law_script", "_law_bag", "_law_flat", "_law_plan_here", "_law_turn", "_law_usage_here", "_law_units", "_law_run", "_law_states", "_law_twin", "_law_other", "_law_due", "_law_good", "_law_later"]
theorem c_law : FnScope n_law ["_law_script"] (defScope s_law) := ⟨rfl, rfl, rfl, by decide +kernel, rfl, by decide +kernel, by decide +kernel⟩
theorem R_X_law {f : Addr} {fd : FuncData} (T : Glb K mg CA) (D : Fun K "law" "law" s_law f fd) {f_law_bags : Addr} {d_law_bags : FuncData} (D_law_bags : Def K mg "_law_bags" s_law_bags ["_law_script", "_law_most"] f_law_bags d_law_bags) (R_law_bags : FnR P w0 K mg base CX0 2 f_law_bags (spOf K sp_law_bags)) {f_law_plan : Addr} {d_law_plan : FuncData} (D_law_plan : Def K mg "_law_plan" s_law_plan ["_law_bag"] f_law_plan d_law_plan) (R_law_plan : FnR P w0 K mg base CX0 2 f_law_plan (spOf K sp_law_plan)) {f_X_Account_init : Addr} {d_X_Account_init : FuncData} (D_X_Account_init : IniD K CA s_Account_init f_X_Account_init d_X_Account_init) (R_X_Account_init : FnOk P w0 K mg base (L2N.CX P w0) 4 f_X_Account_init d_X_Account_init ["self", "plan"] (spInit K)) {f_law_take : Addr} {d_law_take : FuncData} (D_law_take : Def K mg "_law_take" s_law_take ["_law_bag", "_law_many"] f_law_take d_law_take) (R_law_take : FnR P w0 K mg base CX0 1 f_law_take (spOf K sp_law_take)) {f_law_same : Addr} {d_law_same : FuncData} (D_law_same : Def K mg "_law_same" s_law_same ["_law_a", "_law_b"] f_law_same d_law_same) (R_law_same : FnR P w0 K mg base CX0 5 f_law_same (spOf K sp_law_same)) {f_X_Account_undo : Addr} {d_X_Account_undo : FuncData} (D_X_Account_undo : MetD K CA "undo" "Account.undo" s_Account_undo f_X_Account_undo d_X_Account_undo) (R_X_Account_undo : FnR P w0 K mg base (L2N.CX P w0) 1 f_X_Account_undo (spX K (tabsB K false) sx_Account_undo)) {f_X_law_step : Addr} {d_X_law_step : FuncData} (D_X_law_step : Def K mg "_law_step" s_law_step ["_law_bag", "_law_run", "_law_state"] f_X_law_step d_X_law_step) (R_X_law_step : FnR P w0 K mg base (L2N.CX P w0) 8 f_X_law_step (spX K (tabsB K true) sx_law_step)) {f_law_right : Addr} {d_law_right : FuncData} (D_law_right : Def K mg "_law_right" s_law_right ["_law_run", "_law_state"] f_law_right d_law_right) (R_law_right : FnR P w0 K mg base CX0 6 f_law_right (spOf K sp_law_right)) {f_law_usage : Addr} {d_law_usage : FuncData} (D_law_usage : Def K mg "_law_usage" s_law_usage ["_law_bag", "_law_most", "_law_plan_here"] f_law_usage d_law_usage) (R_law_usage : FnR P w0 K mg base CX0 2 f_law_usage (spOf K sp_law_usage)) {f_X_Account_use : Addr} {d_X_Account_use : FuncData} (D_X_Account_use : MetS K CA "use" "Account.use" s_Account_use "units" f_X_Account_use d_X_Account_use) (R_X_Account_use : FnR P w0 K mg base (L2N.CX P w0) 2 f_X_Account_use (spX K (tabsB K false) (spStarX sx_Account_use 1))) {f_Account_eq : Addr} {d_Account_eq : FuncData} (D_Account_eq : MetD K CA "__eq__" "Account.__eq__" s_Account_eq f_Account_eq d_Account_eq) (R_Account_eq : FnR P w0 K mg base CX0 1 f_Account_eq (spOf K sp_Account_eq)) {p_Account_paid f_Account_paid : Addr} {d_Account_paid : FuncData} (D_Account_paid : PrpD K CA "paid" "Account.paid" s_Account_paid p_Account_paid f_Account_paid d_Account_paid) (R_Account_paid : FnOk P w0 K mg base CX0 1 f_Account_paid d_Account_paid ["self"] (spOf K sp_Account_paid)) {f_total_cost : Addr} {d_total_cost : FuncData} (D_total_cost : DefS K mg "total_cost" s_total_cost ["plan"] "usages" f_total_cost d_total_cost) (R_total_cost : FnR P w0 K mg base CX0 4 f_total_cost (spOf K (spStar sp_total_cost 1))) {p_Account_kept f_Account_kept : Addr} {d_Account_kept : FuncData} (D_Account_kept : PrpD K CA "kept" "Account.kept" s_Account_kept p_Account_kept f_Account_kept d_Account_kept) (R_Account_kept : FnOk P w0 K mg base CX0 1 f_Account_kept d_Account_kept ["self"] (spOf K sp_Account_kept)) {f_kept_after : Addr} {d_kept_after : FuncData} (D_kept_after : Def K mg "kept_after" s_kept_after ["plan", "usage"] f_kept_after d_kept_after) (R_kept_after : FnR P w0 K mg base CX0 4 f_kept_after (spOf K sp_kept_after)) {p_Account_lost f_Account_lost : Addr} {d_Account_lost : FuncData} (D_Account_lost : PrpD K CA "lost" "Account.lost" s_Account_lost p_Account_lost f_Account_lost d_Account_lost) (R_Account_lost : FnOk P w0 K mg base CX0 1 f_Account_lost d_Account_lost ["self"] (spOf K sp_Account_lost)) {f_lost_units : Addr} {d_lost_units : FuncData} (D_lost_units : Def K mg "lost_units" s_lost_units ["plan", "usage"] f_lost_units d_lost_units) (R_lost_units : FnR P w0 K mg base CX0 4 f_lost_units (spOf K sp_lost_units)) {p_Account_plan f_Account_plan : Addr} {d_Account_plan : FuncData} (D_Account_plan : PrpD K CA "plan" "Account.plan" s_Account_plan p_Account_plan f_Account_plan d_Account_plan) (R_Account_plan : FnOk P w0 K mg base CX0 1 f_Account_plan d_Account_plan ["self"] (spOf K sp_Account_plan)) {f_Account_bool : Addr} {d_Account_bool : FuncData} (D_Account_bool : MetD K CA "__bool__" "Account.__bool__" s_Account_bool f_Account_bool d_Account_bool) (R_Account_bool : FnR P w0 K mg base CX0 1 f_Account_bool (spOf K sp_Account_bool)) {g_flat : Addr} {d_flat0 : FuncData} (FLT : FltD K CA s_Account_flat g_flat d_flat0) (R_flat : FnR P w0 K mg base (L2N.CX P w0) 6 g_flat (spFlat CA (spInit K))) {g_out e_out : Addr} {d_out d_err : FuncData} (OUT : LZ.OutD K mg s_law_outcome s_law_error g_out e_out d_out d_err) (ERL : ErL K mg errL) {cT PT : Addr} (hns : PySem.W.nsIn K mainGlobals "law" = some (some (.ref f))) (htab : PySem.W.tabIn K "law" = some (cT, PT)) (TB : LamX.TabB base mg cT PT) (hmT : (PT, (("law" : Str) ++ ".<locals>.") ++ "<lambda>") ∈ tabsK K) (huT : ∀ p ∈ tabsK K, p.1 = PT → p.2 = (("law" : Str) ++ ".<locals>.") ++ "<lambda>") : FnOk P w0 K mg base (L2N.CX P w0) 9 f fd ["_law_script"] (spX K (tabsB K true) sx_law) :=
  fn_okXc (t := true) (w := w_X_law) (n := 13) D hns htab c_law rfl l_X_law T.nt (fun A outer s H E hr => by have TA := T.TA; exact (s_cons (s_forB (i := 1) (L2.passes_of rfl) rfl c_law.nd (d_call R_law_bags (hr.mono (by decide)) D_law_bags.fn.kp D_law_bags.gl (a_cons (d_var 0) (a_cons d_int a_nil))) (s_cons (s_set c_law.nd (i := 3) (d_call R_law_plan (hr.mono (by decide)) D_law_plan.fn.kp D_law_plan.gl (a_cons (d_var 1) a_nil))) (s_cons (s_parC c_law.nd (i := 7) (j := 8) (a_cons (d_make TA D_X_Account_init.mkr R_X_Account_init D_X_Account_init.bd (passN (L2N.takes_of rfl rfl rfl rfl)) (hr.mono (by decide)) (a_cons (d_var 3) a_nil)) (a_cons (d_lst (a_cons (d_tup (a_cons (d_var 3) (a_cons (d_tup a_nil) (a_cons d_int (a_cons d_int (a_cons d_int a_nil)))))) a_nil)) a_nil))) (s_cons (s_for (L2.passes_of rfl) rfl (i_r1 T.range (a_cons d_int a_nil)) (g_name (i := 4) c_law.nd) (s_cons (s_if (t_eq hr (d_call R_law_take (hr.mono (by decide)) D_law_take.fn.kp D_law_take.gl (a_cons (d_var 1) (a_cons d_int a_nil))) d_int) (s_cons (s_set c_law.nd (i := 11) (d_if (t_gt (d_callB call_len_seq okC_len T.len bt_len (a_cons (d_var 8) a_nil)) d_int) (d_tup (a_cons d_str (a_cons d_non a_nil))) (d_tup (a_cons d_str a_nil)))) (s_cons (s_set c_law.nd (i := 12) (d_call R_law_same (hr.mono (by decide)) D_law_same.fn.kp D_law_same.gl (a_cons (d_outcome (k := 5) (L := errL) OUT ERL T.nt TB hmT huT (hr.mono (by decide)) (fun A outer s H E1 f cc hr => (d_methX0 TA R_X_Account_undo D_X_Account_undo.mt (passN (L2N.takes_of rfl rfl rfl rfl)) (hr.mono (by decide)) (d_var 7)))) (a_cons (d_var 11) a_nil)))) (s_one (s_set c_law.nd (i := 8) (d_sl (d_var 8) o_none (o_some (d_callB (call_max2 rfl) okC_max2 T.max bt_max (a_cons d_int (a_cons (d_sub (d_callB call_len_seq okC_len T.len bt_len (a_cons (d_var 8) a_nil)) d_int) a_nil))))))))) (s_cons (s_asg (d_callX R_X_law_step (passN (L2N.takes_of rfl rfl rfl rfl)) (hr.mono (by decide)) D_X_law_step.fn.kp D_X_law_step.gl (a_cons (d_var 1) (a_cons (d_var 7) (a_cons (d_ix (d_var 8) (d_neg d_int)) a_nil)))) (g_tup rfl (gl_cons (g_name (i := 12) c_law.nd) (gl_cons (g_name (i := 13) c_law.nd) gl_nil)))) (s_one (s_set c_law.nd (i := 8) (d_add (d_var 8) (d_var 13)))))) (s_one (s_if (t_w (tw_or (t_not (t_val (d_var 12))) (tw_or1 (t_not (t_val (d_call R_law_right (hr.mono (by decide)) D_law_right.fn.kp D_law_right.gl (a_cons (d_var 7) (a_cons (d_ix (d_var 8) (d_neg d_int)) a_nil)))))))) (s_one (s_ret d_bl)) s_nil)))) (s_cons (s_set c_law.nd (i := 5) (d_call R_law_usage (hr.mono (by decide)) D_law_usage.fn.kp D_law_usage.gl (a_cons (d_var 1) (a_cons d_int (a_cons (d_var 3) a_nil))))) (s_cons (s_par c_law.nd (i := 9) (j := 10) (a_cons (d_make TA D_X_Account_init.mkr R_X_Account_init D_X_Account_init.bd (passN (L2N.takes_of rfl rfl rfl rfl)) (hr.mono (by decide)) (a_cons (d_var 3) a_nil)) (a_cons (d_make TA D_X_Account_init.mkr R_X_Account_init D_X_Account_init.bd (passN (L2N.takes_of rfl rfl rfl rfl)) (hr.mono (by decide)) (a_cons (d_var 3) a_nil)) a_nil))) (s_cons (s_for (L2.passes_of rfl) rfl (i_tup (d_var 5)) (g_name (i := 6) c_law.nd) (s_cons (s_expr (d_methX TA R_X_Account_use D_X_Account_use.mt (passN (L2N.takes_of rfl rfl rfl rfl)) (hr.mono (by decide)) (d_var 9) (a_cons (d_var 6) a_nil))) (s_one (s_expr (d_methX TA R_X_Account_use D_X_Account_use.mt (passN (L2N.takes_of rfl rfl rfl rfl)) (hr.mono (by decide)) (d_var 10) (a_cons (d_var 6) a_nil)))))) (s_cons (s_if (t_w (tw_or (t_not (t_eqA TA T.AI R_Account_eq D_Account_eq.mt (hr.mono (by decide)) (d_var 9) (d_var 10))) (tw_or (t_ne hr (d_prop TA D_Account_paid R_Account_paid (hr.mono (by decide)) (d_var 9)) (d_call R_total_cost (hr.mono (by decide)) D_total_cost.fn.kp D_total_cost.gl (a_cons (d_var 3) (a_cons (d_var 5) a_nil)))) (tw_or1 (t_eqA TA T.AI R_Account_eq D_Account_eq.mt (hr.mono (by decide)) (d_var 9) (d_var 3)))))) (s_one (s_ret d_bl)) s_nil) (s_cons (s_expr (d_methX TA R_X_Account_use D_X_Account_use.mt (passN (L2N.takes_of rfl rfl rfl rfl)) (hr.mono (by decide)) (d_var 10) (a_cons d_int a_nil))) (s_one (s_if (t_w (tw_or (t_eqA TA T.AI R_Account_eq D_Account_eq.mt (hr.mono (by decide)) (d_var 9) (d_var 10)) (tw_or (t_ne hr (d_prop TA D_Account_kept R_Account_kept (hr.mono (by decide)) (d_var 9)) (d_call R_kept_after (hr.mono (by decide)) D_kept_after.fn.kp D_kept_after.gl (a_cons (d_var 3) (a_cons (d_var 5) a_nil)))) (tw_or1 (t_ne hr (d_prop TA D_Account_lost R_Account_lost (hr.mono (by decide)) (d_var 9)) (d_call R_lost_units (hr.mono (by decide)) D_lost_units.fn.kp D_lost_units.gl (a_cons (d_var 3) (a_cons (d_var 5) a_nil)))))))) (s_one (s_ret d_bl)) s_nil))))))))))) (s_cons (s_set c_law.nd (i := 2) (d_flat TA FLT R_flat (passN (L2N.takes_of rfl rfl rfl rfl)) (hr.mono (by decide)) d_int)) (s_one (s_ret (d_and (d_eq hr (d_methX TA R_X_Account_use D_X_Account_use.mt (passN (L2N.takes_of rfl rfl rfl rfl)) (hr.mono (by decide)) (d_var 2) (a_cons d_int (a_cons d_int a_nil))) d_int) (d_and (d_eq hr (d_prop TA D_Account_plan R_Account_plan (hr.mono (by decide)) (d_var 2)) (d_tup (a_cons d_int (a_cons d_int (a_cons d_int (a_cons d_int a_nil)))))) (d_and (d_eq hr (d_clsC TA T.CM) d_int) (d_one (d_notA TA R_Account_bool D_Account_bool.mt (hr.mono (by decide)) (d_var 2))))))))))) v_X_law
end
theorem all_mk {l : PySem.W.OpenLaw} {w0 : World} {K : PySem.W.Frag} {h : Heap} {mg : Str → Option Value} {fa CA f0 f1 f2 f3 f4 f5 f6 f7 f8 f9 f10 f11 f12 f13 f14 f15 f16 f17 f18 f19 f20 f21 f22 f23 f24 f25 f26 f27 f28 f29 f30 f31 f32 f33 f34 f35 f36 p18 p19 p20 p21 p22  x_PlanError x_InvalidPlan x_InvalidUsage x_InvalidMenu x_InvalidBills x_InvalidNumber x_TooMany x_NothingToUndo cT PT cT_1 PT_1 : Addr} (X : K.In h) (G : h.Ns mainGlobals mg) (hfa : mg "law" = some (.ref fa))
    {od0 od1 od2 od3 od4 od5 od6 od7 od8 od9 od10 od11 od12 od13 od14 od15 od16 od17 od18 od19 od20 od21 od22 od23 od24 od25 od26 od27 od28 od29 od30 od31 od32 od33 od34 od35 od36 an0 an1 an2 an3 an4 an5 an6 an7 an8 an9 an10 an11 an12 an13 an14 an15 an16 an17 an18 an19 an20 an21 an22 an23 an24 an25 an26 an27 an28 an29 an30 an31 an32 an33 an34 an35 an36 : Option Addr} {sl0 sl1 sl2 sl3 sl4 sl5 sl6 sl7 sl8 sl9 sl10 sl11 sl12 sl13 sl14 sl15 sl16 sl17 sl18 sl19 sl20 sl21 sl22 sl23 sl24 sl25 sl26 sl27 sl28 sl29 sl30 sl31 sl32 sl33 sl34 sl35 sl36 : Array (Option Value)} {oc0 kV0 dc0 pm0 cd0 ct0 oc1 kV1 dc1 pm1 cd1 ct1 oc2 kV2 dc2 pm2 cd2 ct2 oc3 kV3 dc3 pm3 cd3 ct3 oc4 kV4 dc4 pm4 cd4 ct4 oc5 kV5 dc5 pm5 cd5 ct5 oc6 kV6 dc6 pm6 cd6 ct6 oc7 kV7 dc7 pm7 cd7 ct7 oc8 kV8 dc8 pm8 cd8 ct8 oc9 kV9 dc9 pm9 cd9 ct9 oc10 kV10 dc10 pm10 cd10 ct10 oc11 kV11 dc11 pm11 cd11 ct11 oc12 kV12 dc12 pm12 cd12 ct12 oc13 kV13 dc13 pm13 cd13 ct13 oc14 kV14 dc14 pm14 cd14 ct14 oc15 kV15 dc15 pm15 cd15 ct15 oc16 kV16 dc16 pm16 cd16 ct16 oc17 kV17 dc17 pm17 cd17 ct17 oc18 kV18 dc18 pm18 cd18 ct18 oc19 kV19 dc19 pm19 cd19 ct19 oc20 kV20 dc20 pm20 cd20 ct20 oc21 kV21 dc21 pm21 cd21 ct21 oc22 kV22 dc22 pm22 cd22 ct22 oc23 kV23 dc23 pm23 cd23 ct23 oc24 kV24 dc24 pm24 cd24 ct24 oc25 kV25 dc25 pm25 cd25 ct25 oc26 kV26 dc26 pm26 cd26 ct26 oc27 kV27 dc27 pm27 cd27 ct27 oc28 kV28 dc28 pm28 cd28 ct28 oc29 kV29 dc29 pm29 cd29 ct29 oc30 kV30 dc30 pm30 cd30 ct30 oc31 kV31 dc31 pm31 cd31 ct31 oc32 kV32 dc32 pm32 cd32 ct32 oc33 kV33 dc33 pm33 cd33 ct33 oc34 kV34 dc34 pm34 cd34 ct34 oc35 kV35 dc35 pm35 cd35 ct35 oc36 kV36 dc36 pm36 cd36 ct36 : Value} {rs18 rs19 rs20 rs21 rs22 : List Value}
    (a0 : PySem.W.nsIn K mainGlobals "_law_well" = some (some (.ref f0)))
    (l0 : K.lookup f0 = some ⟨oc0, od0, .func (PySem.W.fnOf "_law_well" "_law_well" (defArgs s_law_well) (defBody s_law_well) (defScope s_law_well) .none kV0 dc0 pm0 an0 cd0 ct0), sl0⟩)
    (c0 : PySem.W.codeIn K cd0 "_law_well" = true)
    (k0 : PySem.W.keepIn K (.ref f0) = true)
    (a1 : PySem.W.nsIn K mainGlobals "_law_bags" = some (some (.ref f1)))
    (l1 : K.lookup f1 = some ⟨oc1, od1, .func (PySem.W.fnOf "_law_bags" "_law_bags" (defArgs s_law_bags) (defBody s_law_bags) (defScope s_law_bags) .none kV1 dc1 pm1 an1 cd1 ct1), sl1⟩)
    (c1 : PySem.W.codeIn K cd1 "_law_bags" = true)
    (k1 : PySem.W.keepIn K (.ref f1) = true)
    (a2 : PySem.W.nsIn K mainGlobals "_law_take" = some (some (.ref f2)))
    (l2 : K.lookup f2 = some ⟨oc2, od2, .func (PySem.W.fnOf "_law_take" "_law_take" (defArgs s_law_take) (defBody s_law_take) (defScope s_law_take) .none kV2 dc2 pm2 an2 cd2 ct2), sl2⟩)
    (c2 : PySem.W.codeIn K cd2 "_law_take" = true)
    (k2 : PySem.W.keepIn K (.ref f2) = true)
    (a3 : PySem.W.nsIn K mainGlobals "_law_plan" = some (some (.ref f3)))
    (l3 : K.lookup f3 = some ⟨oc3, od3, .func (PySem.W.fnOf "_law_plan" "_law_plan" (defArgs s_law_plan) (defBody s_law_plan) (defScope s_law_plan) .none kV3 dc3 pm3 an3 cd3 ct3), sl3⟩)
    (c3 : PySem.W.codeIn K cd3 "_law_plan" = true)
    (k3 : PySem.W.keepIn K (.ref f3) = true)
    (a4 : PySem.W.nsIn K mainGlobals "in_range" = some (some (.ref f4)))
    (l4 : K.lookup f4 = some ⟨oc4, od4, .func (PySem.W.fnOf "in_range" "in_range" (defArgs s_in_range) (defBody s_in_range) (defScope s_in_range) .none kV4 dc4 pm4 an4 cd4 ct4), sl4⟩)
    (c4 : PySem.W.codeIn K cd4 "in_range" = true)
    (k4 : PySem.W.keepIn K (.ref f4) = true)
    (a5 : PySem.W.nsIn K mainGlobals "is_plan" = some (some (.ref f5)))
    (l5 : K.lookup f5 = some ⟨oc5, od5, .func (PySem.W.fnOf "is_plan" "is_plan" (defArgs s_is_plan) (defBody s_is_plan) (defScope s_is_plan) .none kV5 dc5 pm5 an5 cd5 ct5), sl5⟩)
    (c5 : PySem.W.codeIn K cd5 "is_plan" = true)
    (k5 : PySem.W.keepIn K (.ref f5) = true)
    (a6 : PySem.W.nsIn K mainGlobals "check_plan" = some (some (.ref f6)))
    (l6 : K.lookup f6 = some ⟨oc6, od6, .func (PySem.W.fnOf "check_plan" "check_plan" (defArgs s_check_plan) (defBody s_check_plan) (defScope s_check_plan) .none kV6 dc6 pm6 an6 cd6 ct6), sl6⟩)
    (c6 : PySem.W.codeIn K cd6 "check_plan" = true)
    (k6 : PySem.W.keepIn K (.ref f6) = true)
    (a7 : PySem.W.findIn K (.ref CA) "__init__" = some (some (.ref f7)))
    (i7 : PySem.W.isFn K (.ref f7) = true)
    (l7 : K.lookup f7 = some ⟨oc7, od7, .func (PySem.W.fnOf "__init__" "Account.__init__" (defArgs s_Account_init) (defBody s_Account_init) (defScope s_Account_init) .none kV7 dc7 pm7 an7 cd7 ct7), sl7⟩)
    (c7 : PySem.W.codeIn K cd7 "Account.__init__" = true)
    (k7 : PySem.W.keepIn K (.ref f7) = true)
    (a8 : PySem.W.nsIn K mainGlobals "_law_same" = some (some (.ref f8)))
    (l8 : K.lookup f8 = some ⟨oc8, od8, .func (PySem.W.fnOf "_law_same" "_law_same" (defArgs s_law_same) (defBody s_law_same) (defScope s_law_same) .none kV8 dc8 pm8 an8 cd8 ct8), sl8⟩)
    (c8 : PySem.W.codeIn K cd8 "_law_same" = true)
    (k8 : PySem.W.keepIn K (.ref f8) = true)
    (a9 : PySem.W.findIn K (.ref CA) "undo" = some (some (.ref f9)))
    (i9 : PySem.W.isFn K (.ref f9) = true)
    (l9 : K.lookup f9 = some ⟨oc9, od9, .func (PySem.W.fnOf "undo" "Account.undo" (defArgs s_Account_undo) (defBody s_Account_undo) (defScope s_Account_undo) .none kV9 dc9 pm9 an9 cd9 ct9), sl9⟩)
    (c9 : PySem.W.codeIn K cd9 "Account.undo" = true)
    (k9 : PySem.W.keepIn K (.ref f9) = true)
    (a10 : PySem.W.nsIn K mainGlobals "_law_usage" = some (some (.ref f10)))
    (l10 : K.lookup f10 = some ⟨oc10, od10, .func (PySem.W.fnOf "_law_usage" "_law_usage" (defArgs s_law_usage) (defBody s_law_usage) (defScope s_law_usage) .none kV10 dc10 pm10 an10 cd10 ct10), sl10⟩)
    (c10 : PySem.W.codeIn K cd10 "_law_usage" = true)
    (k10 : PySem.W.keepIn K (.ref f10) = true)
    (a11 : PySem.W.nsIn K mainGlobals "month" = some (some (.ref f11)))
    (l11 : K.lookup f11 = some ⟨oc11, od11, .func (PySem.W.fnOf "month" "month" (defArgs s_month) (defBody s_month) (defScope s_month) .none kV11 dc11 pm11 an11 cd11 ct11), sl11⟩)
    (c11 : PySem.W.codeIn K cd11 "month" = true)
    (k11 : PySem.W.keepIn K (.ref f11) = true)
    (a12 : PySem.W.findIn K (.ref CA) "use" = some (some (.ref f12)))
    (i12 : PySem.W.isFn K (.ref f12) = true)
    (l12 : K.lookup f12 = some ⟨oc12, od12, .func (PySem.W.fnOf "use" "Account.use" (defArgs s_Account_use) (defBody s_Account_use) (defScope s_Account_use) .none kV12 dc12 pm12 an12 cd12 ct12), sl12⟩)
    (c12 : PySem.W.codeIn K cd12 "Account.use" = true)
    (k12 : PySem.W.keepIn K (.ref f12) = true)
    (a13 : PySem.W.nsIn K mainGlobals "_law_use" = some (some (.ref f13)))
    (l13 : K.lookup f13 = some ⟨oc13, od13, .func (PySem.W.fnOf "_law_use" "_law_use" (defArgs s_law_use) (defBody s_law_use) (defScope s_law_use) .none kV13 dc13 pm13 an13 cd13 ct13), sl13⟩)
    (c13 : PySem.W.codeIn K cd13 "_law_use" = true)
    (k13 : PySem.W.keepIn K (.ref f13) = true)
    (a14 : PySem.W.nsIn K mainGlobals "_law_months" = some (some (.ref f14)))
    (l14 : K.lookup f14 = some ⟨oc14, od14, .func (PySem.W.fnOf "_law_months" "_law_months" (defArgs s_law_months) (defBody s_law_months) (defScope s_law_months) .none kV14 dc14 pm14 an14 cd14 ct14), sl14⟩)
    (c14 : PySem.W.codeIn K cd14 "_law_months" = true)
    (k14 : PySem.W.keepIn K (.ref f14) = true)
    (a15 : PySem.W.nsIn K mainGlobals "_law_near" = some (some (.ref f15)))
    (l15 : K.lookup f15 = some ⟨oc15, od15, .func (PySem.W.fnOf "_law_near" "_law_near" (defArgs s_law_near) (defBody s_law_near) (defScope s_law_near) .none kV15 dc15 pm15 an15 cd15 ct15), sl15⟩)
    (c15 : PySem.W.codeIn K cd15 "_law_near" = true)
    (k15 : PySem.W.keepIn K (.ref f15) = true)
    (a16 : PySem.W.findIn K (.ref CA) "change" = some (some (.ref f16)))
    (i16 : PySem.W.isFn K (.ref f16) = true)
    (l16 : K.lookup f16 = some ⟨oc16, od16, .func (PySem.W.fnOf "change" "Account.change" (defArgs s_Account_change) (defBody s_Account_change) (defScope s_Account_change) .none kV16 dc16 pm16 an16 cd16 ct16), sl16⟩)
    (c16 : PySem.W.codeIn K cd16 "Account.change" = true)
    (k16 : PySem.W.keepIn K (.ref f16) = true)
    (a17 : PySem.W.nsIn K mainGlobals "_law_step" = some (some (.ref f17)))
    (l17 : K.lookup f17 = some ⟨oc17, od17, .func (PySem.W.fnOf "_law_step" "_law_step" (defArgs s_law_step) (defBody s_law_step) (defScope s_law_step) .none kV17 dc17 pm17 an17 cd17 ct17), sl17⟩)
    (c17 : PySem.W.codeIn K cd17 "_law_step" = true)
    (k17 : PySem.W.keepIn K (.ref f17) = true)
    (a18 : PySem.W.findIn K (.ref CA) "lost" = some (some (.ref p18)))
    (g18 : PySem.W.specialIn K (.ref p18) "__get__" = some (some (.builtin "property.__get__")))
    (t18 : PySem.W.takesIn K (.ref p18) = some true)
    (r18 : PySem.W.recIn K p18 "property" = some (.ref f18 :: rs18))
    (l18 : K.lookup f18 = some ⟨oc18, od18, .func (PySem.W.fnOf "lost" "Account.lost" (defArgs s_Account_lost) (defBody s_Account_lost) (defScope s_Account_lost) .none kV18 dc18 pm18 an18 cd18 ct18), sl18⟩)
    (c18 : PySem.W.codeIn K cd18 "Account.lost" = true)
    (k18 : PySem.W.keepIn K (.ref f18) = true)
    (a19 : PySem.W.findIn K (.ref CA) "kept" = some (some (.ref p19)))
    (g19 : PySem.W.specialIn K (.ref p19) "__get__" = some (some (.builtin "property.__get__")))
    (t19 : PySem.W.takesIn K (.ref p19) = some true)
    (r19 : PySem.W.recIn K p19 "property" = some (.ref f19 :: rs19))
    (l19 : K.lookup f19 = some ⟨oc19, od19, .func (PySem.W.fnOf "kept" "Account.kept" (defArgs s_Account_kept) (defBody s_Account_kept) (defScope s_Account_kept) .none kV19 dc19 pm19 an19 cd19 ct19), sl19⟩)
    (c19 : PySem.W.codeIn K cd19 "Account.kept" = true)
    (k19 : PySem.W.keepIn K (.ref f19) = true)
    (a20 : PySem.W.findIn K (.ref CA) "paid" = some (some (.ref p20)))
    (g20 : PySem.W.specialIn K (.ref p20) "__get__" = some (some (.builtin "property.__get__")))
    (t20 : PySem.W.takesIn K (.ref p20) = some true)
    (r20 : PySem.W.recIn K p20 "property" = some (.ref f20 :: rs20))
    (l20 : K.lookup f20 = some ⟨oc20, od20, .func (PySem.W.fnOf "paid" "Account.paid" (defArgs s_Account_paid) (defBody s_Account_paid) (defScope s_Account_paid) .none kV20 dc20 pm20 an20 cd20 ct20), sl20⟩)
    (c20 : PySem.W.codeIn K cd20 "Account.paid" = true)
    (k20 : PySem.W.keepIn K (.ref f20) = true)
    (a21 : PySem.W.findIn K (.ref CA) "used" = some (some (.ref p21)))
    (g21 : PySem.W.specialIn K (.ref p21) "__get__" = some (some (.builtin "property.__get__")))
    (t21 : PySem.W.takesIn K (.ref p21) = some true)
    (r21 : PySem.W.recIn K p21 "property" = some (.ref f21 :: rs21))
    (l21 : K.lookup f21 = some ⟨oc21, od21, .func (PySem.W.fnOf "used" "Account.used" (defArgs s_Account_used) (defBody s_Account_used) (defScope s_Account_used) .none kV21 dc21 pm21 an21 cd21 ct21), sl21⟩)
    (c21 : PySem.W.codeIn K cd21 "Account.used" = true)
    (k21 : PySem.W.keepIn K (.ref f21) = true)
    (a22 : PySem.W.findIn K (.ref CA) "plan" = some (some (.ref p22)))
    (g22 : PySem.W.specialIn K (.ref p22) "__get__" = some (some (.builtin "property.__get__")))
    (t22 : PySem.W.takesIn K (.ref p22) = some true)
    (r22 : PySem.W.recIn K p22 "property" = some (.ref f22 :: rs22))
    (l22 : K.lookup f22 = some ⟨oc22, od22, .func (PySem.W.fnOf "plan" "Account.plan" (defArgs s_Account_plan) (defBody s_Account_plan) (defScope s_Account_plan) .none kV22 dc22 pm22 an22 cd22 ct22), sl22⟩)
    (c22 : PySem.W.codeIn K cd22 "Account.plan" = true)
    (k22 : PySem.W.keepIn K (.ref f22) = true)
    (a23 : PySem.W.findIn K (.ref CA) "__bool__" = some (some (.ref f23)))
    (i23 : PySem.W.isFn K (.ref f23) = true)
    (l23 : K.lookup f23 = some ⟨oc23, od23, .func (PySem.W.fnOf "__bool__" "Account.__bool__" (defArgs s_Account_bool) (defBody s_Account_bool) (defScope s_Account_bool) .none kV23 dc23 pm23 an23 cd23 ct23), sl23⟩)
    (c23 : PySem.W.codeIn K cd23 "Account.__bool__" = true)
    (k23 : PySem.W.keepIn K (.ref f23) = true)
    (a24 : PySem.W.findIn K (.ref CA) "__len__" = some (some (.ref f24)))
    (i24 : PySem.W.isFn K (.ref f24) = true)
    (l24 : K.lookup f24 = some ⟨oc24, od24, .func (PySem.W.fnOf "__len__" "Account.__len__" (defArgs s_Account_len) (defBody s_Account_len) (defScope s_Account_len) .none kV24 dc24 pm24 an24 cd24 ct24), sl24⟩)
    (c24 : PySem.W.codeIn K cd24 "Account.__len__" = true)
    (k24 : PySem.W.keepIn K (.ref f24) = true)
    (a25 : PySem.W.nsIn K mainGlobals "_law_right" = some (some (.ref f25)))
    (l25 : K.lookup f25 = some ⟨oc25, od25, .func (PySem.W.fnOf "_law_right" "_law_right" (defArgs s_law_right) (defBody s_law_right) (defScope s_law_right) .none kV25 dc25 pm25 an25 cd25 ct25), sl25⟩)
    (c25 : PySem.W.codeIn K cd25 "_law_right" = true)
    (k25 : PySem.W.keepIn K (.ref f25) = true)
    (a26 : PySem.W.findIn K (.ref CA) "__eq__" = some (some (.ref f26)))
    (i26 : PySem.W.isFn K (.ref f26) = true)
    (l26 : K.lookup f26 = some ⟨oc26, od26, .func (PySem.W.fnOf "__eq__" "Account.__eq__" (defArgs s_Account_eq) (defBody s_Account_eq) (defScope s_Account_eq) .none kV26 dc26 pm26 an26 cd26 ct26), sl26⟩)
    (c26 : PySem.W.codeIn K cd26 "Account.__eq__" = true)
    (k26 : PySem.W.keepIn K (.ref f26) = true)
    (a27 : PySem.W.nsIn K mainGlobals "is_usage" = some (some (.ref f27)))
    (l27 : K.lookup f27 = some ⟨oc27, od27, .func (PySem.W.fnOf "is_usage" "is_usage" (defArgs s_is_usage) (defBody s_is_usage) (defScope s_is_usage) .none kV27 dc27 pm27 an27 cd27 ct27), sl27⟩)
    (c27 : PySem.W.codeIn K cd27 "is_usage" = true)
    (k27 : PySem.W.keepIn K (.ref f27) = true)
    (a28 : PySem.W.nsIn K mainGlobals "check_usage" = some (some (.ref f28)))
    (l28 : K.lookup f28 = some ⟨oc28, od28, .func (PySem.W.fnOf "check_usage" "check_usage" (defArgs s_check_usage) (defBody s_check_usage) (defScope s_check_usage) .none kV28 dc28 pm28 an28 cd28 ct28), sl28⟩)
    (c28 : PySem.W.codeIn K cd28 "check_usage" = true)
    (k28 : PySem.W.keepIn K (.ref f28) = true)
    (a29 : PySem.W.nsIn K mainGlobals "played" = some (some (.ref f29)))
    (l29 : K.lookup f29 = some ⟨oc29, od29, .func (PySem.W.fnOf "played" "played" (defArgs s_played) (defBody s_played) (defScope s_played) .none kV29 dc29 pm29 an29 cd29 ct29), sl29⟩)
    (c29 : PySem.W.codeIn K cd29 "played" = true)
    (k29 : PySem.W.keepIn K (.ref f29) = true)
    (a30 : PySem.W.nsIn K mainGlobals "cost_of" = some (some (.ref f30)))
    (l30 : K.lookup f30 = some ⟨oc30, od30, .func (PySem.W.fnOf "cost_of" "cost_of" (defArgs s_cost_of) (defBody s_cost_of) (defScope s_cost_of) .none kV30 dc30 pm30 an30 cd30 ct30), sl30⟩)
    (c30 : PySem.W.codeIn K cd30 "cost_of" = true)
    (k30 : PySem.W.keepIn K (.ref f30) = true)
    (a31 : PySem.W.nsIn K mainGlobals "total_cost" = some (some (.ref f31)))
    (l31 : K.lookup f31 = some ⟨oc31, od31, .func (PySem.W.fnOf "total_cost" "total_cost" (defArgs s_total_cost) (defBody s_total_cost) (defScope s_total_cost) .none kV31 dc31 pm31 an31 cd31 ct31), sl31⟩)
    (c31 : PySem.W.codeIn K cd31 "total_cost" = true)
    (k31 : PySem.W.keepIn K (.ref f31) = true)
    (a32 : PySem.W.nsIn K mainGlobals "kept_after" = some (some (.ref f32)))
    (l32 : K.lookup f32 = some ⟨oc32, od32, .func (PySem.W.fnOf "kept_after" "kept_after" (defArgs s_kept_after) (defBody s_kept_after) (defScope s_kept_after) .none kV32 dc32 pm32 an32 cd32 ct32), sl32⟩)
    (c32 : PySem.W.codeIn K cd32 "kept_after" = true)
    (k32 : PySem.W.keepIn K (.ref f32) = true)
    (a33 : PySem.W.nsIn K mainGlobals "lost_units" = some (some (.ref f33)))
    (l33 : K.lookup f33 = some ⟨oc33, od33, .func (PySem.W.fnOf "lost_units" "lost_units" (defArgs s_lost_units) (defBody s_lost_units) (defScope s_lost_units) .none kV33 dc33 pm33 an33 cd33 ct33), sl33⟩)
    (c33 : PySem.W.codeIn K cd33 "lost_units" = true)
    (k33 : PySem.W.keepIn K (.ref f33) = true)
    (a34 : PySem.W.nsIn K mainGlobals "law" = some (some (.ref f34)))
    (l34 : K.lookup f34 = some ⟨oc34, od34, .func (PySem.W.fnOf "law" "law" (defArgs s_law) (defBody s_law) (defScope s_law) .none kV34 dc34 pm34 an34 cd34 ct34), sl34⟩)
    (c34 : PySem.W.codeIn K cd34 "law" = true)
    (k34 : PySem.W.keepIn K (.ref f34) = true)
    (a35 : PySem.W.nsIn K mainGlobals "_law_error" = some (some (.ref f35)))
    (l35 : K.lookup f35 = some ⟨oc35, od35, .func (PySem.W.fnOf "_law_error" "_law_error" (defArgs s_law_error) (defBody s_law_error) (defScope s_law_error) .none kV35 dc35 pm35 an35 cd35 ct35), sl35⟩)
    (c35 : PySem.W.codeIn K cd35 "_law_error" = true)
    (k35 : PySem.W.keepIn K (.ref f35) = true)
    (a36 : PySem.W.nsIn K mainGlobals "_law_outcome" = some (some (.ref f36)))
    (l36 : K.lookup f36 = some ⟨oc36, od36, .func (PySem.W.fnOf "_law_outcome" "_law_outcome" (defArgs s_law_outcome) (defBody s_law_outcome) (defScope s_law_outcome) .none kV36 dc36 pm36 an36 cd36 ct36), sl36⟩)
    (c36 : PySem.W.codeIn K cd36 "_law_outcome" = true)
    (k36 : PySem.W.keepIn K (.ref f36) = true)
    (aC : PySem.W.nsIn K mainGlobals "Account" = some (some (.ref CA)))
    (cpg : PySem.W.plainGet K CA Str.empty = true)
    (chd : PySem.W.hasDictIn K CA = true)
    (cpo : PySem.W.plainOver K CA = true)
    (csa : PySem.W.findIn K (.ref CA) "__setattr__" = some (some (.builtin "object.__setattr__")))
    (cmk : PySem.W.makesIn K CA = true)
    (ckc : PySem.W.keepIn K (.ref CA) = true)
    (cnS : PySem.W.findIn K (.ref CA) "states" = some none)
    (ih : PySem.W.findIn K (.ref CA) "__class__" = some (some (.builtin "object.__class__")))
    (im : PySem.W.mroIn K CA (.type "object") = some true)
    (ik : PySem.W.kitOne K (.type "tuple") (.ref CA) = some false)
    (inf : PySem.W.notFirst K CA (.type "tuple") = true)
    (rr : PySem.W.readsIn K CA (.type "type") = true)
    (rg : PySem.W.specialIn K (.ref CA) "__getattribute__" = some (some (.builtin "type.__getattribute__")))
    {uV : Tok}
    (cv : PySem.W.findCls K (.ref CA) (.type "type") "MOST" = some (.val (.int 36 uV)))
    {pF gF : Addr} {rsF : List Value} {odF anF : Option Addr} {slF : Array (Option Value)} {ocF kVF dcF pmF cdF ctF : Value}
    (fltA : PySem.W.findCls K (.ref CA) (.type "type") "flat" = some (.get (.builtin "classmethod.__get__") (.ref pF) .none (.ref CA)))
    (fr : PySem.W.recIn K pF "classmethod" = some (.ref gF :: rsF))
    (ff : PySem.W.fnIn K gF = true)
    (fl : K.lookup gF = some ⟨ocF, odF, .func (PySem.W.fnOf "flat" "Account.flat" (defArgs s_Account_flat) (defBody s_Account_flat) (defScope s_Account_flat) .none kVF dcF pmF anF cdF ctF), slF⟩)
    (fc : PySem.W.codeIn K cdF "Account.flat" = true)
    (fk : PySem.W.keepIn K (.ref gF) = true)
    {uM : Tok}
    (cM : PySem.W.findIn K (.ref CA) "MOST" = some (some (.int 36 uM)))
    (cMg : PySem.W.specialIn K (.int 36 uM) "__get__" = some none)
    (nt : PySem.W.nsIn K mainGlobals "<tables>" = some none)
    (xn_PlanError : PySem.W.nsIn K mainGlobals "PlanError" = some (some (.ref x_PlanError)))
    (xn_InvalidUsage : PySem.W.nsIn K mainGlobals "InvalidUsage" = some (some (.ref x_InvalidUsage)))
    (xn_InvalidMenu : PySem.W.nsIn K mainGlobals "InvalidMenu" = some (some (.ref x_InvalidMenu)))
    (xn_InvalidBills : PySem.W.nsIn K mainGlobals "InvalidBills" = some (some (.ref x_InvalidBills)))
    (en : PySem.W.specialIn K (.builtin "object.__class__") "__get__" = some (some (.builtin "getset_descriptor.__get__")))
    (et : PySem.W.takesIn K (.builtin "object.__class__") = some true)
    {tcv : Value} {tcd : Option Addr} {tvs : Array Value} {tsl : Array (Option Value)}
    (tc : cd34 = .ref cT)
    (tk : K.lookup cT = some ⟨tcv, tcd, .fields tvs, tsl⟩)
    (tv : (tvs[11]? : Option Value) = some (.ref PT))
    (tl : K.lookup PT = none)
    {tcv_1 : Value} {tcd_1 : Option Addr} {tvs_1 : Array Value} {tsl_1 : Array (Option Value)}
    (tc_1 : cd17 = .ref cT_1)
    (tk_1 : K.lookup cT_1 = some ⟨tcv_1, tcd_1, .fields tvs_1, tsl_1⟩)
    (tv_1 : (tvs_1[11]? : Option Value) = some (.ref PT_1))
    (tl_1 : K.lookup PT_1 = none)
    (td : PT ≠ PT_1)
    (tn_law_numbers_right : PySem.W.nsIn K mainGlobals "_law_numbers_right" = some none)
    (tn_law_bills_right : PySem.W.nsIn K mainGlobals "_law_bills_right" = some none)
    (tn_law_plan_calls : PySem.W.nsIn K mainGlobals "_law_plan_calls" = some none)
    (tn_law_usage_calls : PySem.W.nsIn K mainGlobals "_law_usage_calls" = some none)
    (eg_InvalidNumber : PySem.W.findIn K (.ref x_InvalidNumber) "__getattribute__" = some (some (.builtin "BaseException.__getattribute__")))
    (ek_InvalidNumber : PySem.W.findIn K (.ref x_InvalidNumber) "__getattr__" = some none)
    (ed_InvalidNumber : PySem.W.hasDictIn K x_InvalidNumber = true)
    (ea_InvalidNumber : PySem.W.findIn K (.ref x_InvalidNumber) "__class__" = some (some (.builtin "object.__class__")))
    (em_InvalidNumber : PySem.W.mroIn K x_InvalidNumber (.type "object") = some true)
    (ep_InvalidNumber : PySem.W.exmOne K (.ref x_InvalidNumber) (.ref x_PlanError) = some true)
    (eo_InvalidNumber_InvalidPlan : PySem.W.kitOne K (.ref x_InvalidNumber) (.ref x_InvalidPlan) = some false)
    (eo_InvalidNumber_InvalidUsage : PySem.W.kitOne K (.ref x_InvalidNumber) (.ref x_InvalidUsage) = some false)
    (eo_InvalidNumber_InvalidMenu : PySem.W.kitOne K (.ref x_InvalidNumber) (.ref x_InvalidMenu) = some false)
    (eo_InvalidNumber_InvalidBills : PySem.W.kitOne K (.ref x_InvalidNumber) (.ref x_InvalidBills) = some false)
    (eo_InvalidNumber_InvalidNumber : PySem.W.kitOne K (.ref x_InvalidNumber) (.ref x_InvalidNumber) = some true)
    (eo_InvalidNumber_TooMany : PySem.W.kitOne K (.ref x_InvalidNumber) (.ref x_TooMany) = some false)
    (eo_InvalidNumber_NothingToUndo : PySem.W.kitOne K (.ref x_InvalidNumber) (.ref x_NothingToUndo) = some false)
    (eg_InvalidPlan : PySem.W.findIn K (.ref x_InvalidPlan) "__getattribute__" = some (some (.builtin "BaseException.__getattribute__")))
    (ek_InvalidPlan : PySem.W.findIn K (.ref x_InvalidPlan) "__getattr__" = some none)
    (ed_InvalidPlan : PySem.W.hasDictIn K x_InvalidPlan = true)
    (ea_InvalidPlan : PySem.W.findIn K (.ref x_InvalidPlan) "__class__" = some (some (.builtin "object.__class__")))
    (em_InvalidPlan : PySem.W.mroIn K x_InvalidPlan (.type "object") = some true)
    (ep_InvalidPlan : PySem.W.exmOne K (.ref x_InvalidPlan) (.ref x_PlanError) = some true)
    (eo_InvalidPlan_InvalidPlan : PySem.W.kitOne K (.ref x_InvalidPlan) (.ref x_InvalidPlan) = some true)
    (eo_InvalidPlan_InvalidUsage : PySem.W.kitOne K (.ref x_InvalidPlan) (.ref x_InvalidUsage) = some false)
    (eo_InvalidPlan_InvalidMenu : PySem.W.kitOne K (.ref x_InvalidPlan) (.ref x_InvalidMenu) = some false)
    (eo_InvalidPlan_InvalidBills : PySem.W.kitOne K (.ref x_InvalidPlan) (.ref x_InvalidBills) = some false)
    (eo_InvalidPlan_InvalidNumber : PySem.W.kitOne K (.ref x_InvalidPlan) (.ref x_InvalidNumber) = some false)
    (eo_InvalidPlan_TooMany : PySem.W.kitOne K (.ref x_InvalidPlan) (.ref x_TooMany) = some false)
    (eo_InvalidPlan_NothingToUndo : PySem.W.kitOne K (.ref x_InvalidPlan) (.ref x_NothingToUndo) = some false)
    (eg_TooMany : PySem.W.findIn K (.ref x_TooMany) "__getattribute__" = some (some (.builtin "BaseException.__getattribute__")))
    (ek_TooMany : PySem.W.findIn K (.ref x_TooMany) "__getattr__" = some none)
    (ed_TooMany : PySem.W.hasDictIn K x_TooMany = true)
    (ea_TooMany : PySem.W.findIn K (.ref x_TooMany) "__class__" = some (some (.builtin "object.__class__")))
    (em_TooMany : PySem.W.mroIn K x_TooMany (.type "object") = some true)
    (ep_TooMany : PySem.W.exmOne K (.ref x_TooMany) (.ref x_PlanError) = some true)
    (eo_TooMany_InvalidPlan : PySem.W.kitOne K (.ref x_TooMany) (.ref x_InvalidPlan) = some false)
    (eo_TooMany_InvalidUsage : PySem.W.kitOne K (.ref x_TooMany) (.ref x_InvalidUsage) = some false)
    (eo_TooMany_InvalidMenu : PySem.W.kitOne K (.ref x_TooMany) (.ref x_InvalidMenu) = some false)
    (eo_TooMany_InvalidBills : PySem.W.kitOne K (.ref x_TooMany) (.ref x_InvalidBills) = some false)
    (eo_TooMany_InvalidNumber : PySem.W.kitOne K (.ref x_TooMany) (.ref x_InvalidNumber) = some false)
    (eo_TooMany_TooMany : PySem.W.kitOne K (.ref x_TooMany) (.ref x_TooMany) = some true)
    (eo_TooMany_NothingToUndo : PySem.W.kitOne K (.ref x_TooMany) (.ref x_NothingToUndo) = some false)
    (eg_NothingToUndo : PySem.W.findIn K (.ref x_NothingToUndo) "__getattribute__" = some (some (.builtin "BaseException.__getattribute__")))
    (ek_NothingToUndo : PySem.W.findIn K (.ref x_NothingToUndo) "__getattr__" = some none)
    (ed_NothingToUndo : PySem.W.hasDictIn K x_NothingToUndo = true)
    (ea_NothingToUndo : PySem.W.findIn K (.ref x_NothingToUndo) "__class__" = some (some (.builtin "object.__class__")))
    (em_NothingToUndo : PySem.W.mroIn K x_NothingToUndo (.type "object") = some true)
    (ep_NothingToUndo : PySem.W.exmOne K (.ref x_NothingToUndo) (.ref x_PlanError) = some true)
    (eo_NothingToUndo_InvalidPlan : PySem.W.kitOne K (.ref x_NothingToUndo) (.ref x_InvalidPlan) = some false)
    (eo_NothingToUndo_InvalidUsage : PySem.W.kitOne K (.ref x_NothingToUndo) (.ref x_InvalidUsage) = some false)
    (eo_NothingToUndo_InvalidMenu : PySem.W.kitOne K (.ref x_NothingToUndo) (.ref x_InvalidMenu) = some false)
    (eo_NothingToUndo_InvalidBills : PySem.W.kitOne K (.ref x_NothingToUndo) (.ref x_InvalidBills) = some false)
    (eo_NothingToUndo_InvalidNumber : PySem.W.kitOne K (.ref x_NothingToUndo) (.ref x_InvalidNumber) = some false)
    (eo_NothingToUndo_TooMany : PySem.W.kitOne K (.ref x_NothingToUndo) (.ref x_TooMany) = some false)
    (eo_NothingToUndo_NothingToUndo : PySem.W.kitOne K (.ref x_NothingToUndo) (.ref x_NothingToUndo) = some true)
    (xq_InvalidNumber : PySem.W.excIn K x_InvalidNumber [.type "ValueError", .type "Exception", .type "BaseException", .type "object"] "ValueError.__new__" = true)
    (xn_InvalidNumber : PySem.W.nsIn K mainGlobals "InvalidNumber" = some (some (.ref x_InvalidNumber)))
    (xk_InvalidNumber : PySem.W.keepIn K (.ref x_InvalidNumber) = true)
    (xs_InvalidNumber : PySem.W.subIn K (.ref x_InvalidNumber) (.type "BaseException") = some true)
    (xt_InvalidNumber : PySem.W.typeIn K (.ref x_InvalidNumber) = some (.type "type"))
    (xq_InvalidPlan : PySem.W.excIn K x_InvalidPlan [.type "ValueError", .type "Exception", .type "BaseException", .type "object"] "ValueError.__new__" = true)
    (xn_InvalidPlan : PySem.W.nsIn K mainGlobals "InvalidPlan" = some (some (.ref x_InvalidPlan)))
    (xk_InvalidPlan : PySem.W.keepIn K (.ref x_InvalidPlan) = true)
    (xs_InvalidPlan : PySem.W.subIn K (.ref x_InvalidPlan) (.type "BaseException") = some true)
    (xt_InvalidPlan : PySem.W.typeIn K (.ref x_InvalidPlan) = some (.type "type"))
    (xq_NothingToUndo : PySem.W.excIn K x_NothingToUndo [.type "ValueError", .type "Exception", .type "BaseException", .type "object"] "ValueError.__new__" = true)
    (xn_NothingToUndo : PySem.W.nsIn K mainGlobals "NothingToUndo" = some (some (.ref x_NothingToUndo)))
    (xk_NothingToUndo : PySem.W.keepIn K (.ref x_NothingToUndo) = true)
    (xs_NothingToUndo : PySem.W.subIn K (.ref x_NothingToUndo) (.type "BaseException") = some true)
    (xt_NothingToUndo : PySem.W.typeIn K (.ref x_NothingToUndo) = some (.type "type"))
    (xq_TooMany : PySem.W.excIn K x_TooMany [.type "ValueError", .type "Exception", .type "BaseException", .type "object"] "ValueError.__new__" = true)
    (xn_TooMany : PySem.W.nsIn K mainGlobals "TooMany" = some (some (.ref x_TooMany)))
    (xk_TooMany : PySem.W.keepIn K (.ref x_TooMany) = true)
    (xs_TooMany : PySem.W.subIn K (.ref x_TooMany) (.type "BaseException") = some true)
    (xt_TooMany : PySem.W.typeIn K (.ref x_TooMany) = some (.type "type"))
    (z_all : PySem.W.nsIn K mainGlobals "all" = some none)
    (z_bool : PySem.W.nsIn K mainGlobals "bool" = some none)
    (z_enumerate : PySem.W.nsIn K mainGlobals "enumerate" = some none)
    (z_int : PySem.W.nsIn K mainGlobals "int" = some none)
    (z_isinstance : PySem.W.nsIn K mainGlobals "isinstance" = some none)
    (z_len : PySem.W.nsIn K mainGlobals "len" = some none)
    (z_list : PySem.W.nsIn K mainGlobals "list" = some none)
    (z_max : PySem.W.nsIn K mainGlobals "max" = some none)
    (z_min : PySem.W.nsIn K mainGlobals "min" = some none)
    (z_range : PySem.W.nsIn K mainGlobals "range" = some none)
    (z_str : PySem.W.nsIn K mainGlobals "str" = some none)
    (z_sum : PySem.W.nsIn K mainGlobals "sum" = some none)
    (z_tuple : PySem.W.nsIn K mainGlobals "tuple" = some none)
    (z_zip : PySem.W.nsIn K mainGlobals "zip" = some none)
    (g_MOST_CAP : MgI mg "MOST_CAP" 10000)
    (g_MOST_DATA : MgI mg "MOST_DATA" 1000)
    (g_MOST_FEE : MgI mg "MOST_FEE" 10000)
    (g_MOST_MONTHS : MgI mg "MOST_MONTHS" 36)
    (g_MOST_PRICE : MgI mg "MOST_PRICE" 100)
    (g_MOST_UNITS : MgI mg "MOST_UNITS" 1000000)
    : (∀ y ∈ (["law", "_law_step"] : List Str), ∃ c P : Addr, PySem.W.tabIn K y = some (c, P) ∧ K.lookup P = none) ∧ (∀ p ∈ tabsK K, ∃ y ∈ (["law", "_law_step"] : List Str), ∃ c, PySem.W.tabIn K y = some (c, p.1)) ∧
    ∃ fd : FuncData, (∀ (s : Shared) (v : Value), BindsTo s fd ⟨[v], []⟩ [("_law_script", v)]) ∧ ∀ base : Heap, (∀ y ∈ (["law", "_law_step"] : List Str), ∀ c P, PySem.W.tabIn K y = some (c, P) → LamX.TabB base mg c P) → FnOk l.prog w0 K mg base (L2N.CX l.prog w0) 9 fa fd ["_law_script"] (spX K (tabsB K true) sx_law) := by
  have tt : PySem.W.tabIn K "law" = some (cT, PT) := tab_mk a34 l34 tc tk tv
  have tt_1 : PySem.W.tabIn K "_law_step" = some (cT_1, PT_1) := tab_mk a17 l17 tc_1 tk_1 tv_1
  have e := hfa.symm.trans (PySem.W.mg_of X G a34)
  cases e
  have T : Glb K mg CA := ⟨⟨⟨cpg, chd, cpo, csa⟩, cnS, PySem.W.mg_of X G aC, aC⟩, ⟨.int 36 uM, cM, ⟨uM, rfl⟩, cMg, by decide⟩, ⟨ih, en, et, im, ik, inf⟩, ⟨.type "type", uV, ⟨rr, rg⟩, cv⟩, nt, ⟨x_InvalidNumber, xq_InvalidNumber, PySem.W.mg_of X G xn_InvalidNumber, xn_InvalidNumber, xk_InvalidNumber, xs_InvalidNumber, xt_InvalidNumber⟩, ⟨x_InvalidPlan, xq_InvalidPlan, PySem.W.mg_of X G xn_InvalidPlan, xn_InvalidPlan, xk_InvalidPlan, xs_InvalidPlan, xt_InvalidPlan⟩, ⟨x_NothingToUndo, xq_NothingToUndo, PySem.W.mg_of X G xn_NothingToUndo, xn_NothingToUndo, xk_NothingToUndo, xs_NothingToUndo, xt_NothingToUndo⟩, ⟨x_TooMany, xq_TooMany, PySem.W.mg_of X G xn_TooMany, xn_TooMany, xk_TooMany, xs_TooMany, xt_TooMany⟩, PySem.W.mg_none_of X G z_all, PySem.W.mg_none_of X G z_bool, PySem.W.mg_none_of X G z_enumerate, PySem.W.mg_none_of X G z_int, PySem.W.mg_none_of X G z_isinstance, PySem.W.mg_none_of X G z_len, PySem.W.mg_none_of X G z_list, PySem.W.mg_none_of X G z_max, PySem.W.mg_none_of X G z_min, PySem.W.mg_none_of X G z_range, PySem.W.mg_none_of X G z_str, PySem.W.mg_none_of X G z_sum, PySem.W.mg_none_of X G z_tuple, PySem.W.mg_none_of X G z_zip, g_MOST_CAP, g_MOST_DATA, g_MOST_FEE, g_MOST_MONTHS, g_MOST_PRICE, g_MOST_UNITS⟩
  have F0 := fun_mk (st := s_law_well) l0 c0 k0
  have D0 : Def K mg "_law_well" s_law_well ["_law_cell", "_law_turn"] f0 _ := ⟨F0, PySem.W.mg_of X G a0, F0.binds (ps := ["_law_cell", "_law_turn"]) fun _ _ _ _ _ _ us hl => match us, hl with | [_, _], _ => rfl⟩
  have F1 := fun_mk (st := s_law_bags) l1 c1 k1
  have D1 : Def K mg "_law_bags" s_law_bags ["_law_script", "_law_most"] f1 _ := ⟨F1, PySem.W.mg_of X G a1, F1.binds (ps := ["_law_script", "_law_most"]) fun _ _ _ _ _ _ us hl => match us, hl with | [_, _], _ => rfl⟩
  have F2 := fun_mk (st := s_law_take) l2 c2 k2
  have D2 : Def K mg "_law_take" s_law_take ["_law_bag", "_law_many"] f2 _ := ⟨F2, PySem.W.mg_of X G a2, F2.binds (ps := ["_law_bag", "_law_many"]) fun _ _ _ _ _ _ us hl => match us, hl with | [_, _], _ => rfl⟩
  have F3 := fun_mk (st := s_law_plan) l3 c3 k3
  have D3 : Def K mg "_law_plan" s_law_plan ["_law_bag"] f3 _ := ⟨F3, PySem.W.mg_of X G a3, F3.binds (ps := ["_law_bag"]) fun _ _ _ _ _ _ us hl => match us, hl with | [_], _ => rfl⟩
  have F4 := fun_mk (st := s_in_range) l4 c4 k4
  have D4 : Def K mg "in_range" s_in_range ["value", "low", "high"] f4 _ := ⟨F4, PySem.W.mg_of X G a4, F4.binds (ps := ["value", "low", "high"]) fun _ _ _ _ _ _ us hl => match us, hl with | [_, _, _], _ => rfl⟩
  have F5 := fun_mk (st := s_is_plan) l5 c5 k5
  have D5 : Def K mg "is_plan" s_is_plan ["value"] f5 _ := ⟨F5, PySem.W.mg_of X G a5, F5.binds (ps := ["value"]) fun _ _ _ _ _ _ us hl => match us, hl with | [_], _ => rfl⟩
  have F6 := fun_mk (st := s_check_plan) l6 c6 k6
  have D6 : Def K mg "check_plan" s_check_plan ["value"] f6 _ := ⟨F6, PySem.W.mg_of X G a6, F6.binds (ps := ["value"]) fun _ _ _ _ _ _ us hl => match us, hl with | [_], _ => rfl⟩
  have F7 := fun_mk (st := s_Account_init) l7 c7 k7
  have D7 : IniD K CA s_Account_init f7 _ := ⟨F7, ⟨cmk, a7, i7, ckc⟩, F7.binds (ps := ["self", "plan"]) fun _ _ _ _ _ _ us hl => match us, hl with | [_, _], _ => rfl⟩
  have F8 := fun_mk (st := s_law_same) l8 c8 k8
  have D8 : Def K mg "_law_same" s_law_same ["_law_a", "_law_b"] f8 _ := ⟨F8, PySem.W.mg_of X G a8, F8.binds (ps := ["_law_a", "_law_b"]) fun _ _ _ _ _ _ us hl => match us, hl with | [_, _], _ => rfl⟩
  have F9 := fun_mk (st := s_Account_undo) l9 c9 k9
  have D9 : MetD K CA "undo" "Account.undo" s_Account_undo f9 _ := ⟨F9, ⟨a9, i9, k9⟩⟩
  have F10 := fun_mk (st := s_law_usage) l10 c10 k10
  have D10 : Def K mg "_law_usage" s_law_usage ["_law_bag", "_law_most", "_law_plan_here"] f10 _ := ⟨F10, PySem.W.mg_of X G a10, F10.binds (ps := ["_law_bag", "_law_most", "_law_plan_here"]) fun _ _ _ _ _ _ us hl => match us, hl with | [_, _, _], _ => rfl⟩
  have F11 := fun_mk (st := s_month) l11 c11 k11
  have D11 : Def K mg "month" s_month ["plan", "kept", "units"] f11 _ := ⟨F11, PySem.W.mg_of X G a11, F11.binds (ps := ["plan", "kept", "units"]) fun _ _ _ _ _ _ us hl => match us, hl with | [_, _, _], _ => rfl⟩
  have F12 := fun_mk (st := s_Account_use) l12 c12 k12
  have D12 : MetS K CA "use" "Account.use" s_Account_use "units" f12 _ := metS_mk F12 ⟨a12, i12, k12⟩ (fun _ => rfl) (fun _ _ _ => rfl)
  have F13 := fun_mk (st := s_law_use) l13 c13 k13
  have D13 : Def K mg "_law_use" s_law_use ["_law_run", "_law_units"] f13 _ := ⟨F13, PySem.W.mg_of X G a13, F13.binds (ps := ["_law_run", "_law_units"]) fun _ _ _ _ _ _ us hl => match us, hl with | [_, _], _ => rfl⟩
  have F14 := fun_mk (st := s_law_months) l14 c14 k14
  have D14 : Def K mg "_law_months" s_law_months ["_law_plan_here", "_law_usage_here", "_law_kept"] f14 _ := ⟨F14, PySem.W.mg_of X G a14, F14.binds (ps := ["_law_plan_here", "_law_usage_here", "_law_kept"]) fun _ _ _ _ _ _ us hl => match us, hl with | [_, _, _], _ => rfl⟩
  have F15 := fun_mk (st := s_law_near) l15 c15 k15
  have D15 : Def K mg "_law_near" s_law_near ["_law_bag", "_law_plan_here"] f15 _ := ⟨F15, PySem.W.mg_of X G a15, F15.binds (ps := ["_law_bag", "_law_plan_here"]) fun _ _ _ _ _ _ us hl => match us, hl with | [_, _], _ => rfl⟩
  have F16 := fun_mk (st := s_Account_change) l16 c16 k16
  have D16 : MetD K CA "change" "Account.change" s_Account_change f16 _ := ⟨F16, ⟨a16, i16, k16⟩⟩
  have F17 := fun_mk (st := s_law_step) l17 c17 k17
  have D17 : Def K mg "_law_step" s_law_step ["_law_bag", "_law_run", "_law_state"] f17 _ := ⟨F17, PySem.W.mg_of X G a17, F17.binds (ps := ["_law_bag", "_law_run", "_law_state"]) fun _ _ _ _ _ _ us hl => match us, hl with | [_, _, _], _ => rfl⟩
  have F18 := fun_mk (st := s_Account_lost) l18 c18 k18
  have D18 : PrpD K CA "lost" "Account.lost" s_Account_lost p18 f18 _ := ⟨F18, ⟨a18, g18, t18, rs18, r18⟩, F18.binds (ps := ["self"]) fun _ _ _ _ _ _ us hl => match us, hl with | [_], _ => rfl⟩
  have F19 := fun_mk (st := s_Account_kept) l19 c19 k19
  have D19 : PrpD K CA "kept" "Account.kept" s_Account_kept p19 f19 _ := ⟨F19, ⟨a19, g19, t19, rs19, r19⟩, F19.binds (ps := ["self"]) fun _ _ _ _ _ _ us hl => match us, hl with | [_], _ => rfl⟩
  have F20 := fun_mk (st := s_Account_paid) l20 c20 k20
  have D20 : PrpD K CA "paid" "Account.paid" s_Account_paid p20 f20 _ := ⟨F20, ⟨a20, g20, t20, rs20, r20⟩, F20.binds (ps := ["self"]) fun _ _ _ _ _ _ us hl => match us, hl with | [_], _ => rfl⟩
  have F21 := fun_mk (st := s_Account_used) l21 c21 k21
  have D21 : PrpD K CA "used" "Account.used" s_Account_used p21 f21 _ := ⟨F21, ⟨a21, g21, t21, rs21, r21⟩, F21.binds (ps := ["self"]) fun _ _ _ _ _ _ us hl => match us, hl with | [_], _ => rfl⟩
  have F22 := fun_mk (st := s_Account_plan) l22 c22 k22
  have D22 : PrpD K CA "plan" "Account.plan" s_Account_plan p22 f22 _ := ⟨F22, ⟨a22, g22, t22, rs22, r22⟩, F22.binds (ps := ["self"]) fun _ _ _ _ _ _ us hl => match us, hl with | [_], _ => rfl⟩
  have F23 := fun_mk (st := s_Account_bool) l23 c23 k23
  have D23 : MetD K CA "__bool__" "Account.__bool__" s_Account_bool f23 _ := ⟨F23, ⟨a23, i23, k23⟩⟩
  have F24 := fun_mk (st := s_Account_len) l24 c24 k24
  have D24 : MetD K CA "__len__" "Account.__len__" s_Account_len f24 _ := ⟨F24, ⟨a24, i24, k24⟩⟩
  have F25 := fun_mk (st := s_law_right) l25 c25 k25
  have D25 : Def K mg "_law_right" s_law_right ["_law_run", "_law_state"] f25 _ := ⟨F25, PySem.W.mg_of X G a25, F25.binds (ps := ["_law_run", "_law_state"]) fun _ _ _ _ _ _ us hl => match us, hl with | [_, _], _ => rfl⟩
  have F26 := fun_mk (st := s_Account_eq) l26 c26 k26
  have D26 : MetD K CA "__eq__" "Account.__eq__" s_Account_eq f26 _ := ⟨F26, ⟨a26, i26, k26⟩⟩
  have F27 := fun_mk (st := s_is_usage) l27 c27 k27
  have D27 : Def K mg "is_usage" s_is_usage ["value"] f27 _ := ⟨F27, PySem.W.mg_of X G a27, F27.binds (ps := ["value"]) fun _ _ _ _ _ _ us hl => match us, hl with | [_], _ => rfl⟩
  have F28 := fun_mk (st := s_check_usage) l28 c28 k28
  have D28 : Def K mg "check_usage" s_check_usage ["value"] f28 _ := ⟨F28, PySem.W.mg_of X G a28, F28.binds (ps := ["value"]) fun _ _ _ _ _ _ us hl => match us, hl with | [_], _ => rfl⟩
  have F29 := fun_mk (st := s_played) l29 c29 k29
  have D29 : Def K mg "played" s_played ["plan", "usage", "kept"] f29 _ := ⟨F29, PySem.W.mg_of X G a29, F29.binds (ps := ["plan", "usage", "kept"]) fun _ _ _ _ _ _ us hl => match us, hl with | [_, _, _], _ => rfl⟩
  have F30 := fun_mk (st := s_cost_of) l30 c30 k30
  have D30 : Def K mg "cost_of" s_cost_of ["plan", "usage"] f30 _ := ⟨F30, PySem.W.mg_of X G a30, F30.binds (ps := ["plan", "usage"]) fun _ _ _ _ _ _ us hl => match us, hl with | [_, _], _ => rfl⟩
  have F31 := fun_mk (st := s_total_cost) l31 c31 k31
  have D31 : DefS K mg "total_cost" s_total_cost ["plan"] "usages" f31 _ := defS1 F31 (PySem.W.mg_of X G a31) (fun _ => rfl) (fun _ _ _ => rfl)
  have F32 := fun_mk (st := s_kept_after) l32 c32 k32
  have D32 : Def K mg "kept_after" s_kept_after ["plan", "usage"] f32 _ := ⟨F32, PySem.W.mg_of X G a32, F32.binds (ps := ["plan", "usage"]) fun _ _ _ _ _ _ us hl => match us, hl with | [_, _], _ => rfl⟩
  have F33 := fun_mk (st := s_lost_units) l33 c33 k33
  have D33 : Def K mg "lost_units" s_lost_units ["plan", "usage"] f33 _ := ⟨F33, PySem.W.mg_of X G a33, F33.binds (ps := ["plan", "usage"]) fun _ _ _ _ _ _ us hl => match us, hl with | [_, _], _ => rfl⟩
  have F34 := fun_mk (st := s_law) l34 c34 k34
  have F35 := fun_mk (st := s_law_error) l35 c35 k35
  have D35 : Def K mg "_law_error" s_law_error ["_law_e"] f35 _ := ⟨F35, PySem.W.mg_of X G a35, F35.binds (ps := ["_law_e"]) fun _ _ _ _ _ _ us hl => match us, hl with | [_], _ => rfl⟩
  have F36 := fun_mk (st := s_law_outcome) l36 c36 k36
  have D36 : Def K mg "_law_outcome" s_law_outcome ["_law_call"] f36 _ := ⟨F36, PySem.W.mg_of X G a36, F36.binds (ps := ["_law_call"]) fun _ _ _ _ _ _ us hl => match us, hl with | [_], _ => rfl⟩
  have tq : tabsK K = [(PT, (("law" : Str) ++ ".<locals>.") ++ "<lambda>"), (PT_1, (("_law_step" : Str) ++ ".<locals>.") ++ "<lambda>")] := by
    unfold tabsK
    simp only [List.filterMap_cons, List.filterMap_nil, tt, tt_1, tabIn_none tn_law_numbers_right, tabIn_none tn_law_bills_right, tabIn_none tn_law_plan_calls, tabIn_none tn_law_usage_calls, Option.map_some, Option.map_none]
    rfl
  have EN_InvalidNumber : LZ.ErP K mg x_InvalidNumber "InvalidNumber" := ⟨⟨⟨eg_InvalidNumber, ek_InvalidNumber, xs_InvalidNumber, ed_InvalidNumber, ea_InvalidNumber, en, et, em_InvalidNumber⟩, by simp [LZ.errNames], fun y hy => by
    simp only [LZ.errNames, List.mem_cons, List.not_mem_nil, or_false] at hy
    rcases hy with rfl | rfl | rfl | rfl | rfl | rfl | rfl
    · exact ⟨x_InvalidPlan, PySem.W.mg_of X G xn_InvalidPlan, eo_InvalidNumber_InvalidPlan⟩
    · exact ⟨x_InvalidUsage, PySem.W.mg_of X G xn_InvalidUsage, eo_InvalidNumber_InvalidUsage⟩
    · exact ⟨x_InvalidMenu, PySem.W.mg_of X G xn_InvalidMenu, eo_InvalidNumber_InvalidMenu⟩
    · exact ⟨x_InvalidBills, PySem.W.mg_of X G xn_InvalidBills, eo_InvalidNumber_InvalidBills⟩
    · exact ⟨x_InvalidNumber, PySem.W.mg_of X G xn_InvalidNumber, eo_InvalidNumber_InvalidNumber⟩
    · exact ⟨x_TooMany, PySem.W.mg_of X G xn_TooMany, eo_InvalidNumber_TooMany⟩
    · exact ⟨x_NothingToUndo, PySem.W.mg_of X G xn_NothingToUndo, eo_InvalidNumber_NothingToUndo⟩
    ⟩, x_PlanError, PySem.W.mg_of X G xn_PlanError, ep_InvalidNumber⟩
  have EN_InvalidPlan : LZ.ErP K mg x_InvalidPlan "InvalidPlan" := ⟨⟨⟨eg_InvalidPlan, ek_InvalidPlan, xs_InvalidPlan, ed_InvalidPlan, ea_InvalidPlan, en, et, em_InvalidPlan⟩, by simp [LZ.errNames], fun y hy => by
    simp only [LZ.errNames, List.mem_cons, List.not_mem_nil, or_false] at hy
    rcases hy with rfl | rfl | rfl | rfl | rfl | rfl | rfl
    · exact ⟨x_InvalidPlan, PySem.W.mg_of X G xn_InvalidPlan, eo_InvalidPlan_InvalidPlan⟩
    · exact ⟨x_InvalidUsage, PySem.W.mg_of X G xn_InvalidUsage, eo_InvalidPlan_InvalidUsage⟩
    · exact ⟨x_InvalidMenu, PySem.W.mg_of X G xn_InvalidMenu, eo_InvalidPlan_InvalidMenu⟩
    · exact ⟨x_InvalidBills, PySem.W.mg_of X G xn_InvalidBills, eo_InvalidPlan_InvalidBills⟩
    · exact ⟨x_InvalidNumber, PySem.W.mg_of X G xn_InvalidNumber, eo_InvalidPlan_InvalidNumber⟩
    · exact ⟨x_TooMany, PySem.W.mg_of X G xn_TooMany, eo_InvalidPlan_TooMany⟩
    · exact ⟨x_NothingToUndo, PySem.W.mg_of X G xn_NothingToUndo, eo_InvalidPlan_NothingToUndo⟩
    ⟩, x_PlanError, PySem.W.mg_of X G xn_PlanError, ep_InvalidPlan⟩
  have EN_TooMany : LZ.ErP K mg x_TooMany "TooMany" := ⟨⟨⟨eg_TooMany, ek_TooMany, xs_TooMany, ed_TooMany, ea_TooMany, en, et, em_TooMany⟩, by simp [LZ.errNames], fun y hy => by
    simp only [LZ.errNames, List.mem_cons, List.not_mem_nil, or_false] at hy
    rcases hy with rfl | rfl | rfl | rfl | rfl | rfl | rfl
    · exact ⟨x_InvalidPlan, PySem.W.mg_of X G xn_InvalidPlan, eo_TooMany_InvalidPlan⟩
    · exact ⟨x_InvalidUsage, PySem.W.mg_of X G xn_InvalidUsage, eo_TooMany_InvalidUsage⟩
    · exact ⟨x_InvalidMenu, PySem.W.mg_of X G xn_InvalidMenu, eo_TooMany_InvalidMenu⟩
    · exact ⟨x_InvalidBills, PySem.W.mg_of X G xn_InvalidBills, eo_TooMany_InvalidBills⟩
    · exact ⟨x_InvalidNumber, PySem.W.mg_of X G xn_InvalidNumber, eo_TooMany_InvalidNumber⟩
    · exact ⟨x_TooMany, PySem.W.mg_of X G xn_TooMany, eo_TooMany_TooMany⟩
    · exact ⟨x_NothingToUndo, PySem.W.mg_of X G xn_NothingToUndo, eo_TooMany_NothingToUndo⟩
    ⟩, x_PlanError, PySem.W.mg_of X G xn_PlanError, ep_TooMany⟩
  have EN_NothingToUndo : LZ.ErP K mg x_NothingToUndo "NothingToUndo" := ⟨⟨⟨eg_NothingToUndo, ek_NothingToUndo, xs_NothingToUndo, ed_NothingToUndo, ea_NothingToUndo, en, et, em_NothingToUndo⟩, by simp [LZ.errNames], fun y hy => by
    simp only [LZ.errNames, List.mem_cons, List.not_mem_nil, or_false] at hy
    rcases hy with rfl | rfl | rfl | rfl | rfl | rfl | rfl
    · exact ⟨x_InvalidPlan, PySem.W.mg_of X G xn_InvalidPlan, eo_NothingToUndo_InvalidPlan⟩
    · exact ⟨x_InvalidUsage, PySem.W.mg_of X G xn_InvalidUsage, eo_NothingToUndo_InvalidUsage⟩
    · exact ⟨x_InvalidMenu, PySem.W.mg_of X G xn_InvalidMenu, eo_NothingToUndo_InvalidMenu⟩
    · exact ⟨x_InvalidBills, PySem.W.mg_of X G xn_InvalidBills, eo_NothingToUndo_InvalidBills⟩
    · exact ⟨x_InvalidNumber, PySem.W.mg_of X G xn_InvalidNumber, eo_NothingToUndo_InvalidNumber⟩
    · exact ⟨x_TooMany, PySem.W.mg_of X G xn_TooMany, eo_NothingToUndo_TooMany⟩
    · exact ⟨x_NothingToUndo, PySem.W.mg_of X G xn_NothingToUndo, eo_NothingToUndo_NothingToUndo⟩
    ⟩, x_PlanError, PySem.W.mg_of X G xn_PlanError, ep_NothingToUndo⟩
  have ERL : ErL K mg errL := fun x hx => by
    simp only [errL, List.mem_cons, List.not_mem_nil, or_false] at hx
    rcases hx with rfl | rfl | rfl | rfl
    · exact ⟨x_InvalidNumber, xn_InvalidNumber, EN_InvalidNumber⟩
    · exact ⟨x_InvalidPlan, xn_InvalidPlan, EN_InvalidPlan⟩
    · exact ⟨x_TooMany, xn_TooMany, EN_TooMany⟩
    · exact ⟨x_NothingToUndo, xn_NothingToUndo, EN_NothingToUndo⟩
  have OUT : LZ.OutD K mg s_law_outcome s_law_error f36 f35 _ _ := ⟨D36, ⟨rfl, rfl, rfl, by decide +kernel, rfl, by decide +kernel, by decide +kernel⟩, err_D T.isinstance T.zip D35, rfl, rfl, rfl, rfl, rfl, ⟨x_PlanError, PySem.W.mg_of X G xn_PlanError⟩, ⟨_, _, _, _, _, _, _, _, _, _, _, _, _, _, _, _, _, _, _, _, _, rfl⟩⟩
  refine ⟨fun y hy => ?_, fun p hp => ?_, ?_⟩
  · simp only [List.mem_cons, List.not_mem_nil, or_false] at hy
    rcases hy with rfl | rfl
    · exact ⟨cT, PT, tt, tl⟩
    · exact ⟨cT_1, PT_1, tt_1, tl_1⟩
  · rw [tq] at hp
    simp only [List.mem_cons, List.not_mem_nil, or_false] at hp
    rcases hp with rfl | rfl
    · exact ⟨"law", by simp, cT, tt⟩
    · exact ⟨"_law_step", by simp, cT_1, tt_1⟩
  have hmT : (PT, (("law" : Str) ++ ".<locals>.") ++ "<lambda>") ∈ tabsK K := by rw [tq]; exact .head _
  have huT : ∀ p ∈ tabsK K, p.1 = PT → p.2 = (("law" : Str) ++ ".<locals>.") ++ "<lambda>" := fun p hp e => by
    rw [tq] at hp
    simp only [List.mem_cons, List.not_mem_nil, or_false] at hp
    rcases hp with rfl | rfl
    · rfl
    · exact absurd e.symm td
  have hmT_1 : (PT_1, (("_law_step" : Str) ++ ".<locals>.") ++ "<lambda>") ∈ tabsK K := by rw [tq]; exact .tail _ (.head _)
  have huT_1 : ∀ p ∈ tabsK K, p.1 = PT_1 → p.2 = (("_law_step" : Str) ++ ".<locals>.") ++ "<lambda>" := fun p hp e => by
    rw [tq] at hp
    simp only [List.mem_cons, List.not_mem_nil, or_false] at hp
    rcases hp with rfl | rfl
    · exact absurd e td
    · rfl
  have FF := fun_mk (st := s_Account_flat) fl fc fk
  have FLT : FltD K CA s_Account_flat gF _ := ⟨FF, ⟨rfl, rfl, rfl, by decide +kernel, rfl, by decide +kernel, by decide +kernel⟩, FF.binds (ps := ["cls", "fee"]) fun _ _ _ _ _ _ us hl => match us, hl with | [_, _], _ => rfl, ⟨.type "type", pF, ⟨rr, rg⟩, ⟨fltA, ⟨rsF, fr⟩, ff⟩⟩, rfl, rfl, ⟨_, _, _, _, _, _, _, _, rfl⟩⟩
  refine ⟨PySem.W.fnOf "law" "law" (defArgs s_law) (defBody s_law) (defScope s_law) .none kV34 dc34 pm34 an34 cd34 ct34, fun s v => .of_eq rfl, fun base TBs => ?_⟩
  have TB := TBs "law" (by simp) cT PT tt
  have TB_1 := TBs "_law_step" (by simp) cT_1 PT_1 tt_1
  have RR0 := R_law_well (P := l.prog) (w0 := w0) (base := base) T D0 
  have RR1 := R_law_bags (P := l.prog) (w0 := w0) (base := base) T D1 D0 RR0
  have RR2 := R_law_take (P := l.prog) (w0 := w0) (base := base) T D2 
  have RR3 := R_law_plan (P := l.prog) (w0 := w0) (base := base) T D3 D2 RR2
  have RR4 := R_in_range (P := l.prog) (w0 := w0) (base := base) T D4 
  have RR5 := R_is_plan (P := l.prog) (w0 := w0) (base := base) T D5 D4 RR4
  have RR6 := R_X_check_plan (P := l.prog) (w0 := w0) (base := base) T D6 D5 RR5
  have RR7 := R_X_Account_init (P := l.prog) (w0 := w0) (base := base) T D7 D6 RR6
  have RFL := fn_flat FLT D7.mkr RR7 D7.bd
  have RR8 := R_law_same (P := l.prog) (w0 := w0) (base := base) T D8 
  have RR9 := R_X_Account_undo (P := l.prog) (w0 := w0) (base := base) T D9 
  have RR10 := R_law_usage (P := l.prog) (w0 := w0) (base := base) T D10 D2 RR2
  have RR11 := R_month (P := l.prog) (w0 := w0) (base := base) T D11 
  have RR12 := R_X_Account_use (P := l.prog) (w0 := w0) (base := base) T D12 D4 RR4 D11 RR11
  have RR13 := R_X_law_use (P := l.prog) (w0 := w0) (base := base) T D13 D12 RR12
  have RR14 := R_law_months (P := l.prog) (w0 := w0) (base := base) T D14 
  have RR15 := R_law_near (P := l.prog) (w0 := w0) (base := base) T D15 D2 RR2 D3 RR3
  have RR16 := R_X_Account_change (P := l.prog) (w0 := w0) (base := base) T D16 D6 RR6
  have RR17 := R_X_law_step (P := l.prog) (w0 := w0) (base := base) T D17 D2 RR2 D10 RR10 D13 RR13 D14 RR14 D8 RR8 D15 RR15 D16 RR16 D12 RR12 OUT ERL a17 tt_1 TB_1 hmT_1 huT_1
  have RR18 := R_Account_lost (P := l.prog) (w0 := w0) (base := base) T D18 
  have RR19 := R_Account_kept (P := l.prog) (w0 := w0) (base := base) T D19 
  have RR20 := R_Account_paid (P := l.prog) (w0 := w0) (base := base) T D20 
  have RR21 := R_Account_used (P := l.prog) (w0 := w0) (base := base) T D21 
  have RR22 := R_Account_plan (P := l.prog) (w0 := w0) (base := base) T D22 
  have RR23 := R_Account_bool (P := l.prog) (w0 := w0) (base := base) T D23 
  have RR24 := R_Account_len (P := l.prog) (w0 := w0) (base := base) T D24 
  have RR25 := R_law_right (P := l.prog) (w0 := w0) (base := base) T D25 D18 RR18 D19 RR19 D20 RR20 D21 RR21 D22 RR22 D8 RR8 D23 RR23 D24 RR24
  have RR26 := R_Account_eq (P := l.prog) (w0 := w0) (base := base) T D26 
  have RR27 := R_check_plan (P := l.prog) (w0 := w0) (base := base) T D6 D5 RR5
  have RR28 := R_is_usage (P := l.prog) (w0 := w0) (base := base) T D27 D4 RR4
  have RR29 := R_check_usage (P := l.prog) (w0 := w0) (base := base) T D28 D27 RR28
  have RR30 := R_played (P := l.prog) (w0 := w0) (base := base) T D29 D11 RR11
  have RR31 := R_cost_of (P := l.prog) (w0 := w0) (base := base) T D30 D29 RR30
  have RR32 := R_total_cost (P := l.prog) (w0 := w0) (base := base) T D31 D6 RR27 D28 RR29 D30 RR31
  have RR33 := R_kept_after (P := l.prog) (w0 := w0) (base := base) T D32 D6 RR27 D28 RR29 D29 RR30
  have RR34 := R_lost_units (P := l.prog) (w0 := w0) (base := base) T D33 D6 RR27 D28 RR29 D29 RR30
  exact R_X_law T F34 D1 RR1 D3 RR3 D7 RR7 D2 RR2 D8 RR8 D9 RR9 D17 RR17 D25 RR25 D10 RR10 D12 RR12 D26 RR26 D20 RR20 D31 RR32 D19 RR19 D32 RR33 D18 RR18 D33 RR34 D22 RR22 D23 RR23 FLT RFL OUT ERL a34 tt TB hmT huT
end R
open PySem PySem.W PyProof.Rows in
set_option maxRecDepth 100000 in
set_option maxHeartbeats 0 in
theorem PySem.Challenge.cw_rollplans_k19_accounts_step_by_step_holds : PySem.Challenge.rw_rollplans_k19_accounts_step_by_step.Holds := by
  w_on; o_law; k_head; (case hw => w_witness2)
  k_fill
  refine R.walk_RT (l := PySem.Challenge.rw_rollplans_k19_accounts_step_by_step) (k := 9) (x := "_law_script") ["law", "_law_step"] rfl rfl ⟨rfl, by decide, by decide⟩ (fun y hy => by simp only [List.mem_cons, List.not_mem_nil, or_false] at hy; rcases hy with rfl | rfl <;> rfl) (fun w h Y => PySem.W.km_in_of Y) ?F
  case F =>
    intro w mg fa h KX G hmg hX
    refine' R.all_mk KX G hmg ?a0 ?l0 ?c0 ?k0 ?a1 ?l1 ?c1 ?k1 ?a2 ?l2 ?c2 ?k2 ?a3 ?l3 ?c3 ?k3 ?a4 ?l4 ?c4 ?k4 ?a5 ?l5 ?c5 ?k5 ?a6 ?l6 ?c6 ?k6 ?a7 ?i7 ?l7 ?c7 ?k7 ?a8 ?l8 ?c8 ?k8 ?a9 ?i9 ?l9 ?c9 ?k9 ?a10 ?l10 ?c10 ?k10 ?a11 ?l11 ?c11 ?k11 ?a12 ?i12 ?l12 ?c12 ?k12 ?a13 ?l13 ?c13 ?k13 ?a14 ?l14 ?c14 ?k14 ?a15 ?l15 ?c15 ?k15 ?a16 ?i16 ?l16 ?c16 ?k16 ?a17 ?l17 ?c17 ?k17 ?a18 ?g18 ?t18 ?r18 ?l18 ?c18 ?k18 ?a19 ?g19 ?t19 ?r19 ?l19 ?c19 ?k19 ?a20 ?g20 ?t20 ?r20 ?l20 ?c20 ?k20 ?a21 ?g21 ?t21 ?r21 ?l21 ?c21 ?k21 ?a22 ?g22 ?t22 ?r22 ?l22 ?c22 ?k22 ?a23 ?i23 ?l23 ?c23 ?k23 ?a24 ?i24 ?l24 ?c24 ?k24 ?a25 ?l25 ?c25 ?k25 ?a26 ?i26 ?l26 ?c26 ?k26 ?a27 ?l27 ?c27 ?k27 ?a28 ?l28 ?c28 ?k28 ?a29 ?l29 ?c29 ?k29 ?a30 ?l30 ?c30 ?k30 ?a31 ?l31 ?c31 ?k31 ?a32 ?l32 ?c32 ?k32 ?a33 ?l33 ?c33 ?k33 ?a34 ?l34 ?c34 ?k34 ?a35 ?l35 ?c35 ?k35 ?a36 ?l36 ?c36 ?k36 ?aC ?cpg ?chd ?cpo ?csa ?cmk ?ckc ?cnS ?ih ?im ?ik ?inf ?rr ?rg ?cv ?fltA ?fr ?ff ?fl ?fc ?fk ?cM ?cMg ?nt ?xn_PlanError ?xn_InvalidUsage ?xn_InvalidMenu ?xn_InvalidBills ?en ?et ?tc ?tk ?tv ?tl ?tc_1 ?tk_1 ?tv_1 ?tl_1 ?td ?tn_law_numbers_right ?tn_law_bills_right ?tn_law_plan_calls ?tn_law_usage_calls ?eg_InvalidNumber ?ek_InvalidNumber ?ed_InvalidNumber ?ea_InvalidNumber ?em_InvalidNumber ?ep_InvalidNumber ?eo_InvalidNumber_InvalidPlan ?eo_InvalidNumber_InvalidUsage ?eo_InvalidNumber_InvalidMenu ?eo_InvalidNumber_InvalidBills ?eo_InvalidNumber_InvalidNumber ?eo_InvalidNumber_TooMany ?eo_InvalidNumber_NothingToUndo ?eg_InvalidPlan ?ek_InvalidPlan ?ed_InvalidPlan ?ea_InvalidPlan ?em_InvalidPlan ?ep_InvalidPlan ?eo_InvalidPlan_InvalidPlan ?eo_InvalidPlan_InvalidUsage ?eo_InvalidPlan_InvalidMenu ?eo_InvalidPlan_InvalidBills ?eo_InvalidPlan_InvalidNumber ?eo_InvalidPlan_TooMany ?eo_InvalidPlan_NothingToUndo ?eg_TooMany ?ek_TooMany ?ed_TooMany ?ea_TooMany ?em_TooMany ?ep_TooMany ?eo_TooMany_InvalidPlan ?eo_TooMany_InvalidUsage ?eo_TooMany_InvalidMenu ?eo_TooMany_InvalidBills ?eo_TooMany_InvalidNumber ?eo_TooMany_TooMany ?eo_TooMany_NothingToUndo ?eg_NothingToUndo ?ek_NothingToUndo ?ed_NothingToUndo ?ea_NothingToUndo ?em_NothingToUndo ?ep_NothingToUndo ?eo_NothingToUndo_InvalidPlan ?eo_NothingToUndo_InvalidUsage ?eo_NothingToUndo_InvalidMenu ?eo_NothingToUndo_InvalidBills ?eo_NothingToUndo_InvalidNumber ?eo_NothingToUndo_TooMany ?eo_NothingToUndo_NothingToUndo ?xq_InvalidNumber ?xn_InvalidNumber ?xk_InvalidNumber ?xs_InvalidNumber ?xt_InvalidNumber ?xq_InvalidPlan ?xn_InvalidPlan ?xk_InvalidPlan ?xs_InvalidPlan ?xt_InvalidPlan ?xq_NothingToUndo ?xn_NothingToUndo ?xk_NothingToUndo ?xs_NothingToUndo ?xt_NothingToUndo ?xq_TooMany ?xn_TooMany ?xk_TooMany ?xs_TooMany ?xt_TooMany ?z_all ?z_bool ?z_enumerate ?z_int ?z_isinstance ?z_len ?z_list ?z_max ?z_min ?z_range ?z_str ?z_sum ?z_tuple ?z_zip (R.mgi_ns KX G ?g_MOST_CAP) (R.mgi_ns KX G ?g_MOST_DATA) (R.mgi_ns KX G ?g_MOST_FEE) (R.mgi_ns KX G ?g_MOST_MONTHS) (R.mgi_ns KX G ?g_MOST_PRICE) (R.mgi_of hX.2 (.head _))
    (case aC => k_is)
    (case xn_PlanError => k_is)
    (case xn_InvalidUsage => k_is)
    (case xn_InvalidMenu => k_is)
    (case xn_InvalidBills => k_is)
    (case xn_InvalidNumber => k_is)
    (case xn_InvalidPlan => k_is)
    (case xn_NothingToUndo => k_is)
    (case xn_TooMany => k_is)
    (case a0 => k_is)
    (case l0 => k_is)
    (case c0 => k_is)
    (case k0 => k_is)
    (case a1 => k_is)
    (case l1 => k_is)
    (case c1 => k_is)
    (case k1 => k_is)
    (case a2 => k_is)
    (case l2 => k_is)
    (case c2 => k_is)
    (case k2 => k_is)
    (case a3 => k_is)
    (case l3 => k_is)
    (case c3 => k_is)
    (case k3 => k_is)
    (case a4 => k_is)
    (case l4 => k_is)
    (case c4 => k_is)
    (case k4 => k_is)
    (case a5 => k_is)
    (case l5 => k_is)
    (case c5 => k_is)
    (case k5 => k_is)
    (case a6 => k_is)
    (case l6 => k_is)
    (case c6 => k_is)
    (case k6 => k_is)
    (case a7 => k_is)
    (case i7 => k_is)
    (case l7 => k_is)
    (case c7 => k_is)
    (case k7 => k_is)
    (case a8 => k_is)
    (case l8 => k_is)
    (case c8 => k_is)
    (case k8 => k_is)
    (case a9 => k_is)
    (case i9 => k_is)
    (case l9 => k_is)
    (case c9 => k_is)
    (case k9 => k_is)
    (case a10 => k_is)
    (case l10 => k_is)
    (case c10 => k_is)
    (case k10 => k_is)
    (case a11 => k_is)
    (case l11 => k_is)
    (case c11 => k_is)
    (case k11 => k_is)
    (case a12 => k_is)
    (case i12 => k_is)
    (case l12 => k_is)
    (case c12 => k_is)
    (case k12 => k_is)
    (case a13 => k_is)
    (case l13 => k_is)
    (case c13 => k_is)
    (case k13 => k_is)
    (case a14 => k_is)
    (case l14 => k_is)
    (case c14 => k_is)
    (case k14 => k_is)
    (case a15 => k_is)
    (case l15 => k_is)
    (case c15 => k_is)
    (case k15 => k_is)
    (case a16 => k_is)
    (case i16 => k_is)
    (case l16 => k_is)
    (case c16 => k_is)
    (case k16 => k_is)
    (case a17 => k_is)
    (case l17 => k_is)
    (case c17 => k_is)
    (case k17 => k_is)
    (case a18 => k_is)
    (case g18 => k_is)
    (case t18 => k_is)
    (case r18 => k_is)
    (case l18 => k_is)
    (case c18 => k_is)
    (case k18 => k_is)
    (case a19 => k_is)
    (case g19 => k_is)
    (case t19 => k_is)
    (case r19 => k_is)
    (case l19 => k_is)
    (case c19 => k_is)
    (case k19 => k_is)
    (case a20 => k_is)
    (case g20 => k_is)
    (case t20 => k_is)
    (case r20 => k_is)
    (case l20 => k_is)
    (case c20 => k_is)
    (case k20 => k_is)
    (case a21 => k_is)
    (case g21 => k_is)
    (case t21 => k_is)
    (case r21 => k_is)
    (case l21 => k_is)
    (case c21 => k_is)
    (case k21 => k_is)
    (case a22 => k_is)
    (case g22 => k_is)
    (case t22 => k_is)
    (case r22 => k_is)
    (case l22 => k_is)
    (case c22 => k_is)
    (case k22 => k_is)
    (case a23 => k_is)
    (case i23 => k_is)
    (case l23 => k_is)
    (case c23 => k_is)
    (case k23 => k_is)
    (case a24 => k_is)
    (case i24 => k_is)
    (case l24 => k_is)
    (case c24 => k_is)
    (case k24 => k_is)
    (case a25 => k_is)
    (case l25 => k_is)
    (case c25 => k_is)
    (case k25 => k_is)
    (case a26 => k_is)
    (case i26 => k_is)
    (case l26 => k_is)
    (case c26 => k_is)
    (case k26 => k_is)
    (case a27 => k_is)
    (case l27 => k_is)
    (case c27 => k_is)
    (case k27 => k_is)
    (case a28 => k_is)
    (case l28 => k_is)
    (case c28 => k_is)
    (case k28 => k_is)
    (case a29 => k_is)
    (case l29 => k_is)
    (case c29 => k_is)
    (case k29 => k_is)
    (case a30 => k_is)
    (case l30 => k_is)
    (case c30 => k_is)
    (case k30 => k_is)
    (case a31 => k_is)
    (case l31 => k_is)
    (case c31 => k_is)
    (case k31 => k_is)
    (case a32 => k_is)
    (case l32 => k_is)
    (case c32 => k_is)
    (case k32 => k_is)
    (case a33 => k_is)
    (case l33 => k_is)
    (case c33 => k_is)
    (case k33 => k_is)
    (case a34 => k_is)
    (case l34 => k_is)
    (case c34 => k_is)
    (case k34 => k_is)
    (case a35 => k_is)
    (case l35 => k_is)
    (case c35 => k_is)
    (case k35 => k_is)
    (case a36 => k_is)
    (case l36 => k_is)
    (case c36 => k_is)
    (case k36 => k_is)
    (case cpg => k_is)
    (case chd => k_is)
    (case cpo => k_is)
    (case csa => k_is)
    (case cmk => k_is)
    (case ckc => k_is)
    (case cnS => k_is)
    (case ih => k_is)
    (case im => k_is)
    (case ik => kernel_rfl)
    (case inf => kernel_rfl)
    (case rr => (first | k_is | kernel_rfl))
    (case rg => k_is)
    (case cv => k_is)
    (case fltA => k_is)
    (case fr => k_is)
    (case ff => k_is)
    (case fl => k_is)
    (case fc => k_is)
    (case fk => k_is)
    (case cM => k_is)
    (case cMg => k_is)
    (case nt => k_is)
    (case en => k_is)
    (case et => k_is)
    (case tc => rfl)
    (case tk => k_is)
    (case tv => rfl)
    (case tl => (first | k_is | kernel_rfl))
    (case tc_1 => rfl)
    (case tk_1 => k_is)
    (case tv_1 => rfl)
    (case tl_1 => (first | k_is | kernel_rfl))
    (case td => decide)
    (case tn_law_numbers_right => k_is)
    (case tn_law_bills_right => k_is)
    (case tn_law_plan_calls => k_is)
    (case tn_law_usage_calls => k_is)
    (case eg_InvalidNumber => k_is)
    (case ek_InvalidNumber => k_is)
    (case ed_InvalidNumber => k_is)
    (case ea_InvalidNumber => k_is)
    (case em_InvalidNumber => k_is)
    (case ep_InvalidNumber => kernel_rfl)
    (case eo_InvalidNumber_InvalidPlan => kernel_rfl)
    (case eo_InvalidNumber_InvalidUsage => kernel_rfl)
    (case eo_InvalidNumber_InvalidMenu => kernel_rfl)
    (case eo_InvalidNumber_InvalidBills => kernel_rfl)
    (case eo_InvalidNumber_InvalidNumber => kernel_rfl)
    (case eo_InvalidNumber_TooMany => kernel_rfl)
    (case eo_InvalidNumber_NothingToUndo => kernel_rfl)
    (case eg_InvalidPlan => k_is)
    (case ek_InvalidPlan => k_is)
    (case ed_InvalidPlan => k_is)
    (case ea_InvalidPlan => k_is)
    (case em_InvalidPlan => k_is)
    (case ep_InvalidPlan => kernel_rfl)
    (case eo_InvalidPlan_InvalidPlan => kernel_rfl)
    (case eo_InvalidPlan_InvalidUsage => kernel_rfl)
    (case eo_InvalidPlan_InvalidMenu => kernel_rfl)
    (case eo_InvalidPlan_InvalidBills => kernel_rfl)
    (case eo_InvalidPlan_InvalidNumber => kernel_rfl)
    (case eo_InvalidPlan_TooMany => kernel_rfl)
    (case eo_InvalidPlan_NothingToUndo => kernel_rfl)
    (case eg_TooMany => k_is)
    (case ek_TooMany => k_is)
    (case ed_TooMany => k_is)
    (case ea_TooMany => k_is)
    (case em_TooMany => k_is)
    (case ep_TooMany => kernel_rfl)
    (case eo_TooMany_InvalidPlan => kernel_rfl)
    (case eo_TooMany_InvalidUsage => kernel_rfl)
    (case eo_TooMany_InvalidMenu => kernel_rfl)
    (case eo_TooMany_InvalidBills => kernel_rfl)
    (case eo_TooMany_InvalidNumber => kernel_rfl)
    (case eo_TooMany_TooMany => kernel_rfl)
    (case eo_TooMany_NothingToUndo => kernel_rfl)
    (case eg_NothingToUndo => k_is)
    (case ek_NothingToUndo => k_is)
    (case ed_NothingToUndo => k_is)
    (case ea_NothingToUndo => k_is)
    (case em_NothingToUndo => k_is)
    (case ep_NothingToUndo => kernel_rfl)
    (case eo_NothingToUndo_InvalidPlan => kernel_rfl)
    (case eo_NothingToUndo_InvalidUsage => kernel_rfl)
    (case eo_NothingToUndo_InvalidMenu => kernel_rfl)
    (case eo_NothingToUndo_InvalidBills => kernel_rfl)
    (case eo_NothingToUndo_InvalidNumber => kernel_rfl)
    (case eo_NothingToUndo_TooMany => kernel_rfl)
    (case eo_NothingToUndo_NothingToUndo => kernel_rfl)
    (case xq_InvalidNumber => kernel_rfl)
    (case xk_InvalidNumber => k_is)
    (case xs_InvalidNumber => k_is)
    (case xt_InvalidNumber => k_is)
    (case xq_InvalidPlan => kernel_rfl)
    (case xk_InvalidPlan => k_is)
    (case xs_InvalidPlan => k_is)
    (case xt_InvalidPlan => k_is)
    (case xq_NothingToUndo => kernel_rfl)
    (case xk_NothingToUndo => k_is)
    (case xs_NothingToUndo => k_is)
    (case xt_NothingToUndo => k_is)
    (case xq_TooMany => kernel_rfl)
    (case xk_TooMany => k_is)
    (case xs_TooMany => k_is)
    (case xt_TooMany => k_is)
    (case z_all => k_is)
    (case z_bool => k_is)
    (case z_enumerate => k_is)
    (case z_int => k_is)
    (case z_isinstance => k_is)
    (case z_len => k_is)
    (case z_list => k_is)
    (case z_max => k_is)
    (case z_min => k_is)
    (case z_range => k_is)
    (case z_str => k_is)
    (case z_sum => k_is)
    (case z_tuple => k_is)
    (case z_zip => k_is)
    (case g_MOST_CAP => k_is)
    (case g_MOST_DATA => k_is)
    (case g_MOST_FEE => k_is)
    (case g_MOST_MONTHS => k_is)
    (case g_MOST_PRICE => k_is)
