import PyProof.Rows.All
import Wide.All
import OpenK.AllK
import Wide.FinOn
import HandS.ForMost
import HandS.ForExc
import HandS.IsInst
import HandS.ExcIs
import HandS.Deep
import HandS.SortInts
import HandS.Conv
import HandS.RevTup
import HandS.Rev
import HandS.WordsExc
import HandS.SetFor
import HandS.Strs
import HandS.Replace
import HandS.TupAny
import KE.GoesRaise
import HandS.SortKw
import HandS.ExcValue
import HandS.SuiteRaise
import HandS.Codes
import KE.DataMinMax
import KE.DataCmp
import KE.KeyNested
import KE.KDictKeyed
import KE.KDictDisplayH
import PySem.Challenge.RW_kinturns_k06_the_shortest_walk
set_option Elab.async false
set_option linter.all false
set_option maxRecDepth 100000
set_option maxHeartbeats 4000000
/-! Data without a heap: what an expression is worth, what a block does, over values that are plain trees; lists that change are cells. -/
namespace KT
open PySem L2

/-- data: loc k is the k-th cell; scr the script -/
inductive D where
  | non | bl (b : Bool) | int (i : Int) | str (s : Str)
  | lst (xs : List D) | tup (xs : List D) | obj (C : Addr) (fs : List (Str × D)) | loc (k : Nat) | adr (a : Addr) | scr (ns : List Int) | ty (n : String)

abbrev Fps := List (List Addr)
abbrev EnvD := List (Option D)

mutual
inductive Rp (K : PySem.W.Frag) (A : Fps) (G : Hp) : V → D → Prop
  | non : Rp K A G .non .non
  | bl (b : Bool) : Rp K A G (.bl b) (.bl b)
  | int (i : Int) : Rp K A G (.int i) (.int i)
  | str (s : Str) : Rp K A G (.str s) (.str s)
  | lst {a : Addr} {vs : List V} {ds : List D} : G a = some (.lst vs) → Rps K A G vs ds → Rp K A G (.ref a) (.lst ds)
  | tup {a : Addr} {vs : List V} {ds : List D} : G a = some (.tup vs) → Rps K A G vs ds → Rp K A G (.ref a) (.tup ds)
  | obj {a C dx : Addr} {fvs : List (Str × V)} {fs : List (Str × D)} : G a = some (.ins C dx fvs) → Rfs K A G fvs fs → Rp K A G (.ref a) (.obj C fs)
  | loc {k : Nat} {p : Addr} {r : List Addr} : A[k]? = some (p :: r) → Rp K A G (.ref p) (.loc k)
  | adr (a : Addr) : Rp K A G (.ref a) (.adr a)
  | ty (n : String) : Rp K A G (.ty n) (.ty n)
  | scr {a : Addr} {ns : List Int} : SqL K G a (ns.map V.int) → Rp K A G (.ref a) (.scr ns)
inductive Rps (K : PySem.W.Frag) (A : Fps) (G : Hp) : List V → List D → Prop
  | nil : Rps K A G [] []
  | cons {v : V} {d : D} {vs : List V} {ds : List D} : Rp K A G v d → Rps K A G vs ds → Rps K A G (v :: vs) (d :: ds)
inductive Rfs (K : PySem.W.Frag) (A : Fps) (G : Hp) : List (Str × V) → List (Str × D) → Prop
  | nil : Rfs K A G [] []
  | cons {n : Str} {v : V} {d : D} {fvs : List (Str × V)} {fs : List (Str × D)} : Rp K A G v d → Rfs K A G fvs fs → Rfs K A G ((n, v) :: fvs) ((n, d) :: fs)
end

section
variable {K : PySem.W.Frag} {A A' : Fps} {G G' : Hp}
/-- footprints only grow at their ends -/
def Pre (A A' : Fps) : Prop := ∀ (k : Nat) (fp : List Addr), A[k]? = some fp → ∃ r : List Addr, A'[k]? = some (fp ++ r)
theorem Pre.refl (A : Fps) : Pre A A := fun k fp h => ⟨[], by rw [List.append_nil]; exact h⟩
theorem Pre.trans {A1 A2 A3 : Fps} (h : Pre A1 A2) (g : Pre A2 A3) : Pre A1 A3 := fun k fp e => by
  obtain ⟨r, e1⟩ := h k fp e
  obtain ⟨r2, e2⟩ := g k _ e1
  exact ⟨r ++ r2, by rw [e2, List.append_assoc]⟩
theorem Pre.app (A B : Fps) : Pre A (A ++ B) := fun k fp h => ⟨[], by
  have hl := (List.getElem?_eq_some_iff.mp h).1
  rw [List.append_nil, List.getElem?_append_left hl]; exact h⟩
mutual
theorem Rp.mono (e : Same G G') (p : Pre A A') : ∀ (d : D) (v : V), Rp K A G v d → Rp K A' G' v d
  | .non, _, h => by cases h; exact .non
  | .bl _, _, h => by cases h; exact .bl _
  | .int _, _, h => by cases h; exact .int _
  | .str _, _, h => by cases h; exact .str _
  | .lst ds, _, h => by cases h with | lst h1 h2 => exact .lst (e _ _ h1) (Rps.mono e p ds _ h2)
  | .tup ds, _, h => by cases h with | tup h1 h2 => exact .tup (e _ _ h1) (Rps.mono e p ds _ h2)
  | .obj C fs, _, h => by cases h with | obj h1 h2 => exact .obj (e _ _ h1) (Rfs.mono e p fs _ h2)
  | .loc k, _, h => by
    cases h with
    | loc h1 =>
      obtain ⟨r, e1⟩ := p _ _ h1
      exact .loc e1
  | .adr a, _, h => by cases h; exact .adr _
  | .ty a, _, h => by cases h; exact .ty _
  | .scr ns, _, h => by cases h with | scr h1 => exact .scr (e.seq h1)
theorem Rps.mono (e : Same G G') (p : Pre A A') : ∀ (ds : List D) (vs : List V), Rps K A G vs ds → Rps K A' G' vs ds
  | [], _, h => by cases h; exact .nil
  | d :: ds, _, h => by cases h with | cons h1 h2 => exact .cons (Rp.mono e p d _ h1) (Rps.mono e p ds _ h2)
theorem Rfs.mono (e : Same G G') (p : Pre A A') : ∀ (fs : List (Str × D)) (fvs : List (Str × V)), Rfs K A G fvs fs → Rfs K A' G' fvs fs
  | [], _, h => by cases h; exact .nil
  | (n, d) :: fs, _, h => by cases h with | cons h1 h2 => exact .cons (Rp.mono e p d _ h1) (Rfs.mono e p fs _ h2)
end
theorem Rps.length : ∀ {vs : List V} {ds : List D}, Rps K A G vs ds → vs.length = ds.length
  | _, _, .nil => rfl
  | _, _, .cons _ t => by rw [List.length_cons, List.length_cons, t.length]
theorem Rps.get : ∀ {vs : List V} {ds : List D} {i : Nat} {d : D}, Rps K A G vs ds → ds[i]? = some d → ∃ v, vs[i]? = some v ∧ Rp K A G v d
  | _, _, _, _, .nil, h => by simp at h
  | _, _, 0, _, .cons r _, h => by simp at h; subst h; exact ⟨_, rfl, r⟩
  | _, _, i + 1, d, .cons _ t, h => by
    obtain ⟨v, h1, h2⟩ := Rps.get (i := i) (d := d) t (by simpa using h)
    exact ⟨v, by simpa using h1, h2⟩
theorem Rps.get' : ∀ {vs : List V} {ds : List D} {i : Nat} {v : V}, Rps K A G vs ds → vs[i]? = some v → ∃ d, ds[i]? = some d ∧ Rp K A G v d
  | _, _, _, _, .nil, h => by simp at h
  | _, _, 0, _, .cons r _, h => by simp at h; subst h; exact ⟨_, rfl, r⟩
  | _, _, i + 1, v, .cons _ t, h => by
    obtain ⟨d, h1, h2⟩ := Rps.get' (i := i) (v := v) t (by simpa using h)
    exact ⟨d, by simpa using h1, h2⟩
theorem Rps.append : ∀ {vs ws : List V} {ds es : List D}, Rps K A G vs ds → Rps K A G ws es → Rps K A G (vs ++ ws) (ds ++ es)
  | _, _, _, _, .nil, s => s
  | _, _, _, _, .cons r t, s => .cons r (Rps.append t s)
theorem Rps.take : ∀ {vs : List V} {ds : List D} (n : Nat), Rps K A G vs ds → Rps K A G (vs.take n) (ds.take n)
  | _, _, 0, _ => by simpa using .nil
  | _, _, _ + 1, .nil => .nil
  | _, _, n + 1, .cons r t => .cons r (Rps.take n t)
theorem Rps.drop : ∀ {vs : List V} {ds : List D} (n : Nat), Rps K A G vs ds → Rps K A G (vs.drop n) (ds.drop n)
  | _, _, 0, r => r
  | _, _, _ + 1, .nil => .nil
  | _, _, n + 1, .cons _ t => Rps.drop n t
theorem Rps.set {v : V} {d : D} (r : Rp K A G v d) : ∀ {vs : List V} {ds : List D} (n : Nat), Rps K A G vs ds → Rps K A G (vs.set n v) (ds.set n d)
  | _, _, _, .nil => .nil
  | _, _, 0, .cons _ t => .cons r t
  | _, _, n + 1, .cons q t => .cons q (Rps.set r n t)
theorem Rps.erase : ∀ {vs : List V} {ds : List D} (n : Nat), Rps K A G vs ds → Rps K A G (vs.eraseIdx n) (ds.eraseIdx n)
  | _, _, _, .nil => .nil
  | _, _, 0, .cons _ t => t
  | _, _, n + 1, .cons q t => .cons q (Rps.erase n t)
theorem Rps.one {v : V} {d : D} (r : Rp K A G v d) : Rps K A G [v] [d] := .cons r .nil
theorem Rps.ints : ∀ {vs : List V} {ns : List Int}, Rps K A G vs (ns.map D.int) → vs = ns.map V.int
  | _, [], h => by cases h; rfl
  | _, n :: ns, h => by
    cases h with
    | cons r t =>
      cases r
      rw [Rps.ints (ns := ns) t]; rfl
theorem Rps.of_ints : ∀ (ns : List Int), Rps K A G (ns.map V.int) (ns.map D.int)
  | [] => .nil
  | n :: ns => .cons (.int n) (Rps.of_ints ns)
theorem Rps.of_bls : ∀ (ns : List Bool), Rps K A G (ns.map V.bl) (ns.map D.bl)
  | [] => .nil
  | n :: ns => .cons (.bl n) (Rps.of_bls ns)
theorem Rps.bls : ∀ {vs : List V} {ns : List Bool}, Rps K A G vs (ns.map D.bl) → vs = ns.map V.bl
  | _, [], h => by cases h; rfl
  | _, n :: ns, h => by
    cases h with
    | cons r t =>
      cases r
      rw [Rps.bls (ns := ns) t]; rfl
theorem Rps.strs : ∀ {vs : List V} {ns : List Str}, Rps K A G vs (ns.map D.str) → vs = ns.map V.str
  | _, [], h => by cases h; rfl
  | _, n :: ns, h => by
    cases h with
    | cons r t =>
      cases r
      rw [Rps.strs (ns := ns) t]; rfl
theorem Rps.of_strs : ∀ (ns : List Str), Rps K A G (ns.map V.str) (ns.map D.str)
  | [] => .nil
  | n :: ns => .cons (.str n) (Rps.of_strs ns)
theorem Rfs.lookup {f : Str} {d : D} : ∀ {fvs : List (Str × V)} {fs : List (Str × D)}, Rfs K A G fvs fs → fs.lookup f = some d → ∃ v, fvs.lookup f = some v ∧ Rp K A G v d
  | _, _, .nil, h => by simp at h
  | (n, v) :: fvs, _ :: fs, .cons r t, h => by
    rw [List.lookup_cons] at h ⊢
    cases e : f == n with
    | true =>
      rw [e] at h
      cases h
      exact ⟨_, rfl, r⟩
    | false =>
      rw [e] at h
      exact Rfs.lookup t h
theorem Rfs.lookup_none {f : Str} : ∀ {fvs : List (Str × V)} {fs : List (Str × D)}, Rfs K A G fvs fs → fs.lookup f = none → fvs.lookup f = none
  | _, _, .nil, h => rfl
  | (n, v) :: fvs, _ :: fs, .cons r t, h => by
    rw [List.lookup_cons] at h ⊢
    cases e : f == n with
    | true =>
      rw [e] at h
      cases h
    | false =>
      rw [e] at h
      exact Rfs.lookup_none t h
end

/-- a book as it changes -/
structure Bk where
  sexes : List Str
  parents : List (Option (Int × Int))
  wedded : List (List Int)
  young : List (List Int)
def parD : Option (Int × Int) → D
  | none => .tup [.non, .non]
  | some (f, m) => .tup [.int f, .int m]

/-- cells -/
inductive C where
  | lst (ds : List D) | dk (kvs : List (Key × D)) | bk (CB : Addr) (B : Bk) | ins (Cl : Addr) (fs : List (Str × D)) | nd (es : List (Int × D × D))

open Classical in
/-- the heap without what is hidden -/
noncomputable def Vw (F : Addr → Prop) (A : Fps) (H : Hp) : Hp := fun a => if F a ∨ (∃ fp ∈ A, a ∈ fp) then none else H a
theorem Vw.some_of {F : Addr → Prop} {A : Fps} {H : Hp} {a : Addr} {o : HO} (h : Vw F A H a = some o) : H a = some o ∧ ¬ F a ∧ ∀ fp ∈ A, a ∉ fp := by
  unfold Vw at h
  split at h
  · cases h
  · rename_i n
    exact ⟨h, fun z => n (.inl z), fun fp hf hm => n (.inr ⟨fp, hf, hm⟩)⟩
theorem Vw.of {F : Addr → Prop} {A : Fps} {H : Hp} {a : Addr} {o : HO} (h : H a = some o) (hF : ¬ F a) (hA : ∀ fp ∈ A, a ∉ fp) : Vw F A H a = some o := by
  unfold Vw
  rw [if_neg (by rintro (z | ⟨fp, h1, h2⟩); exact hF z; exact hA fp h1 h2)]
  exact h
theorem Vw.le (F : Addr → Prop) (A : Fps) (H : Hp) : Same (Vw F A H) H := fun _ _ h => (Vw.some_of h).1

inductive Kvs (K : PySem.W.Frag) (A : Fps) (G : Hp) : List (Key × V) → List (Key × D) → Prop
  | nil : Kvs K A G [] []
  | cons {k : Key} {v : V} {d : D} {vs : List (Key × V)} {ds : List (Key × D)} : Rp K A G v d → Kvs K A G vs ds → Kvs K A G ((k, v) :: vs) ((k, d) :: ds)

/-- a dict as it stands -/
def rawO (a : Addr) (es : Array DictEntry) (ep : Nat) : HO := .ext fun h => ∃ o, h.get? a = some o ∧ o.ExactDict ∧ o.data = .dict es ep
/-- its entries: hash, a key that is a tuple, value -/
inductive Nes (K : PySem.W.Frag) (A : Fps) (G : Hp) : List DictEntry → List (Int × D × D) → Prop
  | nil : Nes K A G [] []
  | cons {e : DictEntry} {b : Addr} {v : V} {i : Int} {kd d : D} {es : List DictEntry} {ks : List (Int × D × D)} : e.hash = i → e.key = .ref b → Rp K A G (.ref b) kd → RelV v e.val → Rp K A G v d → Nes K A G es ks → Nes K A G (e :: es) ((i, kd, d) :: ks)
/-- inner lists of ints, each at its own address -/
def Inner (H : Hp) : List Addr → List (List Int) → Prop
  | [], [] => True
  | a :: as, xs :: xss => H a = some (.lst (xs.map V.int)) ∧ Inner H as xss
  | _, _ => False

def Cell (K : PySem.W.Frag) (A : Fps) (G H : Hp) (fp : List Addr) : C → Prop
  | .lst ds => ∃ p vs, fp = [p] ∧ H p = some (.lst vs) ∧ Rps K A G vs ds
  | .dk kvs => ∃ p kws, fp = [p] ∧ H p = some (.dK kws) ∧ Kvs K A G kws kvs
  | .ins Cl fs => ∃ p dx fvs, fp = [p] ∧ H p = some (.ins Cl dx fvs) ∧ Rfs K A G fvs fs
  | .nd ks => ∃ p es ep, fp = [p] ∧ H p = some (rawO p es ep) ∧ (p == sysModules) = false ∧ Nes K A G es.toList ks
  | .bk CB B => ∃ b dx s p w y was yas pvs r, fp = b :: r ∧ (∀ a, a ∈ fp ↔ a = b ∨ a = s ∨ a = p ∨ a = w ∨ a = y ∨ a ∈ was ∨ a ∈ yas) ∧ ([b, s, p, w, y] ++ was ++ yas).Nodup ∧
      H b = some (.ins CB dx [("sexes", .ref s), ("parents", .ref p), ("wedded", .ref w), ("young", .ref y)]) ∧ H s = some (.lst (B.sexes.map V.str)) ∧
      H p = some (.lst pvs) ∧ Rps K A G pvs (B.parents.map parD) ∧ H w = some (.lst (was.map V.ref)) ∧ Inner H was B.wedded ∧ H y = some (.lst (yas.map V.ref)) ∧ Inner H yas B.young

/-- the store: F hidden by the callers, A the cells' footprints, M their content -/
structure Sto (K : PySem.W.Frag) (F : Addr → Prop) (A : Fps) (M : List C) (H : Hp) : Prop where
  hid : ∀ a, F a → H a ≠ none
  trk : ∀ fp ∈ A, ∀ a ∈ fp, H a ≠ none ∧ ¬ F a
  dis : ∀ (i j : Nat) (fp gp : List Addr) (a : Addr), A[i]? = some fp → A[j]? = some gp → a ∈ fp → a ∈ gp → i = j
  cells : ∀ (k : Nat) (c : C), M[k]? = some c → ∃ fp, A[k]? = some fp ∧ Cell K A (Vw F A H) H fp c
  len : A.length = M.length
def Slots (K : PySem.W.Frag) (A : Fps) (G : Hp) (env : EnvD) (σ : L2.St) : Prop := ∀ (i : Nat) (d : D), env[i]? = some (some d) → ∃ v, σ[i]? = some (some v) ∧ Rp K A G v d

/-- a step: what is no cell's stays, new cells are new -/
structure Stp (A : Fps) (H : Hp) (A' : Fps) (H' : Hp) : Prop where
  frame : ∀ a o, H a = some o → (∀ fp ∈ A, a ∉ fp) → H' a = some o
  pre : Pre A A'
  fresh : ∀ fp ∈ A', ∀ a ∈ fp, (∃ gp ∈ A, a ∈ gp) ∨ H a = none

section
variable {K : PySem.W.Frag} {F : Addr → Prop} {A A1 A2 : Fps} {M M1 : List C} {H H1 H2 : Hp} {p : Addr} {o : HO}
theorem Stp.refl (A : Fps) (H : Hp) : Stp A H A H := ⟨fun _ _ h _ => h, Pre.refl A, fun fp h a ha => .inl ⟨fp, h, ha⟩⟩
theorem Stp.trans (a : Stp A H A1 H1) (b : Stp A1 H1 A2 H2) : Stp A H A2 H2 := by
  refine ⟨fun x o h hn => b.frame x o (a.frame x o h hn) fun fp hf hx => ?_, a.pre.trans b.pre, fun fp hf x hx => ?_⟩
  · rcases a.fresh fp hf x hx with ⟨gp, h1, h2⟩ | h1
    · exact hn gp h1 h2
    · rw [h] at h1; cases h1
  · rcases b.fresh fp hf x hx with ⟨gp, h1, h2⟩ | h1
    · exact a.fresh gp h1 x h2
    · cases e : H x with
      | none => exact .inr rfl
      | some o =>
        by_cases hm : ∃ gp ∈ A, x ∈ gp
        · exact .inl hm
        · have := a.frame x o e fun fp hf hx => hm ⟨fp, hf, hx⟩
          rw [h1] at this; cases this
theorem Stp.same (s : Same H H1) : Stp A H A H1 := ⟨fun a o h _ => s a o h, Pre.refl A, fun fp h a ha => .inl ⟨fp, h, ha⟩⟩
theorem Stp.nil (a : Stp [] H A1 H1) : Same H H1 := fun x o h => a.frame x o h fun fp hf => nomatch hf
/-- what is seen stays seen -/
theorem Stp.view (hid : ∀ a, F a → H a ≠ none) (a : Stp A H A1 H1) : Same (Vw F A H) (Vw F A1 H1) := fun x o h => by
  obtain ⟨h1, h2, h3⟩ := Vw.some_of h
  refine Vw.of (a.frame x o h1 h3) h2 fun fp hf hx => ?_
  rcases a.fresh fp hf x hx with ⟨gp, g1, g2⟩ | g1
  · exact h3 gp g1 g2
  · rw [h1] at g1; cases g1
theorem Stp.free (a : Stp A H A1 H1) (trk : ∀ fp ∈ A, ∀ x ∈ fp, H1 x ≠ none) (h : H1 p = none) : H p = none := by
  cases e : H p with
  | none => rfl
  | some o =>
    by_cases hm : ∃ gp ∈ A, p ∈ gp
    · obtain ⟨gp, h1, h2⟩ := hm
      exact absurd h (trk gp h1 p h2)
    · have := a.frame p o e fun fp hf hx => hm ⟨fp, hf, hx⟩
      rw [h] at this; cases this
theorem Rp.stp {v : V} {d : D} (S : Sto K F A M H) (t : Stp A H A1 H1) (h : Rp K A (Vw F A H) v d) : Rp K A1 (Vw F A1 H1) v d := Rp.mono (t.view S.hid) t.pre _ _ h
theorem Rps.stp {v : List V} {d : List D} (S : Sto K F A M H) (t : Stp A H A1 H1) (h : Rps K A (Vw F A H) v d) : Rps K A1 (Vw F A1 H1) v d := Rps.mono (t.view S.hid) t.pre _ _ h
theorem Slots.stp {env : EnvD} {σ : L2.St} (S : Sto K F A M H) (t : Stp A H A1 H1) (h : Slots K A (Vw F A H) env σ) : Slots K A1 (Vw F A1 H1) env σ := fun i d e => by
  obtain ⟨v, h1, h2⟩ := h i d e
  exact ⟨v, h1, h2.stp S t⟩
theorem Kvs.mono {A A' : Fps} {G G' : Hp} (e : Same G G') (p : Pre A A') : ∀ {kws : List (Key × V)} {kvs : List (Key × D)}, Kvs K A G kws kvs → Kvs K A' G' kws kvs
  | _, _, .nil => .nil
  | _, _, .cons r t => .cons (Rp.mono e p _ _ r) (Kvs.mono e p t)
theorem Nes.mono {A A' : Fps} {G G' : Hp} (e : Same G G') (p : Pre A A') : ∀ {es : List DictEntry} {ks : List (Int × D × D)}, Nes K A G es ks → Nes K A' G' es ks
  | _, _, .nil => .nil
  | _, _, .cons h1 h2 r h3 r2 t => .cons h1 h2 (Rp.mono e p _ _ r) h3 (Rp.mono e p _ _ r2) (Nes.mono e p t)
theorem Inner.keep {H H1 : Hp} : ∀ {as : List Addr} {xss : List (List Int)}, (∀ a ∈ as, ∀ o, H a = some o → H1 a = some o) → Inner H as xss → Inner H1 as xss
  | [], [], _, _ => trivial
  | a :: as, xs :: xss, k, h => ⟨k a List.mem_cons_self _ h.1, Inner.keep (fun b hb o e => k b (List.mem_cons_of_mem _ hb) o e) h.2⟩
  | [], _ :: _, _, h => h.elim
  | _ :: _, [], _, h => h.elim
/-- a cell that is not touched -/
theorem Cell.keep {A A1 : Fps} {G G1 : Hp} {fp : List Addr} (e : Same G G1) (p : Pre A A1) (k : ∀ a ∈ fp, ∀ o, H a = some o → H1 a = some o) : ∀ {c : C}, Cell K A G H fp c → Cell K A1 G1 H1 fp c
  | .lst ds, ⟨x, vs, h1, h2, h3⟩ => ⟨x, vs, h1, k x (by rw [h1]; exact List.mem_singleton.mpr rfl) _ h2, h3.mono e p⟩
  | .dk kvs, ⟨x, vs, h1, h2, h3⟩ => ⟨x, vs, h1, k x (by rw [h1]; exact List.mem_singleton.mpr rfl) _ h2, h3.mono e p⟩
  | .ins Cl fs, ⟨x, dx, fvs, h1, h2, h3⟩ => ⟨x, dx, fvs, h1, k x (by rw [h1]; exact List.mem_singleton.mpr rfl) _ h2, Rfs.mono e p _ _ h3⟩
  | .nd ks, ⟨x, es, ep, h1, h2, h4, h3⟩ => ⟨x, es, ep, h1, k x (by rw [h1]; exact List.mem_singleton.mpr rfl) _ h2, h4, h3.mono e p⟩
  | .bk CB B, ⟨b, dx, s, p', w, y, was, yas, pvs, r, h1, h2, h3, h4, h5, h6, h7, h8, h9, h10, h11⟩ =>
    ⟨b, dx, s, p', w, y, was, yas, pvs, r, h1, h2, h3, k b ((h2 b).mpr (.inl rfl)) _ h4, k s ((h2 s).mpr (.inr (.inl rfl))) _ h5, k p' ((h2 p').mpr (.inr (.inr (.inl rfl)))) _ h6, h7.mono e p,
      k w ((h2 w).mpr (.inr (.inr (.inr (.inl rfl))))) _ h8, h9.keep fun a ha o q => k a ((h2 a).mpr (.inr (.inr (.inr (.inr (.inr (.inl ha))))))) o q,
      k y ((h2 y).mpr (.inr (.inr (.inr (.inr (.inl rfl)))))) _ h10, h11.keep fun a ha o q => k a ((h2 a).mpr (.inr (.inr (.inr (.inr (.inr (.inr ha))))))) o q⟩
theorem Inner.at {H : Hp} {a : Addr} : ∀ {as : List Addr} {xss : List (List Int)}, Inner H as xss → a ∈ as → ∃ xs, H a = some (.lst xs)
  | [], _, _, h => nomatch h
  | b :: as, xs :: xss, i, h => by
    rcases List.mem_cons.mp h with e | h
    · exact ⟨_, by rw [e]; exact i.1⟩
    · exact Inner.at i.2 h
  | _ :: _, [], h, _ => h.elim
/-- no cell's address holds a tuple -/
theorem Cell.notup {A : Fps} {G H : Hp} {fp : List Addr} {a : Addr} {xs : List V} (ha : a ∈ fp) (e : H a = some (.tup xs)) : ∀ {c : C}, ¬ Cell K A G H fp c
  | .lst ds, ⟨x, vs, h1, h2, h3⟩ => by rw [h1] at ha; rw [List.mem_singleton.mp ha, h2] at e; cases e
  | .dk kvs, ⟨x, vs, h1, h2, h3⟩ => by rw [h1] at ha; rw [List.mem_singleton.mp ha, h2] at e; cases e
  | .ins Cl fs, ⟨x, dx, fvs, h1, h2, h3⟩ => by rw [h1] at ha; rw [List.mem_singleton.mp ha, h2] at e; cases e
  | .nd ks, ⟨x, es, ep, h1, h2, h4, h3⟩ => by rw [h1] at ha; rw [List.mem_singleton.mp ha, h2] at e; cases e
  | .bk CB B, ⟨b, dx, s, p', w, y, was, yas, pvs, r, h1, h2, h3, h4, h5, h6, h7, h8, h9, h10, h11⟩ => by
    rcases (h2 a).mp ha with rfl | rfl | rfl | rfl | rfl | h | h
    · rw [h4] at e; cases e
    · rw [h5] at e; cases e
    · rw [h6] at e; cases e
    · rw [h8] at e; cases e
    · rw [h10] at e; cases e
    · obtain ⟨xs, q⟩ := h9.at h
      rw [q] at e; cases e
    · obtain ⟨xs, q⟩ := h11.at h
      rw [q] at e; cases e
/-- all that is tracked stays -/
theorem Sto.same (S : Sto K F A M H) (e : Same H H1) : Sto K F A M H1 := by
  have v := Stp.view S.hid (Stp.same (A := A) e)
  refine ⟨fun a ha z => ?_, fun fp hf a ha => ⟨fun z => ?_, (S.trk fp hf a ha).2⟩, S.dis, fun k c hc => ?_, S.len⟩
  · cases q : H a with
    | none => exact S.hid a ha q
    | some o =>
      have := e a o q
      rw [z] at this; cases this
  · cases q : H a with
    | none => exact (S.trk fp hf a ha).1 q
    | some o =>
      have := e a o q
      rw [z] at this; cases this
  · obtain ⟨fp, h1, h2⟩ := S.cells k c hc
    exact ⟨fp, h1, h2.keep v (Pre.refl A) fun a _ o q => e a o q⟩
theorem same_new (h : H p = none) : Same H (upd H p o) := fun a u e => by
  rw [upd_ne (ne_of_none e h)]
  exact e
theorem Sto.new (S : Sto K F A M H) (h : H p = none) : Sto K F A M (upd H p o) := S.same (same_new h)
theorem Sto.seen (S : Sto K F A M H) (h : H p = none) : Vw F A (upd H p o) p = some o :=
  Vw.of upd_same (fun z => S.hid p z h) fun fp hf hp => (S.trk fp hf p hp).1 h
end
end KT
namespace KT
open PySem PySem.Spec PyProof.Rows L2

section
variable {K : PySem.W.Frag} {F : Addr → Prop} {A A1 A2 : Fps} {M M1 : List C} {H H1 H2 : Hp} {p : Addr} {o : HO}
/-- the cells hold what H holds -/
theorem Sto.cell (S : Sto K F A M H) {k : Nat} {c : C} (h : M[k]? = some c) {q : Addr} {r : List Addr} (hA : A[k]? = some (q :: r)) : Cell K A (Vw F A H) H (q :: r) c := by
  obtain ⟨fp, h1, h2⟩ := S.cells k c h
  rw [hA] at h1
  cases h1
  exact h2
theorem Sto.lst (S : Sto K F A M H) {k : Nat} {ds : List D} (h : M[k]? = some (.lst ds)) {v : V} (hv : Rp K A (Vw F A H) v (.loc k)) :
    ∃ q vs, v = .ref q ∧ A[k]? = some [q] ∧ H q = some (.lst vs) ∧ Rps K A (Vw F A H) vs ds := by
  cases hv with
  | @loc _ q r hA =>
    obtain ⟨x, vs, h1, h2, h3⟩ := S.cell h hA
    cases h1
    exact ⟨q, vs, rfl, hA, h2, h3⟩
theorem Sto.dk (S : Sto K F A M H) {k : Nat} {kvs : List (Key × D)} (h : M[k]? = some (.dk kvs)) {v : V} (hv : Rp K A (Vw F A H) v (.loc k)) :
    ∃ q kws, v = .ref q ∧ A[k]? = some [q] ∧ H q = some (.dK kws) ∧ Kvs K A (Vw F A H) kws kvs := by
  cases hv with
  | @loc _ q r hA =>
    obtain ⟨x, vs, h1, h2, h3⟩ := S.cell h hA
    cases h1
    exact ⟨q, vs, rfl, hA, h2, h3⟩
/-- a new cell -/
theorem Sto.grow (S : Sto K F A M H) (hp : H p = none) (e : Same H H1) (h1 : H1 p ≠ none) {c : C} (hc : Cell K (A ++ [[p]]) (Vw F (A ++ [[p]]) H1) H1 [p] c) :
    Sto K F (A ++ [[p]]) (M ++ [c]) H1 ∧ Stp A H (A ++ [[p]]) H1 ∧ ∀ G : Hp, Rp K (A ++ [[p]]) G (.ref p) (.loc M.length) := by
  have S1 := S.same e
  have nF : ¬ F p := fun z => S.hid p z hp
  have nA : ∀ fp ∈ A, p ∉ fp := fun fp hf hm => (S.trk fp hf p hm).1 hp
  have st : Stp A H (A ++ [[p]]) H1 := ⟨fun a u h _ => e a u h, Pre.app A _, fun fp hf a ha => by
    rcases List.mem_append.mp hf with hf | hf
    · exact .inl ⟨fp, hf, ha⟩
    · rw [List.mem_singleton.mp hf] at ha
      rw [List.mem_singleton.mp ha]
      exact .inr hp⟩
  have at_ : (A ++ [[p]])[A.length]? = some [p] := by simp
  refine ⟨⟨S1.hid, fun fp hf a ha => ?_, fun i j fp gp a hi hj ha hb => ?_, fun k c' hk => ?_, by rw [List.length_append, List.length_append, S.len]; rfl⟩, st, fun G => by rw [← S.len]; exact .loc at_⟩
  · rcases List.mem_append.mp hf with hf | hf
    · exact S1.trk fp hf a ha
    · rw [List.mem_singleton.mp hf] at ha
      rw [List.mem_singleton.mp ha]
      exact ⟨h1, nF⟩
  · have sp : ∀ (i : Nat) (fp : List Addr), (A ++ [[p]])[i]? = some fp → (i < A.length ∧ A[i]? = some fp) ∨ (i = A.length ∧ fp = [p]) := fun i fp hi => by
      by_cases hl : i < A.length
      · rw [List.getElem?_append_left hl] at hi
        exact .inl ⟨hl, hi⟩
      · have hlt := (List.getElem?_eq_some_iff.mp hi).1
        rw [List.length_append] at hlt
        have : i = A.length := by simp at hlt; omega
        subst this
        rw [at_] at hi
        cases hi
        exact .inr ⟨rfl, rfl⟩
    rcases sp i fp hi with ⟨l1, e1⟩ | ⟨l1, e1⟩
    · rcases sp j gp hj with ⟨l2, e2⟩ | ⟨l2, e2⟩
      · exact S.dis i j fp gp a e1 e2 ha hb
      · rw [e2] at hb
        rw [List.mem_singleton.mp hb] at ha
        exact absurd ha (nA fp (List.mem_of_getElem? e1))
    · rcases sp j gp hj with ⟨l2, e2⟩ | ⟨l2, e2⟩
      · rw [e1] at ha
        rw [List.mem_singleton.mp ha] at hb
        exact absurd hb (nA gp (List.mem_of_getElem? e2))
      · rw [l1, l2]
  · by_cases hl : k < M.length
    · rw [List.getElem?_append_left hl] at hk
      obtain ⟨fp, g1, g2⟩ := S.cells k c' hk
      refine ⟨fp, ?_, g2.keep (st.view S.hid) (Pre.app A _) fun a _ u q => e a u q⟩
      rw [List.getElem?_append_left (by rw [S.len]; exact hl)]
      exact g1
    · have hlt := (List.getElem?_eq_some_iff.mp hk).1
      rw [List.length_append] at hlt
      have : k = M.length := by simp at hlt; omega
      subst this
      have : c' = c := by simpa using hk.symm
      subst this
      exact ⟨[p], by rw [← S.len]; exact at_, hc⟩
theorem Vw.upd_hid (hp : ∃ fp ∈ A, p ∈ fp) : Vw F A (upd H p o) = Vw F A H := by
  funext a
  unfold Vw
  by_cases h : F a ∨ ∃ fp ∈ A, a ∈ fp
  · rw [if_pos h, if_pos h]
  · rw [if_neg h, if_neg h]
    exact upd_ne fun e => h (.inr (by rw [e]; exact hp))
/-- a cell of one address gets another content -/
theorem Sto.put (S : Sto K F A M H) {k : Nat} (hk : A[k]? = some [p]) {c : C} (hl : k < M.length) (hc : Cell K A (Vw F A H) (upd H p o) [p] c) :
    Sto K F A (M.set k c) (upd H p o) ∧ Stp A H A (upd H p o) := by
  have hm : ([p] : List Addr) ∈ A := List.mem_of_getElem? hk
  have hv : Vw F A (upd H p o) = Vw F A H := Vw.upd_hid ⟨[p], hm, List.mem_singleton.mpr rfl⟩
  have other : ∀ fp ∈ A, ∀ a ∈ fp, upd H p o a ≠ none := fun fp hf a ha z => by
    by_cases e : a = p
    · subst e; rw [upd_same] at z; cases z
    · rw [upd_ne e] at z; exact (S.trk fp hf a ha).1 z
  refine ⟨⟨fun a ha z => ?_, fun fp hf a ha => ⟨other fp hf a ha, (S.trk fp hf a ha).2⟩, S.dis, fun j c' hj => ?_, by rw [List.length_set]; exact S.len⟩, ⟨fun a u h hn => ?_, Pre.refl A, fun fp hf a ha => .inl ⟨fp, hf, ha⟩⟩⟩
  · by_cases e : a = p
    · subst e; exact (S.trk _ hm a (List.mem_singleton.mpr rfl)).2 ha
    · rw [upd_ne e] at z; exact S.hid a ha z
  · rw [hv]
    by_cases e : j = k
    · subst e
      rw [List.getElem?_set_self hl] at hj
      cases hj
      exact ⟨[p], hk, hc⟩
    · rw [List.getElem?_set_ne (Ne.symm e)] at hj
      obtain ⟨fp, g1, g2⟩ := S.cells j c' hj
      refine ⟨fp, g1, g2.keep (fun _ _ h => h) (Pre.refl A) fun a ha u q => ?_⟩
      rw [upd_ne]
      · exact q
      · intro z
        subst z
        exact e (S.dis j k fp [a] a g1 hk ha (List.mem_singleton.mpr rfl))
  · rw [upd_ne]
    · exact h
    · intro z; subst z
      exact hn _ hm (List.mem_singleton.mpr rfl)
end

/-! ### what is meant -/
def SemE (X : Cx) (e : Expr) (σ : L2.St) (H : Hp) (Q : VK) : Prop := ∀ (pins : List (Addr × Obj)) (s : Shared), Inv X pins σ H s → wpAny (model X.prog X.w) X.A (eval e X.env) (EP X pins σ Q) X.xe s
def SemT (X : Cx) (e : Expr) (σ : L2.St) (H : Hp) (Q : Bool → Hp → Prop) : Prop := ∀ (pins : List (Addr × Obj)) (s : Shared), Inv X pins σ H s → wpAny (model X.prog X.w) X.A (isTrue e X.env (eval e X.env)) (TP X pins σ Q) X.xe s
def SemW (X : Cx) (e : Expr) (σ : L2.St) (H : Hp) (Q : Bool → Hp → Prop) : Prop := ∀ (whole : Sem Value) (pins : List (Addr × Obj)) (s : Shared), Inv X pins σ H s → wpAny (model X.prog X.w) X.A (isTrue e X.env whole) (TP X pins σ Q) X.xe s
def SemA (X : Cx) (es : List Expr) (σ : L2.St) (H : Hp) (Q : List V → Hp → Prop) : Prop := ∀ (pos : Pos) (pins : List (Addr × Obj)) (s : Shared), Inv X pins σ H s → wpAny (model X.prog X.w) X.A (spliced (backTo pos (starEach es X.env))) (AP X pins σ Q) X.xe s
def SemSs (X : Cx) (sts : List Stmt) (Dn : Ends) (σ : L2.St) (H : Hp) : Prop := ∀ (pins : List (Addr × Obj)) (s : Shared), Inv X pins σ H s → wpAny (model X.prog X.w) X.A (execs sts X.env) (SP X pins Dn) X.xe s
def SemS (X : Cx) (st : Stmt) (Dn : Ends) (σ : L2.St) (H : Hp) : Prop := ∀ (pins : List (Addr × Obj)) (s : Shared), Inv X pins σ H s → wpAny (model X.prog X.w) X.A (exec st X.env) (SP X pins Dn) X.xe s
section
variable (X : Cx)
theorem semE (e : Expr) : PE X e (SemE X e) := ⟨fun pins s _ _ _ I h => h pins s I⟩
theorem semT (e : Expr) : PT X e (SemT X e) := ⟨fun pins s _ _ _ I h => h pins s I⟩
theorem semW (e : Expr) : PW X e (SemW X e) := ⟨fun w pins s _ _ _ I h => h w pins s I⟩
theorem semA (es : List Expr) : PA X es (SemA X es) := ⟨fun pos pins s _ _ _ I h => h pos pins s I⟩
theorem semSs (sts : List Stmt) : PSs X sts (SemSs X sts) := ⟨fun pins s _ _ _ I h => h pins s I⟩
theorem semS (st : Stmt) : PS X st (SemS X st) := ⟨fun pins s _ _ _ I h => h pins s I⟩
end
section
variable {X : Cx} {e : Expr} {es : List Expr} {st : Stmt} {sts : List Stmt} {σ : L2.St} {H : Hp}
theorem sE {t : TE} (h : PE X e t) {Q : VK} (q : t σ H Q) : SemE X e σ H Q := fun pins s I => h.run pins s σ H Q I q
theorem sT {t : TT} (h : PT X e t) {Q : Bool → Hp → Prop} (q : t σ H Q) : SemT X e σ H Q := fun pins s I => h.run pins s σ H Q I q
theorem sW {t : TT} (h : PW X e t) {Q : Bool → Hp → Prop} (q : t σ H Q) : SemW X e σ H Q := fun w pins s I => h.run w pins s σ H Q I q
theorem sA {t : TA} (h : PA X es t) {Q : List V → Hp → Prop} (q : t σ H Q) : SemA X es σ H Q := fun pos pins s I => h.run pos pins s σ H Q I q
theorem sSs {t : TS} (h : PSs X sts t) {Dn : Ends} (q : t Dn σ H) : SemSs X sts Dn σ H := fun pins s I => h.run pins s σ H Dn I q
theorem sS {t : TS} (h : PS X st t) {Dn : Ends} (q : t Dn σ H) : SemS X st Dn σ H := fun pins s I => h.run pins s σ H Dn I q
end

/-- an expression is worth d -/
def DE (X : Cx) (M : List C) (env : EnvD) (e : Expr) (d : D) (M' : List C) : Prop := ∀ (σ : L2.St) (H : Hp) (F : Addr → Prop) (A : Fps), Sto X.K F A M H → Slots X.K A (Vw F A H) env σ → ∀ Q : VK,
  (∀ v H' A', Stp A H A' H' → Sto X.K F A' M' H' → Rp X.K A' (Vw F A' H') v d → Q v H') → SemE X e σ H Q
/-- a new list of ds -/
def DF (X : Cx) (M : List C) (env : EnvD) (e : Expr) (ds : List D) (M' : List C) : Prop := ∀ (σ : L2.St) (H : Hp) (F : Addr → Prop) (A : Fps), Sto X.K F A M H → Slots X.K A (Vw F A H) env σ → ∀ Q : VK,
  (∀ p vs H1 H' A', Stp A H A' H1 → Sto X.K F A' M' H1 → H1 p = none → Same H1 H' → H' p = some (.lst vs) → Rps X.K A' (Vw F A' H1) vs ds → Q (.ref p) H') → SemE X e σ H Q
def DT (X : Cx) (M : List C) (env : EnvD) (e : Expr) (b : Bool) (M' : List C) : Prop := ∀ (σ : L2.St) (H : Hp) (F : Addr → Prop) (A : Fps), Sto X.K F A M H → Slots X.K A (Vw F A H) env σ → ∀ Q : Bool → Hp → Prop,
  (∀ H' A', Stp A H A' H' → Sto X.K F A' M' H' → Q b H') → SemT X e σ H Q
def DW (X : Cx) (M : List C) (env : EnvD) (e : Expr) (b : Bool) (M' : List C) : Prop := ∀ (σ : L2.St) (H : Hp) (F : Addr → Prop) (A : Fps), Sto X.K F A M H → Slots X.K A (Vw F A H) env σ → ∀ Q : Bool → Hp → Prop,
  (∀ H' A', Stp A H A' H' → Sto X.K F A' M' H' → Q b H') → SemW X e σ H Q
def DA (X : Cx) (M : List C) (env : EnvD) (es : List Expr) (ds : List D) (M' : List C) : Prop := ∀ (σ : L2.St) (H : Hp) (F : Addr → Prop) (A : Fps), Sto X.K F A M H → Slots X.K A (Vw F A H) env σ → ∀ Q : List V → Hp → Prop,
  (∀ vs H' A', Stp A H A' H' → Sto X.K F A' M' H' → Rps X.K A' (Vw F A' H') vs ds → Q vs H') → SemA X es σ H Q

section
variable {X : Cx} {M M1 M2 : List C} {env : EnvD} {a b e : Expr} {es : List Expr} {x y z d : D} {ds : List D} {pos : Pos}

theorem DF.de (h : DF X M env e ds M1) : DE X M env e (.lst ds) M1 := fun σ H F A S L Q k => h σ H F A S L Q fun p vs H1 H' A' t S1 hp e1 hq hr => by
  refine k (.ref p) H' A' (t.trans (Stp.same e1)) (S1.same e1) (.lst (Vw.of hq (fun z => S1.hid p z hp) fun fp hf hm => (S1.trk fp hf p hm).1 hp) ?_)
  exact hr.mono (Stp.view S1.hid (Stp.same e1)) (Pre.refl _)
theorem DF.own (h : DF X M env e ds M1) : DE X M env e (.loc M1.length) (M1 ++ [.lst ds]) := fun σ H F A S L Q k => h σ H F A S L Q fun p vs H1 H' A' t S1 hp e1 hq hr => by
  have st : Stp A' H1 (A' ++ [[p]]) H' := ⟨fun a u h _ => e1 a u h, Pre.app _ _, fun fp hf a ha => by
    rcases List.mem_append.mp hf with hf | hf
    · exact .inl ⟨fp, hf, ha⟩
    · rw [List.mem_singleton.mp hf] at ha
      rw [List.mem_singleton.mp ha]
      exact .inr hp⟩
  obtain ⟨g1, g2, g3⟩ := S1.grow (c := .lst ds) hp e1 (by rw [hq]; simp) ⟨p, vs, rfl, hq, hr.mono (st.view S1.hid) st.pre⟩
  exact k (.ref p) H' _ (t.trans g2) g1 (g3 _)

/-! ### names, constants -/
theorem de_var (i : Nat) {x : Str} {d : D} (he : env[i]? = some (some d) := by rfl) (hN : X.N[i]? = some x := by rfl) (hv : Vis X.env.scope x := by first | exact Or.inl rfl | exact Or.inr (Or.inl rfl) | exact Or.inr (Or.inr rfl)) (hd : (x == ("__debug__" : Str)) = false := by decide)
    (hcd : (x == ("__classdict__" : Str)) = false := by decide) : DE X M env (.Name x pos) d M := fun σ H F A S L Q k => by
  obtain ⟨v, h1, h2⟩ := L i d he
  exact sE (pe_var hN hv hd hcd) ⟨v, h1, k v H A (Stp.refl A H) S h2⟩
theorem de_int {i j pos} : DE X M env (.Constant (.int i) j pos) (.int i) M := fun σ H F A S L Q k => sE pe_int (k _ H A (Stp.refl A H) S (.int i))
theorem de_bl {i j pos} : DE X M env (.Constant (.bool i) j pos) (.bl i) M := fun σ H F A S L Q k => sE pe_bl (k _ H A (Stp.refl A H) S (.bl i))
theorem de_non {j pos} : DE X M env (.Constant .none j pos) .non M := fun σ H F A S L Q k => sE pe_non (k _ H A (Stp.refl A H) S .non)
theorem de_str {i j pos} : DE X M env (.Constant (.str i) j pos) (.str i) M := fun σ H F A S L Q k => sE pe_str (k _ H A (Stp.refl A H) S (.str i))
/-- a global constant, a text or an int -/
theorem de_globS {x y : Str} {u : Value} (hg : Gl X x) (hm : X.mg x = some u) (r : RelV (.str y) u) (hd : (x == ("__debug__" : Str)) = false := by decide) : DE X M env (.Name x pos) (.str y) M := fun σ H F A S L Q k =>
  sE (pe_glob hg hm r hd) (k _ H A (Stp.refl A H) S (.str y))
theorem de_cls {x : Str} {a : Addr} (hm : X.mg x = some (.ref a)) (hg : Gl X x := by rfl) (hd : (x == ("__debug__" : Str)) = false := by decide) : DE X M env (.Name x pos) (.adr a) M := fun σ H F A S L Q k =>
  sE (pe_glob (v := .ref a) hg hm rfl hd) (k _ H A (Stp.refl A H) S (.adr a))
theorem de_ty {x : Str} {n : String} (hm : X.mg x = none) (hv : bootBuiltins x = some (.type n)) (hg : Gl X x := by rfl) (hn : x ≠ "__name__" := by decide) (hd : (x == ("__debug__" : Str)) = false := by decide) : DE X M env (.Name x pos) (.ty n) M := fun σ H F A S L Q k =>
  sE (pe_bltn (v := .ty n) hg hm hv rfl hn hd) (k _ H A (Stp.refl A H) S (.ty n))
theorem de_globI {x : Str} {y : Int} {u : Value} (hg : Gl X x) (hm : X.mg x = some u) (r : RelV (.int y) u) (hd : (x == ("__debug__" : Str)) = false := by decide) : DE X M env (.Name x pos) (.int y) M := fun σ H F A S L Q k =>
  sE (pe_glob hg hm r hd) (k _ H A (Stp.refl A H) S (.int y))

/-! ### arguments, displays -/
theorem da_nil : DA X M env [] [] M := fun σ H F A S L Q k => sA pa_nil (k [] H A (Stp.refl A H) S .nil)
theorem da_cons (ha : DE X M env e d M1) (hr : DA X M1 env es ds M2) (hs : starEach (e :: es) X.env = (false, eval e X.env) :: starEach es X.env := by rfl) : DA X M env (e :: es) (d :: ds) M2 := fun σ H F A S L Q k => by
  refine sA (pa_cons (semE X e) (semA X es) hs) ?_
  refine ha σ H F A S L _ fun v H1 A1 t1 S1 r1 => ?_
  refine hr σ H1 F A1 S1 (L.stp S t1) _ fun vs H2 A2 t2 S2 r2 => ?_
  exact k (v :: vs) H2 A2 (t1.trans t2) S2 (.cons (r1.stp S1 t2) r2)
theorem line_of {n : Nat} (h : n ≤ 100000) : n ≤ sizeLine := Nat.le_trans h (by decide)
theorem line_lt {n : Nat} (h : n < 100000) : n < sizeLine := Nat.lt_of_lt_of_le h (by decide)
theorem de_tup {x1} (h : DA X M env es ds M1) (hl : Nat.ble ds.length 100000 = true := by rfl) : DE X M env (.Tuple es x1 pos) (.tup ds) M1 := fun σ H F A S L Q k => by
  refine sE (pe_tup (semA X es)) ?_
  refine h σ H F A S L _ fun vs H1 A1 t1 S1 r1 => ⟨by rw [r1.length]; exact line_of (Nat.ble_eq.mp hl), fun p hp => ?_⟩
  exact k (.ref p) _ A1 (t1.trans (Stp.same (same_new hp))) (S1.new hp) (.tup (S1.seen hp) (r1.stp S1 (Stp.same (same_new hp))))
theorem df_lst (h : DA X M env es ds M1) (hl : Nat.ble ds.length 100000 = true := by rfl) : DF X M env (.List es pos) ds M1 := fun σ H F A S L Q k => by
  refine sE (pe_lst (semA X es)) ?_
  refine h σ H F A S L _ fun vs H1 A1 t1 S1 r1 => ⟨by rw [r1.length]; exact line_of (Nat.ble_eq.mp hl), fun p hp => ?_⟩
  exact k p vs H1 _ A1 t1 S1 hp (same_new hp) upd_same r1

/-! ### operations by values -/
def RV (K : PySem.W.Frag) (M : List C) (r : R2) (x y z : D) : Prop := ∀ (F : Addr → Prop) (A : Fps) (H : Hp) (v u : V), Sto K F A M H → Rp K A (Vw F A H) v x → Rp K A (Vw F A H) u y → ∀ Q : VK,
  (∀ w H', Same H H' → Rp K A (Vw F A H') w z → Q w H') → r v u H Q
def RVF (K : PySem.W.Frag) (M : List C) (r : R2) (x y : D) (ds : List D) : Prop := ∀ (F : Addr → Prop) (A : Fps) (H : Hp) (v u : V), Sto K F A M H → Rp K A (Vw F A H) v x → Rp K A (Vw F A H) u y → ∀ Q : VK,
  (∀ p vs H', H p = none → Same H H' → H' p = some (.lst vs) → Rps K A (Vw F A H) vs ds → Q (.ref p) H') → r v u H Q
theorem t_op {r : R2} {σ : L2.St} {H : Hp} {F : Addr → Prop} {A : Fps} {Q : VK} (ha : DE X M env a x M1) (hb : DE X M1 env b y M2) (S : Sto X.K F A M H) (L : Slots X.K A (Vw F A H) env σ)
    (k : ∀ v u H2 A2, Stp A H A2 H2 → Sto X.K F A2 M2 H2 → Rp X.K A2 (Vw F A2 H2) v x → Rp X.K A2 (Vw F A2 H2) u y → r v u H2 Q) : tOp r (SemE X a) (SemE X b) σ H Q := by
  show SemE X a σ H fun v H1 => SemE X b σ H1 fun u H2 => r v u H2 Q
  refine ha σ H F A S L _ fun v H1 A1 t1 S1 r1 => ?_
  refine hb σ H1 F A1 S1 (L.stp S t1) _ fun u H2 A2 t2 S2 r2 => ?_
  exact k v u H2 A2 (t1.trans t2) S2 (r1.stp S1 t2) r2
theorem de_op {op : Operator} {r : R2} (ho : OpR X (binaryOp op) r) (ha : DE X M env a x M1) (hb : DE X M1 env b y M2) (hr : RV X.K M2 r x y z) : DE X M env (.BinOp a op b pos) z M2 := fun σ H F A S L Q k =>
  sE (pe_op ho (semE X a) (semE X b)) (t_op ha hb S L fun v u H2 A2 t2 S2 r1 r2 => hr F A2 H2 v u S2 r1 r2 Q fun w H3 e3 r3 => k w H3 A2 (t2.trans (Stp.same e3)) (S2.same e3) r3)
theorem df_op {op : Operator} {r : R2} (ho : OpR X (binaryOp op) r) (ha : DE X M env a x M1) (hb : DE X M1 env b y M2) (hr : RVF X.K M2 r x y ds) : DF X M env (.BinOp a op b pos) ds M2 := fun σ H F A S L Q k =>
  sE (pe_op ho (semE X a) (semE X b)) (t_op ha hb S L fun v u H2 A2 t2 S2 r1 r2 => hr F A2 H2 v u S2 r1 r2 Q fun p vs H3 hp e3 hq r3 => k p vs H2 H3 A2 t2 S2 hp e3 hq r3)
theorem de_cmp {op : CmpOp} {r : R2} (ho : OpR X (compareOp op) r) (ha : DE X M env a x M1) (hb : DE X M1 env b y M2) (hr : RV X.K M2 r x y z) (hm : behindInMarks op b = false) : DE X M env (.Compare a [op] [b] pos) z M2 := fun σ H F A S L Q k =>
  sE (pe_cmpR ho (semE X a) (semE X b) hm) (t_op ha hb S L fun v u H2 A2 t2 S2 r1 r2 => hr F A2 H2 v u S2 r1 r2 Q fun w H3 e3 r3 => k w H3 A2 (t2.trans (Stp.same e3)) (S2.same e3) r3)
theorem dt_cmp {op : CmpOp} {r : R2} {c : Bool} (ho : OpR X (compareOp op) r) (ha : DE X M env a x M1) (hb : DE X M1 env b y M2) (hr : RV X.K M2 r x y (.bl c)) (hm : behindInMarks op b = false) : DT X M env (.Compare a [op] [b] pos) c M2 := fun σ H F A S L Q k =>
  sT (pt_cmpR ho (semE X a) (semE X b) hm) (t_op ha hb S L fun v u H2 A2 t2 S2 r1 r2 => hr F A2 H2 v u S2 r1 r2 _ fun w H3 e3 r3 => by
    cases r3
    exact ⟨c, rfl, k H3 A2 (t2.trans (Stp.same e3)) (S2.same e3)⟩)
theorem de_ix {r : R2} (hr : IxR X r) (ha : DE X M env a x M1) (hb : DE X M1 env b y M2) (hv : RV X.K M2 r x y z) (hs : PlainIx b := by exact fun _ _ => rfl) : DE X M env (.Subscript a b pos) z M2 := fun σ H F A S L Q k =>
  sE (pe_ix hr (semE X a) (semE X b) hs) (t_op ha hb S L fun v u H2 A2 t2 S2 r1 r2 => hv F A2 H2 v u S2 r1 r2 Q fun w H3 e3 r3 => k w H3 A2 (t2.trans (Stp.same e3)) (S2.same e3) r3)
theorem de_un {op : UnaryOp} {r : V → Hp → VK → Prop} (ho : UnR X (unaryOp op) r) (ha : DE X M env a x M1) (hr : ∀ (F : Addr → Prop) (A : Fps) (H : Hp) (v : V), Sto X.K F A M1 H → Rp X.K A (Vw F A H) v x → ∀ Q : VK, (∀ w, Rp X.K A (Vw F A H) w z → Q w H) → r v H Q) :
    DE X M env (.UnaryOp op a pos) z M1 := fun σ H F A S L Q k => by
  refine sE (pe_un ho (semE X a)) ?_
  refine ha σ H F A S L _ fun v H1 A1 t1 S1 r1 => ?_
  exact hr F A1 H1 v S1 r1 Q fun w r3 => k w H1 A1 t1 S1 r3
theorem de_neg {i : Int} (ha : DE X M env a (.int i) M1) : DE X M env (.UnaryOp .USub a pos) (.int (-i)) M1 := de_un un_neg ha fun F A H v S r Q q => by
  cases r
  exact ⟨i, rfl, q _ (.int _)⟩

/-! ints -/
section
variable {K : PySem.W.Frag} {i j : Int}
theorem rv_I0 {g : Int → Int → Int} : RV K M (rI0 fun i j => .int (g i j)) (.int i) (.int j) (.int (g i j)) := fun F A H v u S r1 r2 Q q => by
  cases r1; cases r2
  exact ⟨i, j, rfl, rfl, q _ H (Same.refl H) (.int _)⟩
theorem rv_B0 {g : Int → Int → Bool} : RV K M (rI0 fun i j => .bl (g i j)) (.int i) (.int j) (.bl (g i j)) := fun F A H v u S r1 r2 Q q => by
  cases r1; cases r2
  exact ⟨i, j, rfl, rfl, q _ H (Same.refl H) (.bl _)⟩
theorem rv_I {Cc : Int → Int → Prop} {g : Int → Int → Int} (hc : Cc i j) : RV K M (rI Cc fun i j => .int (g i j)) (.int i) (.int j) (.int (g i j)) := fun F A H v u S r1 r2 Q q => by
  cases r1; cases r2
  exact ⟨i, j, rfl, rfl, hc, q _ H (Same.refl H) (.int _)⟩
end
theorem de_add {i j : Int} (ha : DE X M env a (.int i) M1) (hb : DE X M1 env b (.int j) M2) : DE X M env (.BinOp a .Add b pos) (.int (i + j)) M2 := de_op op_add ha hb (rv_I0 (g := fun i j => i + j))
theorem de_sub {i j : Int} (ha : DE X M env a (.int i) M1) (hb : DE X M1 env b (.int j) M2) : DE X M env (.BinOp a .Sub b pos) (.int (i - j)) M2 := de_op op_sub ha hb (rv_I0 (g := fun i j => i - j))
theorem de_mul {i j : Int} (ha : DE X M env a (.int i) M1) (hb : DE X M1 env b (.int j) M2) (hc : CMul i j) : DE X M env (.BinOp a .Mult b pos) (.int (i * j)) M2 := de_op op_mul ha hb (rv_I (g := fun i j => i * j) hc)
theorem de_fdiv {i j : Int} (ha : DE X M env a (.int i) M1) (hb : DE X M1 env b (.int j) M2) (hc : CDiv i j) : DE X M env (.BinOp a .FloorDiv b pos) (.int (i / j)) M2 := de_op op_fdiv ha hb (rv_I (g := fun i j => i / j) hc)
theorem de_mod {i j : Int} (ha : DE X M env a (.int i) M1) (hb : DE X M1 env b (.int j) M2) (hc : 0 < j) : DE X M env (.BinOp a .Mod b pos) (.int (i % j)) M2 := de_op op_mod ha hb (rv_I (Cc := fun _ j => 0 < j) (g := fun i j => i % j) hc)
theorem dt_lt {i j : Int} (ha : DE X M env a (.int i) M1) (hb : DE X M1 env b (.int j) M2) : DT X M env (.Compare a [.Lt] [b] pos) (decide (i < j)) M2 := dt_cmp op_lt ha hb (rv_B0 (g := fun i j => decide (i < j))) (nomark _)
theorem dt_le {i j : Int} (ha : DE X M env a (.int i) M1) (hb : DE X M1 env b (.int j) M2) : DT X M env (.Compare a [.LtE] [b] pos) (decide (i ≤ j)) M2 := dt_cmp op_le ha hb (rv_B0 (g := fun i j => decide (i ≤ j))) (nomark _)
theorem dt_gt {i j : Int} (ha : DE X M env a (.int i) M1) (hb : DE X M1 env b (.int j) M2) : DT X M env (.Compare a [.Gt] [b] pos) (decide (j < i)) M2 := dt_cmp op_gt ha hb (rv_B0 (g := fun i j => decide (j < i))) (nomark _)
theorem dt_ge {i j : Int} (ha : DE X M env a (.int i) M1) (hb : DE X M1 env b (.int j) M2) : DT X M env (.Compare a [.GtE] [b] pos) (decide (j ≤ i)) M2 := dt_cmp op_ge ha hb (rv_B0 (g := fun i j => decide (j ≤ i))) (nomark _)

/-! == of flat things -/
/-- a flat datum, as a value -/
def D.v : D → V
  | .bl b => .bl b | .int i => .int i | .str s => .str s | _ => .non
def D.flat : D → Bool
  | .non => true | .bl _ => true | .int _ => true | .str _ => true | _ => false
theorem Rp.flat {K : PySem.W.Frag} {A : Fps} {G : Hp} {v : V} : ∀ {d : D}, d.flat = true → Rp K A G v d → v = d.v
  | .non, _, h => by cases h; rfl
  | .bl _, _, h => by cases h; rfl
  | .int _, _, h => by cases h; rfl
  | .str _, _, h => by cases h; rfl
  | .lst _, f, _ => by cases f
  | .tup _, f, _ => by cases f
  | .obj _ _, f, _ => by cases f
  | .loc _, f, _ => by cases f
  | .adr _, f, _ => by cases f
  | .ty _, f, _ => by cases f
  | .scr _, f, _ => by cases f
theorem rv_eq {K : PySem.W.Frag} (fx : x.flat = true) (fy : y.flat = true) (hs : scal x.v y.v = true) : RV K M rEq x y (.bl (decide (x.v = y.v))) := fun F A H v u S r1 r2 Q q => by
  rw [r1.flat fx, r2.flat fy]
  exact ⟨hs, q _ H (Same.refl H) (.bl _)⟩
theorem rv_ne {K : PySem.W.Frag} (fx : x.flat = true) (fy : y.flat = true) (hs : scal x.v y.v = true) : RV K M rNe x y (.bl (!decide (x.v = y.v))) := fun F A H v u S r1 r2 Q q => by
  rw [r1.flat fx, r2.flat fy]
  exact ⟨hs, q _ H (Same.refl H) (.bl _)⟩
theorem dV_int {i j : Int} : decide (V.int i = V.int j) = decide (i = j) := by
  by_cases h : i = j
  · subst h; simp
  · rw [decide_eq_false h, decide_eq_false fun e => h (V.int.inj e)]
theorem dV_str {i j : Str} : decide (V.str i = V.str j) = decide (i = j) := by
  by_cases h : i = j
  · subst h; simp
  · rw [decide_eq_false h, decide_eq_false fun e => h (V.str.inj e)]
theorem dV_bl {i j : Bool} : decide (V.bl i = V.bl j) = decide (i = j) := by
  by_cases h : i = j
  · subst h; simp
  · rw [decide_eq_false h, decide_eq_false fun e => h (V.bl.inj e)]
theorem dt_eqI {i j : Int} (ha : DE X M env a (.int i) M1) (hb : DE X M1 env b (.int j) M2) : DT X M env (.Compare a [.Eq] [b] pos) (decide (i = j)) M2 := by
  rw [← dV_int]
  exact dt_cmp op_eq ha hb (rv_eq rfl rfl rfl) (nomark _)
theorem dt_neI {i j : Int} (ha : DE X M env a (.int i) M1) (hb : DE X M1 env b (.int j) M2) : DT X M env (.Compare a [.NotEq] [b] pos) (!decide (i = j)) M2 := by
  rw [← dV_int]
  exact dt_cmp op_ne ha hb (rv_ne rfl rfl rfl) (nomark _)
theorem dt_eqS {i j : Str} (ha : DE X M env a (.str i) M1) (hb : DE X M1 env b (.str j) M2) : DT X M env (.Compare a [.Eq] [b] pos) (decide (i = j)) M2 := by
  rw [← dV_str]
  exact dt_cmp op_eq ha hb (rv_eq rfl rfl rfl) (nomark _)
theorem dt_neS {i j : Str} (ha : DE X M env a (.str i) M1) (hb : DE X M1 env b (.str j) M2) : DT X M env (.Compare a [.NotEq] [b] pos) (!decide (i = j)) M2 := by
  rw [← dV_str]
  exact dt_cmp op_ne ha hb (rv_ne rfl rfl rfl) (nomark _)
theorem dt_eqF (ha : DE X M env a x M1) (hb : DE X M1 env b y M2) (fx : x.flat = true := by rfl) (fy : y.flat = true := by rfl) (hs : scal x.v y.v = true := by rfl) : DT X M env (.Compare a [.Eq] [b] pos) (decide (x.v = y.v)) M2 :=
  dt_cmp op_eq ha hb (rv_eq fx fy hs) (nomark _)
theorem dt_neF (ha : DE X M env a x M1) (hb : DE X M1 env b y M2) (fx : x.flat = true := by rfl) (fy : y.flat = true := by rfl) (hs : scal x.v y.v = true := by rfl) : DT X M env (.Compare a [.NotEq] [b] pos) (!decide (x.v = y.v)) M2 :=
  dt_cmp op_ne ha hb (rv_ne fx fy hs) (nomark _)
theorem de_eqI {i j : Int} (ha : DE X M env a (.int i) M1) (hb : DE X M1 env b (.int j) M2) : DE X M env (.Compare a [.Eq] [b] pos) (.bl (decide (i = j))) M2 := by
  rw [← dV_int]
  exact de_cmp op_eq ha hb (rv_eq rfl rfl rfl) (nomark _)
theorem de_eqS {i j : Str} (ha : DE X M env a (.str i) M1) (hb : DE X M1 env b (.str j) M2) : DE X M env (.Compare a [.Eq] [b] pos) (.bl (decide (i = j))) M2 := by
  rw [← dV_str]
  exact de_cmp op_eq ha hb (rv_eq rfl rfl rfl) (nomark _)
/-- is None -/
def D.isNon : D → Bool
  | .non => true | _ => false
theorem Rp.isNon {K : PySem.W.Frag} {A : Fps} {G : Hp} {v : V} : ∀ {d : D}, Rp K A G v d → decide (v = .non) = d.isNon
  | .non, h => by cases h; rfl
  | .bl _, h => by cases h; rfl
  | .int _, h => by cases h; rfl
  | .str _, h => by cases h; rfl
  | .lst _, h => by cases h; rfl
  | .tup _, h => by cases h; rfl
  | .obj _ _, h => by cases h; rfl
  | .loc _, h => by cases h; rfl
  | .adr _, h => by cases h; rfl
  | .ty _, h => by cases h; rfl
  | .scr _, h => by cases h; rfl
theorem rv_isN {K : PySem.W.Frag} : RV K M (fun x y H Q => y = .non ∧ Q (.bl (decide (x = .non))) H) x .non (.bl x.isNon) := fun F A H v u S r1 r2 Q q => by
  cases r2
  exact ⟨rfl, q _ H (Same.refl H) (by rw [r1.isNon]; exact .bl _)⟩
theorem rv_notN {K : PySem.W.Frag} : RV K M (fun x y H Q => y = .non ∧ Q (.bl (!decide (x = .non))) H) x .non (.bl (!x.isNon)) := fun F A H v u S r1 r2 Q q => by
  cases r2
  exact ⟨rfl, q _ H (Same.refl H) (by rw [r1.isNon]; exact .bl _)⟩
theorem dt_isN (ha : DE X M env a x M1) (hb : DE X M1 env b .non M2) : DT X M env (.Compare a [.Is] [b] pos) x.isNon M2 := dt_cmp op_isN ha hb rv_isN (nomark _)
theorem dt_notN (ha : DE X M env a x M1) (hb : DE X M1 env b .non M2) : DT X M env (.Compare a [.IsNot] [b] pos) (!x.isNon) M2 := dt_cmp op_notN ha hb rv_notN (nomark _)
theorem de_isN (ha : DE X M env a x M1) (hb : DE X M1 env b .non M2) : DE X M env (.Compare a [.Is] [b] pos) (.bl x.isNon) M2 := de_cmp op_isN ha hb rv_isN (nomark _)
theorem de_notN (ha : DE X M env a x M1) (hb : DE X M1 env b .non M2) : DE X M env (.Compare a [.IsNot] [b] pos) (.bl (!x.isNon)) M2 := de_cmp op_notN ha hb rv_notN (nomark _)

/-! ### lists, tuples, texts read -/
/-- x is a list of ds: plain, a cell, the script -/
inductive Ls (M : List C) : D → List D → Prop
  | d {ds : List D} : Ls M (.lst ds) ds
  | o {k : Nat} {ds : List D} : M[k]? = some (.lst ds) → Ls M (.loc k) ds
  | s {ns : List Int} : Ls M (.scr ns) (ns.map D.int)
/-- .. and no script -/
inductive Lh (M : List C) : D → List D → Prop
  | d {ds : List D} : Lh M (.lst ds) ds
  | o {k : Nat} {ds : List D} : M[k]? = some (.lst ds) → Lh M (.loc k) ds
section
variable {K : PySem.W.Frag} {F : Addr → Prop} {A : Fps} {H : Hp} {v : V}
theorem Lh.at (S : Sto K F A M H) (h : Lh M x ds) (r : Rp K A (Vw F A H) v x) : ∃ p vs, v = .ref p ∧ H p = some (.lst vs) ∧ Rps K A (Vw F A H) vs ds := by
  cases h with
  | d => cases r with | lst h1 h2 => exact ⟨_, _, rfl, Vw.le _ _ _ _ _ h1, h2⟩
  | o hk =>
    obtain ⟨q, vs, e, _, h1, h2⟩ := S.lst hk r
    exact ⟨q, vs, e, h1, h2⟩
theorem Ls.at (S : Sto K F A M H) (h : Ls M x ds) (r : Rp K A (Vw F A H) v x) : ∃ p vs, v = .ref p ∧ SqL K H p vs ∧ Rps K A (Vw F A H) vs ds := by
  cases h with
  | d => cases r with | lst h1 h2 => exact ⟨_, _, rfl, SqL.of (Vw.le _ _ _ _ _ h1), h2⟩
  | o hk =>
    obtain ⟨q, vs, e, _, h1, h2⟩ := S.lst hk r
    exact ⟨q, vs, e, SqL.of h1, h2⟩
  | s => cases r with | scr h1 => exact ⟨_, _, rfl, (Vw.le F A H).seq h1, .of_ints _⟩
theorem Rp.tup_at {xs : List D} (r : Rp K A (Vw F A H) v (.tup xs)) : ∃ p vs, v = .ref p ∧ H p = some (.tup vs) ∧ Rps K A (Vw F A H) vs xs := by
  cases r with | tup h1 h2 => exact ⟨_, _, rfl, Vw.le _ _ _ _ _ h1, h2⟩
theorem atI_rps {G : Hp} {vs : List V} {i : Int} (r : Rps K A G vs ds) (h : atI ds i = some d) : ∃ w, atI vs i = some w ∧ Rp K A G w d := by
  unfold atI at h ⊢
  rw [r.length]
  cases e : ixN ds.length i with
  | none => rw [e] at h; cases h
  | some j =>
    rw [e] at h
    exact r.get h
theorem rv_ixL {i : Int} (hl : Ls M x ds) (h : atI ds i = some d) : RV K M (rIxL K) x (.int i) d := fun F A H v u S r1 r2 Q q => by
  cases r2
  obtain ⟨p, vs, rfl, h1, h2⟩ := hl.at S r1
  obtain ⟨w, e1, e2⟩ := atI_rps h2 h
  exact ⟨p, vs, i, w, rfl, rfl, h1, e1, q w H (Same.refl H) e2⟩
theorem rv_ixT {i : Int} (h : atI ds i = some d) : RV K M (rIxT K) (.tup ds) (.int i) d := fun F A H v u S r1 r2 Q q => by
  cases r2
  obtain ⟨p, vs, rfl, h1, h2⟩ := r1.tup_at
  obtain ⟨w, e1, e2⟩ := atI_rps h2 h
  exact ⟨p, vs, i, w, rfl, rfl, SqT.of h1, e1, q w H (Same.refl H) e2⟩
theorem rv_ixS {i : Int} {z : Str} {c : Nat} (hz : z.length ≤ 100000) (h : atI z.cps.toList i = some c) : RV K M rIxS (.str z) (.int i) (.str ⟨#[c]⟩) := fun F A H v u S r1 r2 Q q => by
  cases r1; cases r2
  exact ⟨z, i, c, rfl, rfl, line_of hz, h, q _ H (Same.refl H) (.str _)⟩
end
theorem de_ixL {i : Int} (ha : DE X M env a x M1) (hb : DE X M1 env b (.int i) M2) (hl : Ls M2 x ds) (h : atI ds i = some d) (hs : PlainIx b := by exact fun _ _ => rfl) : DE X M env (.Subscript a b pos) d M2 := de_ix ix_list ha hb (rv_ixL hl h) hs
theorem de_ixT {i : Int} (ha : DE X M env a (.tup ds) M1) (hb : DE X M1 env b (.int i) M2) (h : atI ds i = some d) (hs : PlainIx b := by exact fun _ _ => rfl) : DE X M env (.Subscript a b pos) d M2 := de_ix ix_tup ha hb (rv_ixT h) hs
theorem de_ixS {i : Int} {z : Str} {c : Nat} (ha : DE X M env a (.str z) M1) (hb : DE X M1 env b (.int i) M2) (hz : z.length ≤ 100000) (h : atI z.cps.toList i = some c) (hs : PlainIx b := by exact fun _ _ => rfl) : DE X M env (.Subscript a b pos) (.str ⟨#[c]⟩) M2 :=
  de_ix ix_str ha hb (rv_ixS hz h) hs
/-- fields -/
theorem de_fld {f : Str} {Cl : Addr} {fs : List (Str × D)} {apos : Pos} (ha : DE X M env a (.obj Cl fs) M1) (hc : Cls X.K Cl) (hn : NoAttr X.K Cl f) (h : fs.lookup f = some d) (hb : attributeBase a f X.env (eval a X.env) = eval a X.env := by rfl) :
    DE X M env (.Attribute a f apos) d M1 := fun σ H F A S L Q k => by
  refine sE (pe_fld (semE X a) hb) ?_
  refine ha σ H F A S L _ fun v H1 A1 t1 S1 r1 => ?_
  cases r1 with
  | obj h1 h2 =>
    obtain ⟨w, e1, e2⟩ := h2.lookup h
    exact ⟨_, Cl, _, _, w, rfl, Vw.le _ _ _ _ _ h1, hc, hn, e1, k w H1 A1 t1 S1 e2⟩

/-! ### built-ins by name -/
def RC (K : PySem.W.Frag) (M : List C) (r : List V → Hp → VK → Prop) (xs : List D) (z : D) : Prop := ∀ (F : Addr → Prop) (A : Fps) (H : Hp) (vs : List V), Sto K F A M H → Rps K A (Vw F A H) vs xs → ∀ Q : VK,
  (∀ w H', Same H H' → Rp K A (Vw F A H') w z → Q w H') → r vs H Q
def RCF (K : PySem.W.Frag) (M : List C) (r : List V → Hp → VK → Prop) (xs : List D) (ds : List D) : Prop := ∀ (F : Addr → Prop) (A : Fps) (H : Hp) (vs : List V), Sto K F A M H → Rps K A (Vw F A H) vs xs → ∀ Q : VK,
  (∀ p ws H', H p = none → Same H H' → H' p = some (.lst ws) → Rps K A (Vw F A H) ws ds → Q (.ref p) H') → r vs H Q
section
variable {f : Str} {id T : String} {r : List V → Hp → VK → Prop} {p : Pos} {xs : List D}
theorem de_callB (hc : CallR X (.builtin id) r) (hr : RC X.K M1 r xs z) (hm : X.mg f = none) (hv : bootBuiltins f = some (.builtin id)) (ha : DA X M env (e :: es) xs M1) (hg : Gl X f := by rfl) (hn : f ≠ "__name__" := by decide) (hdb : (f == ("__debug__" : Str)) = false := by decide)
    (he : starEach (e :: es) X.env = (false, eval e X.env) :: starEach es X.env := by rfl) (hpl : (backTo pos (starEach es X.env)).any (·.1) = false := by rfl) : DE X M env (.Call (.Name f p) (e :: es) [] pos) z M1 := fun σ H F A S L Q k => by
  refine sE (pe_callB hc hg hm hv (semA X _) hn hdb he hpl) ?_
  refine ha σ H F A S L _ fun vs H1 A1 t1 S1 r1 => ?_
  exact hr F A1 H1 vs S1 r1 Q fun w H2 e2 r2 => k w H2 A1 (t1.trans (Stp.same e2)) (S1.same e2) r2
theorem df_callB (hc : CallR X (.builtin id) r) (hr : RCF X.K M1 r xs ds) (hm : X.mg f = none) (hv : bootBuiltins f = some (.builtin id)) (ha : DA X M env (e :: es) xs M1) (hg : Gl X f := by rfl) (hn : f ≠ "__name__" := by decide) (hdb : (f == ("__debug__" : Str)) = false := by decide)
    (he : starEach (e :: es) X.env = (false, eval e X.env) :: starEach es X.env := by rfl) (hpl : (backTo pos (starEach es X.env)).any (·.1) = false := by rfl) : DF X M env (.Call (.Name f p) (e :: es) [] pos) ds M1 := fun σ H F A S L Q k => by
  refine sE (pe_callB hc hg hm hv (semA X _) hn hdb he hpl) ?_
  refine ha σ H F A S L _ fun vs H1 A1 t1 S1 r1 => ?_
  exact hr F A1 H1 vs S1 r1 Q fun q ws H2 hq e2 h2 r2 => k q ws H1 H2 A1 t1 S1 hq e2 h2 r2
theorem de_callTy (hc : CallR X (.type T) r) (hr : RC X.K M1 r xs z) (hm : X.mg f = none) (hv : bootBuiltins f = some (.type T)) (ha : DA X M env (e :: es) xs M1) (hg : Gl X f := by rfl) (hn : f ≠ "__name__" := by decide) (hdb : (f == ("__debug__" : Str)) = false := by decide)
    (he : starEach (e :: es) X.env = (false, eval e X.env) :: starEach es X.env := by rfl) (hpl : (backTo pos (starEach es X.env)).any (·.1) = false := by rfl) : DE X M env (.Call (.Name f p) (e :: es) [] pos) z M1 := fun σ H F A S L Q k => by
  refine sE (pe_callTy hc hg hm hv (semA X _) hn hdb he hpl) ?_
  refine ha σ H F A S L _ fun vs H1 A1 t1 S1 r1 => ?_
  exact hr F A1 H1 vs S1 r1 Q fun w H2 e2 r2 => k w H2 A1 (t1.trans (Stp.same e2)) (S1.same e2) r2
theorem df_callTy (hc : CallR X (.type T) r) (hr : RCF X.K M1 r xs ds) (hm : X.mg f = none) (hv : bootBuiltins f = some (.type T)) (ha : DA X M env (e :: es) xs M1) (hg : Gl X f := by rfl) (hn : f ≠ "__name__" := by decide) (hdb : (f == ("__debug__" : Str)) = false := by decide)
    (he : starEach (e :: es) X.env = (false, eval e X.env) :: starEach es X.env := by rfl) (hpl : (backTo pos (starEach es X.env)).any (·.1) = false := by rfl) : DF X M env (.Call (.Name f p) (e :: es) [] pos) ds M1 := fun σ H F A S L Q k => by
  refine sE (pe_callTy hc hg hm hv (semA X _) hn hdb he hpl) ?_
  refine ha σ H F A S L _ fun vs H1 A1 t1 S1 r1 => ?_
  exact hr F A1 H1 vs S1 r1 Q fun q ws H2 hq e2 h2 r2 => k q ws H1 H2 A1 t1 S1 hq e2 h2 r2
end
theorem rc_lenL {K : PySem.W.Frag} (hl : Ls M x ds) : RC K M (fun xs H Q => ∃ p ys, xs = [.ref p] ∧ (SqL K H p ys ∨ SqT K H p ys) ∧ Q (.int ys.length) H) [x] (.int ds.length) := fun F A H vs S r Q q => by
  cases r with
  | cons r0 r1 =>
    cases r1
    obtain ⟨p, ws, rfl, h1, h2⟩ := hl.at S r0
    exact ⟨p, ws, rfl, .inl h1, q _ H (Same.refl H) (by rw [h2.length]; exact .int _)⟩
theorem rc_lenT {K : PySem.W.Frag} : RC K M (fun xs H Q => ∃ p ys, xs = [.ref p] ∧ (SqL K H p ys ∨ SqT K H p ys) ∧ Q (.int ys.length) H) [.tup ds] (.int ds.length) := fun F A H vs S r Q q => by
  cases r with
  | cons r0 r1 =>
    cases r1
    obtain ⟨p, ws, rfl, h1, h2⟩ := r0.tup_at
    exact ⟨p, ws, rfl, .inr (SqT.of h1), q _ H (Same.refl H) (by rw [h2.length]; exact .int _)⟩
theorem rc_lenS {K : PySem.W.Frag} {s : Str} (h : s.length ≤ 100000) : RC K M (fun xs H Q => ∃ z, xs = [.str z] ∧ z.length ≤ sizeLine ∧ Q (.int z.length) H) [.str s] (.int s.length) := fun F A H vs S r Q q => by
  cases r with
  | cons r0 r1 =>
    cases r1
    cases r0
    exact ⟨s, rfl, line_of h, q _ H (Same.refl H) (.int _)⟩
theorem rcf_list {K : PySem.W.Frag} (hl : Ls M x ds) : RCF K M (fun xs H Q => ∃ p ys, xs = [.ref p] ∧ (SqL K H p ys ∨ SqT K H p ys) ∧ ∀ l, H l = none → Q (.ref l) (upd H l (.lst ys))) [x] ds := fun F A H vs S r Q q => by
  cases r with
  | cons r0 r1 =>
    cases r1
    obtain ⟨p, ws, rfl, h1, h2⟩ := hl.at S r0
    exact ⟨p, ws, rfl, .inl h1, fun l hl => q l ws _ hl (same_new hl) upd_same h2⟩
theorem rcf_listT {K : PySem.W.Frag} : RCF K M (fun xs H Q => ∃ p ys, xs = [.ref p] ∧ (SqL K H p ys ∨ SqT K H p ys) ∧ ∀ l, H l = none → Q (.ref l) (upd H l (.lst ys))) [.tup ds] ds := fun F A H vs S r Q q => by
  cases r with
  | cons r0 r1 =>
    cases r1
    obtain ⟨p, ws, rfl, h1, h2⟩ := r0.tup_at
    exact ⟨p, ws, rfl, .inr (SqT.of h1), fun l hl => q l ws _ hl (same_new hl) upd_same h2⟩
theorem de_lenL {f : Str} {p : Pos} (hl : Ls M1 x ds) (hm : X.mg f = none) (hv : bootBuiltins f = some (.builtin "len")) (ha : DA X M env [e] [x] M1) (hg : Gl X f := by rfl) (hn : f ≠ "__name__" := by decide) (hdb : (f == ("__debug__" : Str)) = false := by decide)
    (he : starEach [e] X.env = (false, eval e X.env) :: starEach [] X.env := by rfl) (hpl : (backTo pos (starEach [] X.env)).any (·.1) = false := by rfl) : DE X M env (.Call (.Name f p) [e] [] pos) (.int ds.length) M1 := de_callB call_len_seq (rc_lenL hl) hm hv ha hg hn hdb he hpl
theorem de_lenS {f : Str} {p : Pos} {s : Str} (hl : s.length ≤ 100000) (hm : X.mg f = none) (hv : bootBuiltins f = some (.builtin "len")) (ha : DA X M env [e] [.str s] M1) (hg : Gl X f := by rfl) (hn : f ≠ "__name__" := by decide) (hdb : (f == ("__debug__" : Str)) = false := by decide)
    (he : starEach [e] X.env = (false, eval e X.env) :: starEach [] X.env := by rfl) (hpl : (backTo pos (starEach [] X.env)).any (·.1) = false := by rfl) : DE X M env (.Call (.Name f p) [e] [] pos) (.int s.length) M1 := de_callB call_len_str (rc_lenS hl) hm hv ha hg hn hdb he hpl
theorem df_list {f : Str} {p : Pos} (hl : Ls M1 x ds) (hm : X.mg f = none) (hv : bootBuiltins f = some (.type "list")) (ha : DA X M env [e] [x] M1) (hg : Gl X f := by rfl) (hn : f ≠ "__name__" := by decide) (hdb : (f == ("__debug__" : Str)) = false := by decide)
    (he : starEach [e] X.env = (false, eval e X.env) :: starEach [] X.env := by rfl) (hpl : (backTo pos (starEach [] X.env)).any (·.1) = false := by rfl) : DF X M env (.Call (.Name f p) [e] [] pos) ds M1 := df_callTy call_list_of (rcf_list hl) hm hv ha hg hn hdb he hpl

/-! ### tests -/
theorem dt_val {c : Bool} (h : DE X M env e (.bl c) M1) (he : ∀ whole, isTrue e X.env whole = (do let v ← whole; standAt e.pos; holding [v] (truthy v)) := by intro _; rfl) : DT X M env e c M1 := fun σ H F A S L Q k => by
  refine sT (pt_val (semE X e) he) ?_
  refine h σ H F A S L _ fun v H1 A1 t1 S1 r1 => ?_
  cases r1
  exact ⟨c, rfl, k H1 A1 t1 S1⟩
theorem DW.dt {c : Bool} (h : DW X M env e c M1) : DT X M env e c M1 := fun σ H F A S L Q k => fun pins s I => h σ H F A S L Q k _ pins s I
theorem dt_not {c : Bool} (h : DT X M env a c M1) : DT X M env (.UnaryOp .Not a pos) (!c) M1 := fun σ H F A S L Q k => by
  refine sT (pt_not (semT X a)) ?_
  exact h σ H F A S L _ fun H1 A1 t1 S1 => k H1 A1 t1 S1
theorem dw_and1 {op : Bool} {c : Bool} (h : DT X M env a c M1) : DW X M env (.BoolOp .And [a] pos) c M1 := fun σ H F A S L Q k => sW (pw_and1 (semT X a)) (h σ H F A S L _ k)
theorem dw_or1 {c : Bool} (h : DT X M env a c M1) : DW X M env (.BoolOp .Or [a] pos) c M1 := fun σ H F A S L Q k => sW (pw_or1 (semT X a)) (h σ H F A S L _ k)
theorem dw_andT {c : Bool} (ha : DT X M env a true M1) (hb : DW X M1 env (.BoolOp .And (b :: es) pos) c M2) : DW X M env (.BoolOp .And (a :: b :: es) pos) c M2 := fun σ H F A S L Q k => by
  refine sW (pw_and (semT X a) (semW X _)) ?_
  refine ha σ H F A S L _ fun H1 A1 t1 S1 => ?_
  rw [if_pos rfl]
  exact hb σ H1 F A1 S1 (L.stp S t1) _ fun H2 A2 t2 S2 => k H2 A2 (t1.trans t2) S2
theorem dw_andF (ha : DT X M env a false M1) : DW X M env (.BoolOp .And (a :: b :: es) pos) false M1 := fun σ H F A S L Q k => by
  refine sW (pw_and (semT X a) (semW X _)) ?_
  refine ha σ H F A S L _ fun H1 A1 t1 S1 => ?_
  rw [if_neg Bool.false_ne_true]
  exact k H1 A1 t1 S1
theorem dw_and {c c' : Bool} (ha : DT X M env a c M1) (hb : c = true → DW X M1 env (.BoolOp .And (b :: es) pos) c' M1) : DW X M env (.BoolOp .And (a :: b :: es) pos) (c && c') M1 := by
  cases c with
  | true => exact dw_andT ha (hb rfl)
  | false => exact dw_andF ha
theorem dw_orF {c : Bool} (ha : DT X M env a false M1) (hb : DW X M1 env (.BoolOp .Or (b :: es) pos) c M2) : DW X M env (.BoolOp .Or (a :: b :: es) pos) c M2 := fun σ H F A S L Q k => by
  refine sW (pw_or (semT X a) (semW X _)) ?_
  refine ha σ H F A S L _ fun H1 A1 t1 S1 => ?_
  rw [if_neg Bool.false_ne_true]
  exact hb σ H1 F A1 S1 (L.stp S t1) _ fun H2 A2 t2 S2 => k H2 A2 (t1.trans t2) S2
theorem dw_orT (ha : DT X M env a true M1) : DW X M env (.BoolOp .Or (a :: b :: es) pos) true M1 := fun σ H F A S L Q k => by
  refine sW (pw_or (semT X a) (semW X _)) ?_
  refine ha σ H F A S L _ fun H1 A1 t1 S1 => ?_
  rw [if_pos rfl]
  exact k H1 A1 t1 S1
theorem dw_or {c c' : Bool} (ha : DT X M env a c M1) (hb : c = false → DW X M1 env (.BoolOp .Or (b :: es) pos) c' M1) : DW X M env (.BoolOp .Or (a :: b :: es) pos) (c || c') M1 := by
  cases c with
  | true => exact dw_orT ha
  | false => exact dw_orF ha (hb rfl)
/-- .. as values, of truth values -/
theorem de_one {op : BoolOp} (h : DE X M env a d M1) : DE X M env (.BoolOp op [a] pos) d M1 := fun σ H F A S L Q k => sE (pe_one (semE X a)) (h σ H F A S L Q k)
theorem de_andT (ha : DE X M env a (.bl true) M1) (hb : DE X M1 env (.BoolOp .And (b :: es) pos) d M2) : DE X M env (.BoolOp .And (a :: b :: es) pos) d M2 := fun σ H F A S L Q k => by
  refine sE (pe_and (semE X a) (semE X _)) ?_
  refine ha σ H F A S L _ fun v H1 A1 t1 S1 r1 => ?_
  cases r1
  refine ⟨true, rfl, ?_⟩
  rw [if_pos rfl]
  exact hb σ H1 F A1 S1 (L.stp S t1) _ fun v H2 A2 t2 S2 r2 => k v H2 A2 (t1.trans t2) S2 r2
theorem de_andF (ha : DE X M env a (.bl false) M1) : DE X M env (.BoolOp .And (a :: b :: es) pos) (.bl false) M1 := fun σ H F A S L Q k => by
  refine sE (pe_and (semE X a) (semE X _)) ?_
  refine ha σ H F A S L _ fun v H1 A1 t1 S1 r1 => ?_
  cases r1
  refine ⟨false, rfl, ?_⟩
  rw [if_neg Bool.false_ne_true]
  exact k _ H1 A1 t1 S1 (.bl false)
theorem de_and {c c' : Bool} (ha : DE X M env a (.bl c) M1) (hb : c = true → DE X M1 env (.BoolOp .And (b :: es) pos) (.bl c') M1) : DE X M env (.BoolOp .And (a :: b :: es) pos) (.bl (c && c')) M1 := by
  cases c with
  | true => exact de_andT ha (hb rfl)
  | false => exact de_andF ha
theorem de_orT (ha : DE X M env a (.bl true) M1) : DE X M env (.BoolOp .Or (a :: b :: es) pos) (.bl true) M1 := fun σ H F A S L Q k => by
  refine sE (pe_or (semE X a) (semE X _)) ?_
  refine ha σ H F A S L _ fun v H1 A1 t1 S1 r1 => ?_
  cases r1
  refine ⟨true, rfl, ?_⟩
  rw [if_pos rfl]
  exact k _ H1 A1 t1 S1 (.bl true)
theorem de_orF (ha : DE X M env a (.bl false) M1) (hb : DE X M1 env (.BoolOp .Or (b :: es) pos) d M2) : DE X M env (.BoolOp .Or (a :: b :: es) pos) d M2 := fun σ H F A S L Q k => by
  refine sE (pe_or (semE X a) (semE X _)) ?_
  refine ha σ H F A S L _ fun v H1 A1 t1 S1 r1 => ?_
  cases r1
  refine ⟨false, rfl, ?_⟩
  rw [if_neg Bool.false_ne_true]
  exact hb σ H1 F A1 S1 (L.stp S t1) _ fun v H2 A2 t2 S2 r2 => k v H2 A2 (t1.trans t2) S2 r2
theorem de_or {c c' : Bool} (ha : DE X M env a (.bl c) M1) (hb : c = false → DE X M1 env (.BoolOp .Or (b :: es) pos) (.bl c') M1) : DE X M env (.BoolOp .Or (a :: b :: es) pos) (.bl (c || c')) M1 := by
  cases c with
  | true => exact de_orT ha
  | false => exact de_orF ha (hb rfl)
theorem de_not {c : Bool} (h : DE X M env a (.bl c) M1) : DE X M env (.UnaryOp .Not a pos) (.bl (!c)) M1 := fun σ H F A S L Q k => by
  refine sE (pe_not (semE X a)) ?_
  refine h σ H F A S L _ fun v H1 A1 t1 S1 r1 => ?_
  cases r1
  exact ⟨c, rfl, k _ H1 A1 t1 S1 (.bl _)⟩
theorem de_if {c : Expr} {q : Bool} (hc : DT X M env c q M1) (ha : q = true → DE X M1 env a d M2) (hb : q = false → DE X M1 env b d M2) : DE X M env (.IfExp c a b pos) d M2 := fun σ H F A S L Q k => by
  refine sE (pe_ifExp (semT X c) (semE X a) (semE X b)) ?_
  refine hc σ H F A S L _ fun H1 A1 t1 S1 => ?_
  cases q with
  | true =>
    rw [if_pos rfl]
    exact ha rfl σ H1 F A1 S1 (L.stp S t1) _ fun v H2 A2 t2 S2 r2 => k v H2 A2 (t1.trans t2) S2 r2
  | false =>
    rw [if_neg Bool.false_ne_true]
    exact hb rfl σ H1 F A1 S1 (L.stp S t1) _ fun v H2 A2 t2 S2 r2 => k v H2 A2 (t1.trans t2) S2 r2
theorem DE.is (h : DE X M env e d M1) (q : d = z) : DE X M env e z M1 := q ▸ h
theorem DT.is {c c' : Bool} (h : DT X M env e c M1) (q : c = c') : DT X M env e c' M1 := q ▸ h
theorem DF.is {es : List D} (h : DF X M env e ds M1) (q : ds = es) : DF X M env e es M1 := q ▸ h
end
end KT
namespace KT
open PySem PySem.Spec PyProof.Rows L2

/-! ### blocks -/
structure Fin where
  nx : List C → EnvD → Prop
  rt : D → List C → Prop
  bk : List C → EnvD → Prop := fun _ _ => False
  ct : List C → EnvD → Prop := fun _ _ => False
  ex : Addr → List C → EnvD → Prop := fun _ _ _ => False
def SlotsN (K : PySem.W.Frag) (A : Fps) (G : Hp) (env : EnvD) (σ : L2.St) : Prop := env.length = σ.length ∧ Slots K A G env σ
structure Meets (K : PySem.W.Frag) (F : Addr → Prop) (A : Fps) (H : Hp) (Fi : Fin) (Dn : Ends) (W : WX) : Prop where
  nx : ∀ M' env' σ' H' A', Fi.nx M' env' → Stp A H A' H' → Sto K F A' M' H' → SlotsN K A' (Vw F A' H') env' σ' → Dn.nx σ' H'
  rt : ∀ d M' v H' A', Fi.rt d M' → Stp A H A' H' → Sto K F A' M' H' → Rp K A' (Vw F A' H') v d → Dn.rt v H'
  bk : ∀ M' env' σ' H' A', Fi.bk M' env' → Stp A H A' H' → Sto K F A' M' H' → SlotsN K A' (Vw F A' H') env' σ' → Dn.bk σ' H'
  ct : ∀ M' env' σ' H' A', Fi.ct M' env' → Stp A H A' H' → Sto K F A' M' H' → SlotsN K A' (Vw F A' H') env' σ' → Dn.ct σ' H'
  ex : ∀ Ca M' env' σ' H' A', Fi.ex Ca M' env' → Stp A H A' H' → Sto K F A' M' H' → SlotsN K A' (Vw F A' H') env' σ' → W (.ref Ca) none σ' H'
theorem Meets.stp {K : PySem.W.Frag} {F : Addr → Prop} {A A1 : Fps} {H H1 : Hp} {Fi : Fin} {Dn : Ends} {W : WX} (m : Meets K F A H Fi Dn W) (t : Stp A H A1 H1) : Meets K F A1 H1 Fi Dn W :=
  ⟨fun M' e s H' A' h g => m.nx M' e s H' A' h (t.trans g), fun d M' v H' A' h g => m.rt d M' v H' A' h (t.trans g), fun M' e s H' A' h g => m.bk M' e s H' A' h (t.trans g), fun M' e s H' A' h g => m.ct M' e s H' A' h (t.trans g),
    fun Ca M' e s H' A' h g => m.ex Ca M' e s H' A' h (t.trans g)⟩
def DB (X : Cx) (M : List C) (env : EnvD) (sts : List Stmt) (Fi : Fin) : Prop := ∀ (σ : L2.St) (H : Hp) (F : Addr → Prop) (A : Fps), Sto X.K F A M H → SlotsN X.K A (Vw F A H) env σ → ∀ (Dn : Ends) (W : WX), Takes X W → Meets X.K F A H Fi Dn W → SemSs X sts Dn σ H
theorem SlotsN.stp {K : PySem.W.Frag} {F : Addr → Prop} {A A1 : Fps} {M : List C} {H H1 : Hp} {env : EnvD} {σ : L2.St} (S : Sto K F A M H) (t : Stp A H A1 H1) (h : SlotsN K A (Vw F A H) env σ) : SlotsN K A1 (Vw F A1 H1) env σ := ⟨h.1, h.2.stp S t⟩
theorem SlotsN.set {K : PySem.W.Frag} {A : Fps} {G : Hp} {env : EnvD} {σ : L2.St} {v : V} {d : D} (h : SlotsN K A G env σ) (i : Nat) (r : Rp K A G v d) : SlotsN K A G (env.set i (some d)) (σ.set i (some v)) := by
  refine ⟨by rw [List.length_set, List.length_set]; exact h.1, fun j d' hj => ?_⟩
  by_cases e : i = j
  · subst e
    by_cases hl : i < env.length
    · rw [List.getElem?_set_self hl] at hj
      cases hj
      exact ⟨v, List.getElem?_set_self (by rw [← h.1]; exact hl), r⟩
    · rw [List.getElem?_eq_none (by rw [List.length_set]; omega)] at hj
      cases hj
  · rw [List.getElem?_set_ne e] at hj ⊢
    exact h.2 j d' hj

section
variable {X : Cx} {M M1 M2 : List C} {env : EnvD} {e : Expr} {d : D} {ds : List D} {pos : Pos} {rest : List Stmt} {Fi : Fin} {st : Stmt}
/-- one statement, the rest -/
theorem semCons {Dn : Ends} {σ : L2.St} {H : Hp} (h : SemS X st { Dn with nx := SemSs X rest Dn } σ H) : SemSs X (st :: rest) Dn σ H := sSs (pss_cons (semS X st) (semSs X rest)) h
theorem db_nil (h : Fi.nx M env) : DB X M env [] Fi := fun σ H F A S L Dn W tk m => sSs pss_nil (m.nx M env σ H A h (Stp.refl A H) S L)
theorem db_set (i : Nat) {x : Str} {pos' : Pos} (he : DE X M env e d M1) (hr : DB X M1 (env.set i (some d)) rest Fi) (hN : X.N.Nodup) (hi : X.N[i]? = some x := by rfl) (hx : Loc X.env.scope x := by first | exact Or.inl rfl | exact Or.inr rfl)
    (hs : swapsWith e (some (.Name x pos')) pos.line X.env = pure false := by rfl) (hf : X.fn x = true ∨ X.env.scope.names.lookup x = some .local := by first | exact .inl rfl | exact .inr rfl) : DB X M env (.Assign [.Name x pos'] e pos :: rest) Fi := fun σ H F A S L Dn W tk m => by
  refine semCons (sS (ps_set hN hi hx (semE X e) hs hf) ?_)
  refine he σ H F A S L.2 _ fun v H1 A1 t1 S1 r1 => ?_
  exact hr _ H1 F A1 S1 ((L.stp S t1).set i r1) Dn W tk (m.stp t1)
theorem db_expr (he : DE X M env e d M1) (hr : DB X M1 env rest Fi) (hs : swapsWith e none pos.line X.env = pure false := by rfl) : DB X M env (.Expr e pos :: rest) Fi := fun σ H F A S L Dn W tk m => by
  refine semCons (sS (ps_expr (semE X e) hs) ?_)
  refine he σ H F A S L.2 _ fun v H1 A1 t1 S1 r1 => ?_
  exact hr _ H1 F A1 S1 (L.stp S t1) Dn W tk (m.stp t1)
theorem db_ret (he : DE X M env e d M1) (hr : Fi.rt d M1) : DB X M env (.Return (some e) pos :: rest) Fi := fun σ H F A S L Dn W tk m => by
  refine semCons (sS (ps_ret (semE X e)) ?_)
  refine he σ H F A S L.2 _ fun v H1 A1 t1 S1 r1 => ?_
  exact m.rt d M1 v H1 A1 hr t1 S1 r1
theorem db_pass (hr : DB X M env rest Fi) : DB X M env (.Pass pos :: rest) Fi := fun σ H F A S L Dn W tk m => semCons (sS ps_pass (hr σ H F A S L Dn W tk m))
theorem db_break (h : Fi.bk M env) : DB X M env (.Break pos :: rest) Fi := fun σ H F A S L Dn W tk m => semCons (sS ps_break (m.bk M env σ H A h (Stp.refl A H) S L))
theorem db_continue (h : Fi.ct M env) : DB X M env (.Continue pos :: rest) Fi := fun σ H F A S L Dn W tk m => semCons (sS ps_continue (m.ct M env σ H A h (Stp.refl A H) S L))
theorem db_if {c : Expr} {a b : List Stmt} {q : Bool} (hc : DT X M env c q M1) (ha : q = true → DB X M1 env a { Fi with nx := fun M' env' => DB X M' env' rest Fi }) (hb : q = false → DB X M1 env b { Fi with nx := fun M' env' => DB X M' env' rest Fi }) :
    DB X M env (.If c a b pos :: rest) Fi := fun σ H F A S L Dn W tk m => by
  refine semCons (sS (ps_if (semT X c) (semSs X a) (semSs X b)) ?_)
  refine hc σ H F A S L.2 _ fun H1 A1 t1 S1 => ?_
  have m1 : Meets X.K F A1 H1 { Fi with nx := fun M' env' => DB X M' env' rest Fi } { Dn with nx := SemSs X rest Dn } W :=
    ⟨fun M' env' σ' H' A' h g S' L' => h σ' H' F A' S' L' Dn W tk (m.stp (t1.trans g)), fun d M' v H' A' h g => m.rt d M' v H' A' h (t1.trans g), fun M' e s H' A' h g => m.bk M' e s H' A' h (t1.trans g), fun M' e s H' A' h g => m.ct M' e s H' A' h (t1.trans g),
      fun Ca M' e s H' A' h g => m.ex Ca M' e s H' A' h (t1.trans g)⟩
  cases q with
  | true =>
    rw [if_pos rfl]
    exact ha rfl σ H1 F A1 S1 (L.stp S t1) _ W tk m1
  | false =>
    rw [if_neg Bool.false_ne_true]
    exact hb rfl σ H1 F A1 S1 (L.stp S t1) _ W tk m1
theorem DB.imp {Fi' : Fin} {sts : List Stmt} (h : DB X M env sts Fi) (nx : ∀ M e, Fi.nx M e → Fi'.nx M e) (rt : ∀ d M, Fi.rt d M → Fi'.rt d M) (bk : ∀ M e, Fi.bk M e → Fi'.bk M e) (ct : ∀ M e, Fi.ct M e → Fi'.ct M e) (ex : ∀ a M e, Fi.ex a M e → Fi'.ex a M e) : DB X M env sts Fi' :=
  fun σ H F A S L Dn W tk m => h σ H F A S L Dn W tk ⟨fun M' e s H' A' q => m.nx M' e s H' A' (nx _ _ q), fun d M' v H' A' q => m.rt d M' v H' A' (rt _ _ q), fun M' e s H' A' q => m.bk M' e s H' A' (bk _ _ q), fun M' e s H' A' q => m.ct M' e s H' A' (ct _ _ q), fun a M' e s H' A' q => m.ex a M' e s H' A' (ex _ _ _ q)⟩

/-! ### while -/
theorem db_while {c : Expr} {body : List Stmt} (J : Nat → List C → EnvD → Prop) (n0 : Nat) (h0 : J n0 M env)
    (hs : ∀ n M' env', J n M' env' → ∃ q M1, DT X M' env' c q M1 ∧ (q = true → DB X M1 env' body ⟨fun M2 e2 => ∃ n', n' < n ∧ J n' M2 e2, Fi.rt, fun M2 e2 => DB X M2 e2 rest Fi, fun M2 e2 => ∃ n', n' < n ∧ J n' M2 e2, Fi.ex⟩) ∧ (q = false → DB X M1 env' rest Fi))
    (hp : PassesOwn (model X.prog X.w) X.A X.env X.xe) : DB X M env (.While c body [] pos :: rest) Fi := fun σ H F A S L Dn W tk m => by
  refine semCons (sS (ps_while hp (semT X c) (semSs X body)) ?_)
  refine ⟨fun n σ' H' => ∃ A' M' env', Stp A H A' H' ∧ Sto X.K F A' M' H' ∧ SlotsN X.K A' (Vw F A' H') env' σ' ∧ J n M' env', ⟨n0, A, M, env, Stp.refl A H, S, L, h0⟩, ?_⟩
  rintro n σ' H' ⟨A', M', env', t', S', L', j⟩
  obtain ⟨q, M1, hc, hT, hF⟩ := hs n M' env' j
  refine hc σ' H' F A' S' L'.2 _ fun H1 A1 t1 S1 => ?_
  have mm := m.stp (t'.trans t1)
  cases q with
  | true =>
    rw [if_pos rfl]
    refine ⟨fun σ2 H2 => ∃ n', n' < n ∧ ∃ A' M' env', Stp A H A' H2 ∧ Sto X.K F A' M' H2 ∧ SlotsN X.K A' (Vw F A' H2) env' σ2 ∧ J n' M' env', fun σ2 H2 ⟨n', l, z⟩ => ⟨n', l, z⟩, ?_⟩
    refine hT rfl σ' H1 F A1 S1 (L'.stp S' t1) _ W tk ⟨fun M2 e2 σ2 H2 A2 ⟨n', l, j2⟩ g S2 L2 => ⟨n', l, A2, M2, e2, (t'.trans t1).trans g, S2, L2, j2⟩, fun d M' v H' A' h g => mm.rt d M' v H' A' h g,
      fun M2 e2 σ2 H2 A2 h g S2 L2 => h σ2 H2 F A2 S2 L2 Dn W tk (mm.stp g), fun M2 e2 σ2 H2 A2 ⟨n', l, j2⟩ g S2 L2 => ⟨n', l, A2, M2, e2, (t'.trans t1).trans g, S2, L2, j2⟩, fun Ca M' e s H' A' h g => mm.ex Ca M' e s H' A' h g⟩
  | false =>
    rw [if_neg Bool.false_ne_true]
    exact hF rfl σ' H1 F A1 S1 (L'.stp S' t1) Dn W tk mm

/-! ### what is walked -/
def SemI (X : Cx) (tg iter : Expr) (σ : L2.St) (H : Hp) (R : It → Hp → Prop) : Prop := ∀ (pins : List (Addr × Obj)) (s : Shared), Inv X pins σ H s →
  wpAny (model X.prog X.w) X.A (eval iter X.env) (fun v s1 => wpAny (model X.prog X.w) X.A (pyIter v) (PIE X pins σ tg R) X.xe s1) X.xe s
theorem semI (X : Cx) (tg iter : Expr) : PI X tg iter (SemI X tg iter) := ⟨fun pins s _ _ _ I h => h pins s I⟩
theorem sI {tg iter : Expr} {w : TI} {σ : L2.St} {H : Hp} (h : PI X tg iter w) {R : It → Hp → Prop} (q : w σ H R) : SemI X tg iter σ H R := fun pins s I => h.run pins s σ H R I q
/-- J walks ds as long as the store is as cond says -/
structure Walks (K : PySem.W.Frag) (F : Addr → Prop) (A1 : Fps) (H1 : Hp) (J : It) (cond : List C → Prop) (ds : List D) : Prop where
  go : ∀ i A M H, Stp A1 H1 A H → Sto K F A M H → cond M → i < ds.length → J.go i H
  yld : ∀ i A M H x H', Stp A1 H1 A H → Sto K F A M H → cond M → J.yld i H x H' → i < ds.length → H' = H ∧ ∃ d, ds[i]? = some d ∧ Rp K A (Vw F A H) x d
  stop : ∀ i A M H, Stp A1 H1 A H → Sto K F A M H → cond M → ds.length ≤ i → J.stop i H
  low : ∀ i H H0 x H', Same H0 H → J.yld i H x H' → J.yld i H0 x H0
def DI (X : Cx) (M : List C) (env : EnvD) (tg iter : Expr) (cond : List C → Prop) (ds : List D) (M' : List C) : Prop := ∀ (σ : L2.St) (H : Hp) (F : Addr → Prop) (A : Fps), Sto X.K F A M H → Slots X.K A (Vw F A H) env σ → ∀ R : It → Hp → Prop,
  (∀ J H' A', Stp A H A' H' → Sto X.K F A' M' H' → Walks X.K F A' H' J cond ds → R J H') → SemI X tg iter σ H R
theorem di_list {tg iter : Expr} {x : D} (h : DE X M env iter x M1) (hl : Ls M1 x ds) : DI X M env tg iter (fun M' => Ls M' x ds) ds M1 := fun σ H F A S L R k => by
  refine sI (pi_list (semE X iter)) ?_
  refine h σ H F A S L _ fun v H1 A1 t1 S1 r1 => ?_
  obtain ⟨p, vs, rfl, h1, h2⟩ := hl.at S1 r1
  refine ⟨p, rfl, ⟨vs, h1⟩, k _ H1 A1 t1 S1 ⟨fun i A' M' H' g S' c hi => ?_, fun i A' M' H' x' H2 g S' c hy hi => ?_, fun i A' M' H' g S' c hi => ?_, fun i Ha Hb x' H' e hy => ?_⟩⟩
  · obtain ⟨q, ws, e, g1, g2⟩ := c.at S' (r1.stp S1 g)
    cases e
    exact ⟨ws, _, g1, List.getElem?_eq_getElem (by rw [g2.length]; exact hi)⟩
  · obtain ⟨q, ws, e, g1, g2⟩ := c.at S' (r1.stp S1 g)
    cases e
    obtain ⟨e2, hy⟩ := hy
    exact ⟨e2, g2.get' (hy ws g1)⟩
  · obtain ⟨q, ws, e, g1, g2⟩ := c.at S' (r1.stp S1 g)
    cases e
    exact ⟨ws, g1, by rw [g2.length]; exact hi⟩
  · exact ⟨rfl, fun xs hx => hy.2 xs (e.seq hx)⟩
theorem di_tup {tg iter : Expr} (h : DE X M env iter (.tup ds) M1) : DI X M env tg iter (fun _ => True) ds M1 := fun σ H F A S L R k => by
  refine sI (pi_tup (semE X iter)) ?_
  refine h σ H F A S L _ fun v H1 A1 t1 S1 r1 => ?_
  obtain ⟨p, vs, rfl, h1, h2⟩ := r1.tup_at
  refine ⟨p, rfl, ⟨vs, SqT.of h1⟩, k _ H1 A1 t1 S1 ⟨fun i A' M' H' g S' c hi => ?_, fun i A' M' H' x' H2 g S' c hy hi => ?_, fun i A' M' H' g S' c hi => ?_, fun i Ha Hb x' H' e hy => ?_⟩⟩
  · obtain ⟨q, ws, e, g1, g2⟩ := (r1.stp S1 g).tup_at
    cases e
    exact ⟨ws, _, SqT.of g1, List.getElem?_eq_getElem (by rw [g2.length]; exact hi)⟩
  · obtain ⟨q, ws, e, g1, g2⟩ := (r1.stp S1 g).tup_at
    cases e
    obtain ⟨e2, hy⟩ := hy
    exact ⟨e2, g2.get' (hy ws (SqT.of g1))⟩
  · obtain ⟨q, ws, e, g1, g2⟩ := (r1.stp S1 g).tup_at
    cases e
    exact ⟨ws, SqT.of g1, by rw [g2.length]; exact hi⟩
  · refine ⟨rfl, fun xs hx => hy.2 xs ?_⟩
    rcases hx with (hx | ⟨o, hx⟩) | hx
    · exact .inl (.inl (e _ _ hx))
    · exact .inl (.inr ⟨o, e _ _ hx⟩)
    · exact .inr hx
def rngD (lo : Int) (n : Nat) : List D := (List.range n).map fun i => .int (lo + (i : Nat))
theorem rngD_length (lo : Int) (n : Nat) : (rngD lo n).length = n := by simp [rngD]
theorem rngD_get {lo : Int} {n i : Nat} (h : i < n) : (rngD lo n)[i]? = some (.int (lo + (i : Nat))) := by simp [rngD, h]
theorem walks_rng {K : PySem.W.Frag} {F : Addr → Prop} {A1 : Fps} {H1 : Hp} (lo : Int) (n : Nat) : Walks K F A1 H1 (Itr lo n) (fun _ => True) (rngD lo n) :=
  ⟨fun i A M H _ _ _ hi => by rw [rngD_length] at hi; exact hi, fun i A M H x H' _ _ _ hy hi => by
    rw [rngD_length] at hi
    obtain ⟨e, rfl⟩ := hy
    exact ⟨e, _, rngD_get hi, .int _⟩, fun i A M H _ _ _ hi => by rw [rngD_length] at hi; exact hi, fun i H H0 x H' _ hy => ⟨rfl, hy.2⟩⟩
theorem di_rng1 {tg a : Expr} {p : Pos} {n : Int} (ha : DA X M env [a] [.int n] M1) (hm : X.mg "range" = none) (hn : -(2 ^ 62) ≤ n ∧ n < 2 ^ 62) (hg : Gl X "range" := by rfl) (hs : starEach [a] X.env = [(false, eval a X.env)] := by rfl) :
    DI X M env tg (.Call (.Name "range" p) [a] [] pos) (fun _ => True) (rngD 0 n.toNat) M1 := fun σ H F A S L R k => by
  refine sI (pi_range1 hg hm (semA X _) hs) ?_
  refine ha σ H F A S L _ fun vs H1 A1 t1 S1 r1 => ?_
  cases r1 with
  | cons r0 r1 =>
    cases r1
    cases r0
    exact ⟨n, rfl, hn.1, hn.2, k _ H1 A1 t1 S1 (walks_rng 0 _)⟩
theorem di_rng2 {tg a b : Expr} {p : Pos} {lo n : Int} (ha : DA X M env [a, b] [.int lo, .int n] M1) (hm : X.mg "range" = none) (hn : -(2 ^ 62) ≤ lo ∧ lo < 2 ^ 62 ∧ -(2 ^ 62) ≤ n ∧ n < 2 ^ 62) (hg : Gl X "range" := by rfl)
    (hs : starEach [a, b] X.env = [(false, eval a X.env), (false, eval b X.env)] := by rfl) (hs2 : starEach [b] X.env = [(false, eval b X.env)] := by rfl) :
    DI X M env tg (.Call (.Name "range" p) [a, b] [] pos) (fun _ => True) (rngD lo (n - lo).toNat) M1 := fun σ H F A S L R k => by
  refine sI (pi_range2 hg hm (semA X _) hs hs2) ?_
  refine ha σ H F A S L _ fun vs H1 A1 t1 S1 r1 => ?_
  cases r1 with
  | cons r0 r1 =>
    cases r1 with
    | cons r1 r2 =>
      cases r2
      cases r0
      cases r1
      exact ⟨lo, n, rfl, hn, k _ H1 A1 t1 S1 (walks_rng lo _)⟩
def sgnD (s : Str) : List D := s.cps.toList.map fun c => .str ⟨#[c]⟩
theorem di_str {tg iter : Expr} {z : Str} (h : DE X M env iter (.str z) M1) : DI X M env tg iter (fun _ => True) (sgnD z) M1 := fun σ H F A S L R k => by
  refine sI (pi_str (semE X iter)) ?_
  refine h σ H F A S L _ fun v H1 A1 t1 S1 r1 => ?_
  cases r1
  refine ⟨z, rfl, k _ H1 A1 t1 S1 ⟨fun i A' M' H' g S' c hi => ?_, fun i A' M' H' x' H2 g S' c hy hi => ?_, fun i A' M' H' g S' c hi => ?_, fun i Ha Hb x' H' e hy => ⟨rfl, hy.2⟩⟩⟩
  · have hi : i < z.cps.size := by simpa [sgnD] using hi
    exact hi
  · obtain ⟨e, c, hc, rfl⟩ := hy
    refine ⟨e, .str ⟨#[c]⟩, ?_, .str _⟩
    have : z.cps.toList[i]? = some c := by rw [Array.getElem?_toList]; exact hc
    unfold sgnD
    rw [List.getElem?_map, this]
    rfl
  · have hi : z.cps.size ≤ i := by simpa [sgnD] using hi
    exact hi

/-! ### targets -/
def SemG (X : Cx) (tg : Expr) (v : V) (σ : L2.St) (H : Hp) (Q : L2.St → Hp → Prop) : Prop := ∀ (pins : List (Addr × Obj)) (s : Shared) (u : Value), Inv X pins σ H s → RelV v u →
  wpAny (model X.prog X.w) X.A (assign tg X.env u) (fun _ s' => ∃ σ' H', Inv X pins σ' H' s' ∧ Q σ' H') X.xe s
theorem semG (X : Cx) (tg : Expr) : PG X tg (SemG X tg) := ⟨fun pins s _ _ _ u _ I r h => h pins s u I r⟩
theorem sG {tg : Expr} {g : TG} {v : V} {σ : L2.St} {H : Hp} (h : PG X tg g) {Q : L2.St → Hp → Prop} (q : g v σ H Q) : SemG X tg v σ H Q := fun pins s u I r => h.run pins s σ H v u Q I r q
/-- storing d at the target makes env' -/
def DG (X : Cx) (tg : Expr) (d : D) (env env' : EnvD) : Prop := ∀ (σ : L2.St) (H : Hp) (F : Addr → Prop) (A : Fps) (M : List C) (v : V), Sto X.K F A M H → SlotsN X.K A (Vw F A H) env σ → Rp X.K A (Vw F A H) v d → ∀ Q : L2.St → Hp → Prop,
  (∀ σ', SlotsN X.K A (Vw F A H) env' σ' → Q σ' H) → SemG X tg v σ H Q
theorem dg_name (i : Nat) {x : Str} (hN : X.N.Nodup) (hi : X.N[i]? = some x := by rfl) (hx : Loc X.env.scope x := by first | exact Or.inl rfl | exact Or.inr rfl) (hf : X.fn x = true ∨ X.env.scope.names.lookup x = some .local := by first | exact .inl rfl | exact .inr rfl) :
    DG X (.Name x pos) d env (env.set i (some d)) := fun σ H F A M v S L r Q k => sG (pg_name hN hi hx hf) (k _ (L.set i r))
theorem dg_two {a b : Expr} {k : Nat} {x y : D} {env1 env2 : EnvD} (ha : DG X a x env env1) (hb : DG X b y env1 env2) (hc : X.calm = true := by rfl) (hn : ([a, b] : List Expr).any isStarred = false := by rfl) : True := trivial

/-! ### for -/
theorem db_for {tg iter : Expr} {body : List Stmt} {cond : List C → Prop} (hi : DI X M env tg iter cond ds M1) (J : Nat → List C → EnvD → Prop) (h0 : J 0 M1 env) (hcd : ∀ i M' env', J i M' env' → cond M')
    (hs : ∀ i d M' env', ds[i]? = some d → J i M' env' → ∃ env2, DG X tg d env' env2 ∧ DB X M' env2 body ⟨J (i + 1), Fi.rt, fun M2 e2 => DB X M2 e2 rest Fi, J (i + 1), Fi.ex⟩) (hd : ∀ M' env', J ds.length M' env' → DB X M' env' rest Fi)
    (hp : PassesOwn (model X.prog X.w) X.A X.env X.xe) (hc : X.calm = true := by rfl) (hfs : ∀ x, foldedSetIterable iter X.env x = pure x := by intro _; rfl) : DB X M env (.For tg iter body [] pos :: rest) Fi := fun σ H F A S L Dn W tk m => by
  refine semCons (sS (ps_for hp hc (semI X tg iter) (semG X tg) (semSs X body) hfs) ?_)
  refine hi σ H F A S L.2 _ fun Jt H1 A1 t1 S1 wk => ?_
  refine ⟨fun i n σ' H' => n = ds.length - i ∧ i ≤ ds.length ∧ ∃ A' M' env', Stp A1 H1 A' H' ∧ Sto X.K F A' M' H' ∧ SlotsN X.K A' (Vw F A' H') env' σ' ∧ J i M' env', ⟨ds.length, by simp, Nat.zero_le _, A1, M1, env, Stp.refl _ _, S1, L.stp S t1, h0⟩, ?_⟩
  rintro i n σ' H' ⟨rfl, hle, A', M', env', t', S', L', j⟩
  have cnd := hcd i M' env' j
  have mm := m.stp (t1.trans t')
  by_cases hlt : i < ds.length
  · refine .inr ⟨wk.go i A' M' H' t' S' cnd hlt, fun σ2 H2 => ∃ A2 M2 env2, Stp A1 H1 A2 H2 ∧ Sto X.K F A2 M2 H2 ∧ SlotsN X.K A2 (Vw F A2 H2) env2 σ2 ∧ J (i + 1) M2 env2, fun σ2 H2 z => ⟨ds.length - (i + 1), by omega, rfl, hlt, z⟩, fun x H2 hy => ?_⟩
    obtain ⟨rfl, d, hd', r⟩ := wk.yld i A' M' H' x H2 t' S' cnd hy hlt
    obtain ⟨env2, hg, hb⟩ := hs i d M' env' hd' j
    refine hg σ' H2 F A' M' x S' L' r _ fun σ2 L2 => ?_
    refine hb σ2 H2 F A' S' L2 _ W tk ⟨fun M2 e2 s2 H3 A2 q g S2 L3 => ⟨A2, M2, e2, t'.trans g, S2, L3, q⟩, fun d M' v H' A' h g => mm.rt d M' v H' A' h g, fun M2 e2 s2 H3 A2 q g S2 L3 => q s2 H3 F A2 S2 L3 Dn W tk (mm.stp g),
      fun M2 e2 s2 H3 A2 q g S2 L3 => ⟨A2, M2, e2, t'.trans g, S2, L3, q⟩, fun Ca M' e s H' A' h g => mm.ex Ca M' e s H' A' h g⟩
  · have e : i = ds.length := by omega
    subst e
    exact .inl ⟨wk.stop _ A' M' H' t' S' cnd (Nat.le_refl _), hd M' env' j σ' H' F A' S' L' Dn W tk mm⟩
end
end KT
namespace KT
open PySem PySem.Spec PyProof.Rows L2

/-! ### plain data, data seen through the cells -/
mutual
def D.nl : D → Bool
  | .lst ds => nls ds
  | .tup ds => nls ds
  | .obj _ fs => nlf fs
  | .loc _ => false
  | .non => true | .bl _ => true | .int _ => true | .str _ => true | .adr _ => true | .scr _ => true | .ty _ => true
def nls : List D → Bool
  | [] => true
  | d :: ds => d.nl && nls ds
def nlf : List (Str × D) → Bool
  | [] => true
  | (_, d) :: ds => d.nl && nlf ds
end
theorem nls_all : ∀ {ds : List D}, (∀ d ∈ ds, d.nl = true) → nls ds = true
  | [], _ => by rw [nls]
  | d :: ds, h => by rw [nls, h d List.mem_cons_self, nls_all fun e he => h e (List.mem_cons_of_mem _ he)]; rfl
theorem nls_map {α : Type} (f : α → D) (h : ∀ x, (f x).nl = true) (xs : List α) : nls (xs.map f) = true := nls_all fun d hd => by
  obtain ⟨x, _, rfl⟩ := List.mem_map.mp hd
  exact h x
theorem nls_ints (xs : List Int) : nls (xs.map D.int) = true := nls_map _ (fun _ => by rw [D.nl]) xs
theorem nls_strs (xs : List Str) : nls (xs.map D.str) = true := nls_map _ (fun _ => by rw [D.nl]) xs
theorem nl_ints (xs : List Int) : (D.lst (xs.map D.int)).nl = true := by rw [D.nl]; exact nls_ints xs
theorem nl_strs (xs : List Str) : (D.lst (xs.map D.str)).nl = true := by rw [D.nl]; exact nls_strs xs
section
variable {K : PySem.W.Frag} {A B : Fps} {G : Hp}
mutual
theorem Rp.nl : ∀ (d : D) (v : V), d.nl = true → Rp K A G v d → Rp K B G v d
  | .non, _, _, h => by cases h; exact .non
  | .bl _, _, _, h => by cases h; exact .bl _
  | .int _, _, _, h => by cases h; exact .int _
  | .str _, _, _, h => by cases h; exact .str _
  | .lst ds, _, n, h => by cases h with | lst h1 h2 => exact .lst h1 (Rps.nl ds _ (by rw [D.nl] at n; exact n) h2)
  | .tup ds, _, n, h => by cases h with | tup h1 h2 => exact .tup h1 (Rps.nl ds _ (by rw [D.nl] at n; exact n) h2)
  | .obj C fs, _, n, h => by cases h with | obj h1 h2 => exact .obj h1 (Rfs.nl fs _ (by rw [D.nl] at n; exact n) h2)
  | .loc k, _, n, h => by rw [D.nl] at n; cases n
  | .adr a, _, _, h => by cases h; exact .adr _
  | .ty a, _, _, h => by cases h; exact .ty _
  | .scr ns, _, _, h => by cases h with | scr h1 => exact .scr h1
theorem Rps.nl : ∀ (ds : List D) (vs : List V), nls ds = true → Rps K A G vs ds → Rps K B G vs ds
  | [], _, _, h => by cases h; exact .nil
  | d :: ds, _, n, h => by
    rw [nls, Bool.and_eq_true] at n
    cases h with | cons h1 h2 => exact .cons (Rp.nl d _ n.1 h1) (Rps.nl ds _ n.2 h2)
theorem Rfs.nl : ∀ (fs : List (Str × D)) (fvs : List (Str × V)), nlf fs = true → Rfs K A G fvs fs → Rfs K B G fvs fs
  | [], _, _, h => by cases h; exact .nil
  | (_, d) :: fs, _, n, h => by
    rw [nlf, Bool.and_eq_true] at n
    cases h with | cons h1 h2 => exact .cons (Rp.nl d _ n.1 h1) (Rfs.nl fs _ n.2 h2)
end
end
/-- the callers' cells hidden, as a set -/
def hidA (F : Addr → Prop) (A : Fps) : Addr → Prop := fun a => F a ∨ ∃ fp ∈ A, a ∈ fp
theorem Vw.hidV {F : Addr → Prop} {A : Fps} {H : Hp} : Vw (hidA F A) [] H = Vw F A H := by
  funext a
  unfold Vw hidA
  by_cases h : F a ∨ ∃ fp ∈ A, a ∈ fp
  · rw [if_pos (.inl h), if_pos h]
  · rw [if_neg h, if_neg (by rintro (z | ⟨fp, z, _⟩); exact h z; exact nomatch z)]
theorem Sto.hidS {K : PySem.W.Frag} {F : Addr → Prop} {A : Fps} {M : List C} {H : Hp} (S : Sto K F A M H) : ∀ a, hidA F A a → H a ≠ none := fun a h => by
  rcases h with h | ⟨fp, h1, h2⟩
  · exact S.hid a h
  · exact (S.trk fp h1 a h2).1
def bkD (CB : Addr) (B : Bk) : D := .obj CB [("sexes", .lst (B.sexes.map .str)), ("parents", .lst (B.parents.map parD)), ("wedded", .lst (B.wedded.map fun xs => .lst (xs.map .int))), ("young", .lst (B.young.map fun xs => .lst (xs.map .int)))]

mutual
/-- d, the cells put in -/
inductive Res (M : List C) : D → D → Prop
  | flat {d : D} : d.nl = true → Res M d d
  | lst {ds es : List D} : Ress M ds es → Res M (.lst ds) (.lst es)
  | tup {ds es : List D} : Ress M ds es → Res M (.tup ds) (.tup es)
  | obj {Cl : Addr} {fs gs : List (Str × D)} : Resf M fs gs → Res M (.obj Cl fs) (.obj Cl gs)
  | cell {k : Nat} {ds es : List D} : M[k]? = some (.lst ds) → Ress M ds es → Res M (.loc k) (.lst es)
  | inst {k : Nat} {Cl : Addr} {fs gs : List (Str × D)} : M[k]? = some (.ins Cl fs) → Resf M fs gs → Res M (.loc k) (.obj Cl gs)
  | book {k : Nat} {CB : Addr} {B : Bk} : M[k]? = some (.bk CB B) → Res M (.loc k) (bkD CB B)
inductive Ress (M : List C) : List D → List D → Prop
  | nil : Ress M [] []
  | cons {d e : D} {ds es : List D} : Res M d e → Ress M ds es → Ress M (d :: ds) (e :: es)
inductive Resf (M : List C) : List (Str × D) → List (Str × D) → Prop
  | nil : Resf M [] []
  | cons {n : Str} {d e : D} {ds es : List (Str × D)} : Res M d e → Resf M ds es → Resf M ((n, d) :: ds) ((n, e) :: es)
end
theorem Ress.flat {M : List C} : ∀ {ds : List D}, nls ds = true → Ress M ds ds
  | [], _ => .nil
  | d :: ds, h => by
    rw [nls, Bool.and_eq_true] at h
    exact .cons (.flat h.1) (Ress.flat h.2)
section
variable {K : PySem.W.Frag} {F : Addr → Prop} {A : Fps} {M : List C} {H : Hp}
theorem Vw.all : Same (Vw F A H) (Vw F [] H) := fun a o h => by
  obtain ⟨h1, h2, _⟩ := Vw.some_of h
  exact Vw.of h1 h2 fun fp hf => nomatch hf
theorem Inner.rps {G : Hp} : ∀ {as : List Addr} {xss : List (List Int)}, (∀ a ∈ as, ∀ o, H a = some o → G a = some o) → Inner H as xss → Rps K [] G (as.map V.ref) (xss.map fun xs => .lst (xs.map .int))
  | [], [], _, _ => .nil
  | a :: as, xs :: xss, k, h => .cons (.lst (k a List.mem_cons_self _ h.1) (.of_ints xs)) (Inner.rps (fun b hb => k b (List.mem_cons_of_mem _ hb)) h.2)
  | [], _ :: _, _, h => h.elim
  | _ :: _, [], _, h => h.elim
/-- a book, seen whole -/
theorem Sto.book (S : Sto K F A M H) {k : Nat} {CB : Addr} {B : Bk} (h : M[k]? = some (.bk CB B)) {v : V} (hv : Rp K A (Vw F A H) v (.loc k)) : Rp K [] (Vw F [] H) v (bkD CB B) := by
  cases hv with
  | @loc _ q r' hA =>
    obtain ⟨b, dx, s, p', w, y, was, yas, pvs, r, h1, h2, h3, h4, h5, h6, h7, h8, h9, h10, h11⟩ := S.cell h hA
    cases h1
    have hm : (q :: r') ∈ A := List.mem_of_getElem? hA
    have vw : ∀ a ∈ q :: r', ∀ o, H a = some o → Vw F [] H a = some o := fun a ha o e => Vw.of e (S.trk _ hm a ha).2 fun fp hf => nomatch hf
    refine .obj (vw q ((h2 q).mpr (.inl rfl)) _ h4) (.cons ?_ (.cons ?_ (.cons ?_ (.cons ?_ .nil))))
    · exact .lst (vw s ((h2 s).mpr (.inr (.inl rfl))) _ h5) (.of_strs _)
    · refine .lst (vw p' ((h2 p').mpr (.inr (.inr (.inl rfl)))) _ h6) ?_
      refine Rps.nl _ _ (nls_map _ (fun x => ?_) _) (h7.mono Vw.all (Pre.refl A))
      cases x with
      | none => simp [parD, D.nl, nls]
      | some z => simp [parD, D.nl, nls]
    · exact .lst (vw w ((h2 w).mpr (.inr (.inr (.inr (.inl rfl))))) _ h8) (Inner.rps (fun a ha => vw a ((h2 a).mpr (.inr (.inr (.inr (.inr (.inr (.inl ha)))))))) h9)
    · exact .lst (vw y ((h2 y).mpr (.inr (.inr (.inr (.inr (.inl rfl)))))) _ h10) (Inner.rps (fun a ha => vw a ((h2 a).mpr (.inr (.inr (.inr (.inr (.inr (.inr ha)))))))) h11)
mutual
theorem Res.rp (S : Sto K F A M H) : ∀ {d e : D} {v : V}, Res M d e → Rp K A (Vw F A H) v d → Rp K [] (Vw F [] H) v e
  | _, _, _, .flat n, h => Rp.nl _ _ n (h.mono Vw.all (Pre.refl A))
  | _, _, _, .lst r, h => by cases h with | lst h1 h2 => exact .lst (Vw.all _ _ h1) (Ress.rp S r h2)
  | _, _, _, .tup r, h => by cases h with | tup h1 h2 => exact .tup (Vw.all _ _ h1) (Ress.rp S r h2)
  | _, _, _, .obj r, h => by cases h with | obj h1 h2 => exact .obj (Vw.all _ _ h1) (Resf.rp S r h2)
  | _, _, _, .cell hk r, h => by
    obtain ⟨q, vs, e, hA, h1, h2⟩ := S.lst hk h
    subst e
    exact .lst (Vw.of h1 (S.trk [q] (List.mem_of_getElem? hA) q (List.mem_singleton.mpr rfl)).2 fun fp hf => nomatch hf) (Ress.rp S r h2)
  | _, _, _, .inst hk r, h => by
    cases h with
    | @loc _ q r' hA =>
      obtain ⟨x, dx, fvs, h1, h2, h3⟩ := S.cell hk hA
      cases h1
      exact .obj (Vw.of h2 (S.trk [q] (List.mem_of_getElem? hA) q (List.mem_singleton.mpr rfl)).2 fun fp hf => nomatch hf) (Resf.rp S r h3)
  | _, _, _, .book hk, h => S.book hk h
theorem Ress.rp (S : Sto K F A M H) : ∀ {ds es : List D} {vs : List V}, Ress M ds es → Rps K A (Vw F A H) vs ds → Rps K [] (Vw F [] H) vs es
  | _, _, _, .nil, h => by cases h; exact .nil
  | _, _, _, .cons r t, h => by cases h with | cons h1 h2 => exact .cons (Res.rp S r h1) (Ress.rp S t h2)
theorem Resf.rp (S : Sto K F A M H) : ∀ {ds es : List (Str × D)} {vs : List (Str × V)}, Resf M ds es → Rfs K A (Vw F A H) vs ds → Rfs K [] (Vw F [] H) vs es
  | _, _, _, .nil, h => by cases h; exact .nil
  | _, _, _, .cons r t, h => by cases h with | cons h1 h2 => exact .cons (Res.rp S r h1) (Resf.rp S t h2)
end
end

/-! ### data that no change touches: flat, tuples of such -/
mutual
def D.imm : D → Bool
  | .tup ds => imms ds
  | .lst _ => false | .obj _ _ => false | .loc _ => false | .adr _ => false | .scr _ => false
  | .non => true | .bl _ => true | .int _ => true | .str _ => true | .ty _ => true
def imms : List D → Bool
  | [] => true
  | d :: ds => d.imm && imms ds
end
section
variable {K : PySem.W.Frag} {F : Addr → Prop} {A : Fps} {M : List C} {H H' : Hp}
mutual
theorem Rp.imm (S : Sto K F A M H) : ∀ (d : D) (v : V), d.imm = true → Rp K [] (Vw F [] H) v d → Rp K A (Vw F A H) v d
  | .non, _, _, h => by cases h; exact .non
  | .bl _, _, _, h => by cases h; exact .bl _
  | .int _, _, _, h => by cases h; exact .int _
  | .str _, _, _, h => by cases h; exact .str _
  | .tup ds, _, n, h => by
    cases h with
    | @tup a vs _ h1 h2 =>
      obtain ⟨g1, g2, _⟩ := Vw.some_of h1
      refine .tup (Vw.of g1 g2 fun fp hf ha => ?_) (Rps.imm S ds _ (by rw [D.imm] at n; exact n) h2)
      obtain ⟨k, hk⟩ := List.mem_iff_getElem?.mp hf
      have hl : k < M.length := by rw [← S.len]; exact (List.getElem?_eq_some_iff.mp hk).1
      obtain ⟨fp', e1, e2⟩ := S.cells k M[k] (List.getElem?_eq_getElem hl)
      rw [hk] at e1; cases e1
      exact Cell.notup ha g1 e2
  | .lst _, _, n, _ => by rw [D.imm] at n; cases n
  | .obj _ _, _, n, _ => by rw [D.imm] at n; cases n
  | .loc _, _, n, _ => by rw [D.imm] at n; cases n
  | .adr _, _, n, _ => by rw [D.imm] at n; cases n
  | .ty _, _, _, h => by cases h; exact .ty _
  | .scr _, _, n, _ => by rw [D.imm] at n; cases n
theorem Rps.imm (S : Sto K F A M H) : ∀ (ds : List D) (vs : List V), imms ds = true → Rps K [] (Vw F [] H) vs ds → Rps K A (Vw F A H) vs ds
  | [], _, _, h => by cases h; exact .nil
  | d :: ds, _, n, h => by
    rw [imms, Bool.and_eq_true] at n
    cases h with | cons h1 h2 => exact .cons (Rp.imm S d _ n.1 h1) (Rps.imm S ds _ n.2 h2)
end
end

/-! ### cells handed over: a callee's new cells behind the caller's -/
mutual
def D.sh (n : Nat) : D → D
  | .lst ds => .lst (shs n ds)
  | .tup ds => .tup (shs n ds)
  | .obj Cl fs => .obj Cl (shf n fs)
  | .loc k => .loc (n + k)
  | .non => .non | .bl b => .bl b | .int i => .int i | .str s => .str s | .adr a => .adr a | .scr ns => .scr ns | .ty n => .ty n
def shs (n : Nat) : List D → List D
  | [] => []
  | d :: ds => d.sh n :: shs n ds
def shf (n : Nat) : List (Str × D) → List (Str × D)
  | [] => []
  | (f, d) :: ds => (f, d.sh n) :: shf n ds
end
def C.sh (n : Nat) : C → C
  | .lst ds => .lst (shs n ds)
  | .dk kvs => .dk (kvs.map fun kv => (kv.1, kv.2.sh n))
  | .bk CB B => .bk CB B
  | .ins Cl fs => .ins Cl (shf n fs)
  | .nd ks => .nd (ks.map fun k => (k.1, k.2.1.sh n, k.2.2.sh n))
theorem shs_map {α : Type} {f : α → D} {n : Nat} (h : ∀ x, (f x).sh n = f x) : ∀ xs : List α, shs n (xs.map f) = xs.map f
  | [] => by rw [List.map_nil, shs]
  | x :: xs => by rw [List.map_cons, shs, h, shs_map h xs]
theorem shs_ints (n : Nat) (xs : List Int) : shs n (xs.map D.int) = xs.map D.int := shs_map (fun _ => by rw [D.sh]) xs
theorem shs_strs (n : Nat) (xs : List Str) : shs n (xs.map D.str) = xs.map D.str := shs_map (fun _ => by rw [D.sh]) xs
section
variable {K : PySem.W.Frag} {A B : Fps} {G G' : Hp}
mutual
theorem Rp.sh (e : Same G G') : ∀ (d : D) (v : V), Rp K B G v d → Rp K (A ++ B) G' v (d.sh A.length)
  | .non, _, h => by cases h; rw [D.sh]; exact .non
  | .bl _, _, h => by cases h; rw [D.sh]; exact .bl _
  | .int _, _, h => by cases h; rw [D.sh]; exact .int _
  | .str _, _, h => by cases h; rw [D.sh]; exact .str _
  | .lst ds, _, h => by cases h with | lst h1 h2 => rw [D.sh]; exact .lst (e _ _ h1) (Rps.sh e ds _ h2)
  | .tup ds, _, h => by cases h with | tup h1 h2 => rw [D.sh]; exact .tup (e _ _ h1) (Rps.sh e ds _ h2)
  | .obj C fs, _, h => by cases h with | obj h1 h2 => rw [D.sh]; exact .obj (e _ _ h1) (Rfs.sh e fs _ h2)
  | .loc k, _, h => by
    cases h with
    | loc h1 =>
      rw [D.sh]
      exact .loc (by rw [List.getElem?_append_right (Nat.le_add_right _ _), Nat.add_sub_cancel_left]; exact h1)
  | .adr a, _, h => by cases h; rw [D.sh]; exact .adr _
  | .ty a, _, h => by cases h; rw [D.sh]; exact .ty _
  | .scr ns, _, h => by cases h with | scr h1 => rw [D.sh]; exact .scr (e.seq h1)
theorem Rps.sh (e : Same G G') : ∀ (ds : List D) (vs : List V), Rps K B G vs ds → Rps K (A ++ B) G' vs (shs A.length ds)
  | [], _, h => by cases h; rw [shs]; exact .nil
  | d :: ds, _, h => by cases h with | cons h1 h2 => rw [shs]; exact .cons (Rp.sh e d _ h1) (Rps.sh e ds _ h2)
theorem Rfs.sh (e : Same G G') : ∀ (fs : List (Str × D)) (fvs : List (Str × V)), Rfs K B G fvs fs → Rfs K (A ++ B) G' fvs (shf A.length fs)
  | [], _, h => by cases h; rw [shf]; exact .nil
  | (n, d) :: fs, _, h => by cases h with | cons h1 h2 => rw [shf]; exact .cons (Rp.sh e d _ h1) (Rfs.sh e fs _ h2)
end
theorem Kvs.sh (e : Same G G') : ∀ {kws : List (Key × V)} {kvs : List (Key × D)}, Kvs K B G kws kvs → Kvs K (A ++ B) G' kws (kvs.map fun kv => (kv.1, kv.2.sh A.length))
  | _, _, .nil => .nil
  | _, _, .cons r t => .cons (Rp.sh e _ _ r) (Kvs.sh e t)
theorem Nes.sh (e : Same G G') : ∀ {es : List DictEntry} {ks : List (Int × D × D)}, Nes K B G es ks → Nes K (A ++ B) G' es (ks.map fun k => (k.1, k.2.1.sh A.length, k.2.2.sh A.length))
  | _, _, .nil => .nil
  | _, _, .cons h1 h2 r h3 r2 t => .cons h1 h2 (Rp.sh e _ _ r) h3 (Rp.sh e _ _ r2) (Nes.sh e t)
theorem nls_sh_par (n : Nat) : ∀ x : Option (Int × Int), (parD x).sh n = parD x
  | none => by simp [parD, D.sh, shs]
  | some z => by simp [parD, D.sh, shs]
theorem Cell.sh {H : Hp} {fp : List Addr} (e : Same G G') : ∀ {c : C}, Cell K B G H fp c → Cell K (A ++ B) G' H fp (c.sh A.length)
  | .lst ds, ⟨x, vs, h1, h2, h3⟩ => ⟨x, vs, h1, h2, Rps.sh e _ _ h3⟩
  | .dk kvs, ⟨x, vs, h1, h2, h3⟩ => ⟨x, vs, h1, h2, h3.sh e⟩
  | .ins Cl fs, ⟨x, dx, fvs, h1, h2, h3⟩ => ⟨x, dx, fvs, h1, h2, Rfs.sh e _ _ h3⟩
  | .nd ks, ⟨x, es, ep, h1, h2, h4, h3⟩ => ⟨x, es, ep, h1, h2, h4, h3.sh e⟩
  | .bk CB B, ⟨b, dx, s, p', w, y, was, yas, pvs, r, h1, h2, h3, h4, h5, h6, h7, h8, h9, h10, h11⟩ =>
    ⟨b, dx, s, p', w, y, was, yas, pvs, r, h1, h2, h3, h4, h5, h6, by
      have := Rps.sh (A := A) e _ _ h7
      rw [shs_map (nls_sh_par A.length)] at this
      exact this, h8, h9, h10, h11⟩
end
section
variable {K : PySem.W.Frag} {F : Addr → Prop} {A B : Fps} {M Ms : List C} {H H' : Hp}
/-- behind a call that saw none of the cells and made cells of its own -/
theorem Sto.join (S : Sto K F A M H) (e : Same H H') (T : Sto K (hidA F A) B Ms H') (fr : ∀ fp ∈ B, ∀ a ∈ fp, H a = none) :
    Sto K F (A ++ B) (M ++ Ms.map (C.sh A.length)) H' ∧ Stp A H (A ++ B) H' ∧ ∀ v d, Rp K B (Vw (hidA F A) B H') v d → Rp K (A ++ B) (Vw F (A ++ B) H') v (d.sh A.length) := by
  have S1 := S.same e
  have st : Stp A H (A ++ B) H' := ⟨fun a u h _ => e a u h, Pre.app A _, fun fp hf a ha => by
    rcases List.mem_append.mp hf with hf | hf
    · exact .inl ⟨fp, hf, ha⟩
    · exact .inr (fr fp hf a ha)⟩
  have vw : Same (Vw (hidA F A) B H') (Vw F (A ++ B) H') := fun a o h => by
    obtain ⟨h1, h2, h3⟩ := Vw.some_of h
    refine Vw.of h1 (fun z => h2 (.inl z)) fun fp hf ha => ?_
    rcases List.mem_append.mp hf with hf | hf
    · exact h2 (.inr ⟨fp, hf, ha⟩)
    · exact h3 fp hf ha
  have sp : ∀ (i : Nat) (fp : List Addr), (A ++ B)[i]? = some fp → (i < A.length ∧ A[i]? = some fp) ∨ (A.length ≤ i ∧ B[i - A.length]? = some fp) := fun i fp hi => by
    by_cases hl : i < A.length
    · rw [List.getElem?_append_left hl] at hi
      exact .inl ⟨hl, hi⟩
    · rw [List.getElem?_append_right (by omega)] at hi
      exact .inr ⟨by omega, hi⟩
  refine ⟨⟨S1.hid, fun fp hf a ha => ?_, fun i j fp gp a hi hj ha hb => ?_, fun k c hk => ?_, by rw [List.length_append, List.length_append, List.length_map, S.len, T.len]⟩, st, fun v d h => Rp.sh vw d v h⟩
  · rcases List.mem_append.mp hf with hf | hf
    · exact S1.trk fp hf a ha
    · exact ⟨(T.trk fp hf a ha).1, fun z => (T.trk fp hf a ha).2 (.inl z)⟩
  · rcases sp i fp hi with ⟨l1, e1⟩ | ⟨l1, e1⟩
    · rcases sp j gp hj with ⟨l2, e2⟩ | ⟨l2, e2⟩
      · exact S.dis i j fp gp a e1 e2 ha hb
      · exact absurd (fr gp (List.mem_of_getElem? e2) a hb) (S.trk fp (List.mem_of_getElem? e1) a ha).1
    · rcases sp j gp hj with ⟨l2, e2⟩ | ⟨l2, e2⟩
      · exact absurd (fr fp (List.mem_of_getElem? e1) a ha) (S.trk gp (List.mem_of_getElem? e2) a hb).1
      · have := T.dis _ _ fp gp a e1 e2 ha hb
        omega
  · by_cases hl : k < M.length
    · rw [List.getElem?_append_left hl] at hk
      obtain ⟨fp, g1, g2⟩ := S.cells k c hk
      refine ⟨fp, ?_, g2.keep (st.view S.hid) (Pre.app A _) fun a _ u q => e a u q⟩
      rw [List.getElem?_append_left (by rw [S.len]; exact hl)]
      exact g1
    · rw [List.getElem?_append_right (by omega), List.getElem?_map] at hk
      cases hc : Ms[k - M.length]? with
      | none => rw [hc] at hk; cases hk
      | some c0 =>
        rw [hc] at hk
        cases hk
        obtain ⟨fp, g1, g2⟩ := T.cells _ c0 hc
        refine ⟨fp, ?_, g2.sh vw⟩
        rw [List.getElem?_append_right (by rw [S.len]; omega), S.len]
        exact g1
end

/-! ### contracts -/
inductive Out where
  | ok (d : D) | er (Ca : Addr) | own (r : D) (Ms : List C)
def Meet (K : PySem.W.Frag) (F : Addr → Prop) (H : Hp) (o : Out) (Q : VK) (E : Value → Hp → Prop) : Prop :=
  match o with
  | .ok d => ∀ v H', Same H H' → Rp K [] (Vw F [] H') v d → Q v H'
  | .er Ca => ∀ H', Same H H' → E (.ref Ca) H'
  | .own r Ms => ∀ v H' B, Same H H' → (∀ fp ∈ B, ∀ a ∈ fp, H a = none) → Sto K F B Ms H' → Rp K B (Vw F B H') v r → Q v H'
def spX (K : PySem.W.Frag) (Sg : List D → Out → Prop) : Sp := fun vs H Q E => ∃ (F : Addr → Prop) (ds : List D) (o : Out), (∀ a, F a → H a ≠ none) ∧ Rps K [] (Vw F [] H) vs ds ∧ Sg ds o ∧ Meet K F H o Q (fun c H' => E c none H')
/-- a body's way out against a contract's -/
def Fits (o : Out) : Fin where
  nx := fun _ _ => o = .ok .non
  rt := fun r M' => match o with
    | .ok d => Res M' r d
    | .er _ => False
    | .own d Ms => r = d ∧ M' = Ms
  ex := fun Ca _ _ => o = .er Ca
def startE (N : List Str) (ds : List D) : EnvD := ds.map some ++ List.replicate (N.length - ds.length) none
theorem sto_nil {K : PySem.W.Frag} {F : Addr → Prop} {H : Hp} (h : ∀ a, F a → H a ≠ none) : Sto K F [] [] H :=
  ⟨h, (fun fp hf => nomatch hf), (fun i j fp gp a hi => by simp at hi), (fun k c hk => by simp at hk), rfl⟩
theorem slots_start {K : PySem.W.Frag} {G : Hp} {N : List Str} {vs : List V} {ds : List D} (r : Rps K [] G vs ds) : SlotsN K [] G (startE N ds) (L2.start N vs) := by
  have hl := r.length
  refine ⟨by simp [startE, L2.start, hl], fun i d h => ?_⟩
  unfold startE at h
  unfold L2.start
  by_cases hi : i < ds.length
  · rw [List.getElem?_append_left (by simpa using hi), List.getElem?_map] at h
    cases e : ds[i]? with
    | none => rw [e] at h; cases h
    | some d' =>
      rw [e] at h
      cases h
      obtain ⟨v, h1, h2⟩ := r.get e
      refine ⟨v, ?_, h2⟩
      rw [List.getElem?_append_left (by rw [List.length_map, hl]; exact hi), List.getElem?_map, h1]
      rfl
  · rw [List.getElem?_append_right (by simpa using hi), List.getElem?_replicate] at h
    split at h <;> cases h
section
variable {P : Program} {w : World} {K : PySem.W.Frag} {mg : Str → Option Value} {base : Heap}
/-- THE RULE for a def -/
theorem okX {x qual : Str} {st : Stmt} {f : Addr} {fd : FuncData} {N ps : List Str} {k : Nat} {Sg : List D → Out → Prop} (F : Fun K x qual st f fd) (S : FnScope N ps (defScope st)) (len : ∀ ds o, Sg ds o → ds.length = ps.length)
    (hb : ∀ (cdv : Value) (A : Around) (outer : List Env) (s : Shared) (H : Hp) (E : XK) (ds : List D) (o : Out), Room k (A.deeper (envOfC qual (defScope st) s.heap.objs.size f cdv)) → Sg ds o →
      DB (cxOf (L2.CX P w) P w K mg base N qual (defScope st) f cdv A outer s H E) [] (startE N ds) (defBody st) (Fits o)) : FnOk P w K mg base (L2.CX P w) (k + 1) f fd ps (spX K Sg) := by
  refine F.okX S (fun vs H Q E ⟨Fh, ds, o, _, r, hs, _⟩ => by rw [r.length]; exact len ds o hs) (fun cdv A outer s H vs Q E hr ⟨Fh, ds, o, hF, r, hs, q⟩ => ?_)
  refine ⟨_, semSs _ _, ?_⟩
  refine hb cdv A outer s H E ds o hr hs (L2.start N vs) H Fh [] (sto_nil hF) (slots_start r) _ (fun cls d _ H' => E cls d H') (takes_of rfl rfl rfl rfl) ⟨fun M' env' σ' H' A' h t S' L' => ?_, fun d M' v H' A' h t S' r' => ?_, (fun _ _ _ _ _ h => h.elim), (fun _ _ _ _ _ h => h.elim), fun Ca M' env' σ' H' A' h t S' _ => ?_⟩
  · have h : o = .ok .non := h
    subst h
    exact q .non H' t.nil .non
  · cases o with
    | ok d' => exact q v H' t.nil (Res.rp S' h r')
    | er _ => exact h.elim
    | own d' Ms =>
      obtain ⟨rfl, rfl⟩ := h
      exact q v H' A' t.nil (fun fp hf a ha => (t.fresh fp hf a ha).resolve_left fun ⟨gp, hg, _⟩ => nomatch hg) S' r'
  · have h : o = .er Ca := h
    subst h
    exact q H' t.nil
end

/-- a def of the module, callable -/
structure Dfn (P : Program) (w : World) (K : PySem.W.Frag) (mg : Str → Option Value) (base : Heap) (x : Str) (k : Nat) (ps : List Str) (sp : Sp) : Prop where
  ex : ∃ f fd, mg x = some (.ref f) ∧ PySem.W.keepIn K (.ref f) = true ∧ Binds K fd ps [] ∧ FnOk P w K mg base (L2.CX P w) k f fd ps sp
/-- a method of the class at Cl, callable -/
structure Mtd (P : Program) (w : World) (K : PySem.W.Frag) (mg : Str → Option Value) (base : Heap) (Cl : Addr) (m : Str) (k : Nat) (ps : List Str) (sp : Sp) : Prop where
  ex : ∃ f fd, Meth K Cl m f ∧ Binds K fd ps [] ∧ FnOk P w K mg base (L2.CX P w) k f fd ps sp
structure Mkr (P : Program) (w : World) (K : PySem.W.Frag) (mg : Str → Option Value) (base : Heap) (x : Str) (Cl : Addr) (k : Nat) (ps : List Str) (sp : Sp) : Prop where
  ex : ∃ f fd j, j + 1 = k ∧ mg x = some (.ref Cl) ∧ Mk K Cl f ∧ Binds K fd ps [] ∧ FnOk P w K mg base (L2.CX P w) j f fd ps sp
section
variable {P : Program} {w : World} {K : PySem.W.Frag} {mg : Str → Option Value} {base : Heap} {x m : Str} {Cl : Addr} {j k : Nat} {ps : List Str} {sp : Sp}
theorem Dfn.mono (h : Dfn P w K mg base x j ps sp) (hk : j ≤ k) : Dfn P w K mg base x k ps sp := by
  obtain ⟨f, fd, h1, h2, h3, h4⟩ := h.ex
  exact ⟨f, fd, h1, h2, h3, h4.mono hk⟩
theorem Mtd.mono (h : Mtd P w K mg base Cl m j ps sp) (hk : j ≤ k) : Mtd P w K mg base Cl m k ps sp := by
  obtain ⟨f, fd, h1, h2, h3⟩ := h.ex
  exact ⟨f, fd, h1, h2, h3.mono hk⟩
theorem Mkr.mono (h : Mkr P w K mg base x Cl j ps sp) (hk : j ≤ k) : Mkr P w K mg base x Cl k ps sp := by
  obtain ⟨f, fd, i, e, h1, h2, h3, h4⟩ := h.ex
  exact ⟨f, fd, k - 1, by omega, h1, h2, h3, h4.mono (by omega)⟩
end
/-- the texts of the defs, as the top has left them -/
structure Std (K : PySem.W.Frag) (mg : Str → Option Value) (x : Str) (st : Stmt) (ps : List Str) : Prop where
  ex : ∃ f fd, mg x = some (.ref f) ∧ Fun K x x st f fd ∧ Binds K fd ps []
structure StdM (K : PySem.W.Frag) (Cl : Addr) (m qual : Str) (st : Stmt) (ps : List Str) : Prop where
  ex : ∃ f fd, Meth K Cl m f ∧ Fun K m qual st f fd ∧ Binds K fd ps []

/-- an expression raises -/
def DX (X : Cx) (M : List C) (env : EnvD) (e : Expr) (Ca : Addr) (M' : List C) : Prop := ∀ (σ : L2.St) (H : Hp) (F : Addr → Prop) (A : Fps), Sto X.K F A M H → Slots X.K A (Vw F A H) env σ → ∀ (W : WX), Takes X W →
  (∀ H' A', Stp A H A' H' → Sto X.K F A' M' H' → W (.ref Ca) none σ H') → ∀ Q : VK, SemE X e σ H Q

section
variable {X : Cx} {M M1 M2 M3 : List C} {env : EnvD} {e : Expr} {es : List Expr} {d : D} {ds : List D} {pos p apos : Pos} {x m : Str} {k : Nat} {ps : List Str} {Sg : List D → Out → Prop} {sp : Sp} {Cl : Addr}
/-- what a call asks -/
theorem s_call (Df : Dfn X.prog X.w X.K X.mg X.base x k ps sp) (hr : Room k X.A) {σ : L2.St} {H : Hp} {Q : VK} {W : WX} (tk : Takes X W) (h : SemA X (e :: es) σ H fun vs H1 => sp vs H1 Q (WE W σ)) (hg : Gl X x := by rfl) (hdb : (x == ("__debug__" : Str)) = false := by decide)
    (he : starEach (e :: es) X.env = (false, eval e X.env) :: starEach es X.env := by rfl) (hpl : (backTo pos (starEach es X.env)).any (·.1) = false := by rfl) : SemE X (.Call (.Name x p) (e :: es) [] pos) σ H Q := by
  obtain ⟨f, fd, hm, hk, hb, F⟩ := Df.ex
  exact sE (pe_callS (E := WE W) F hr hg hm hk hb (passAt tk) (semA X (e :: es)) hdb he hpl) h
theorem de_call (Df : Dfn X.prog X.w X.K X.mg X.base x k ps (spX X.K Sg)) (hr : Room k X.A) (ha : DA X M env (e :: es) ds M1) (hs : Sg ds (.ok d)) (hn : nls ds = true := by first | rfl | simp [nls, D.nl, nls_ints, nl_ints, nls_strs, nl_strs]) (hnd : d.nl = true := by first | rfl | simp [nls, D.nl, nls_ints, nl_ints, nls_strs, nl_strs])
    (hg : Gl X x := by rfl) (hdb : (x == ("__debug__" : Str)) = false := by decide)
    (he : starEach (e :: es) X.env = (false, eval e X.env) :: starEach es X.env := by rfl) (hpl : (backTo pos (starEach es X.env)).any (·.1) = false := by rfl) : DE X M env (.Call (.Name x p) (e :: es) [] pos) d M1 := fun σ H F A S L Q q => by
  refine s_call Df hr takes0 ?_ hg hdb he hpl
  refine ha σ H F A S L _ fun vs H1 A1 t1 S1 r1 => ?_
  refine ⟨hidA F A1, ds, .ok d, S1.hidS, by rw [Vw.hidV]; exact Rps.nl _ _ hn r1, hs, fun v H2 e2 r2 => ?_⟩
  rw [Vw.hidV] at r2
  exact q v H2 A1 (t1.trans (Stp.same e2)) (S1.same e2) (Rp.nl _ _ hnd r2)
/-- cells seen whole by the callee, the answer plain -/
theorem de_callR {es' : List D} (Df : Dfn X.prog X.w X.K X.mg X.base x k ps (spX X.K Sg)) (hr : Room k X.A) (ha : DA X M env (e :: es) ds M1) (hR : Ress M1 ds es') (hs : Sg es' (.ok d)) (hi : d.imm = true := by rfl) (hg : Gl X x := by rfl) (hdb : (x == ("__debug__" : Str)) = false := by decide)
    (he : starEach (e :: es) X.env = (false, eval e X.env) :: starEach es X.env := by rfl) (hpl : (backTo pos (starEach es X.env)).any (·.1) = false := by rfl) : DE X M env (.Call (.Name x p) (e :: es) [] pos) d M1 := fun σ H F A S L Q q => by
  refine s_call Df hr takes0 ?_ hg hdb he hpl
  refine ha σ H F A S L _ fun vs H1 A1 t1 S1 r1 => ?_
  refine ⟨F, es', .ok d, S1.hid, Ress.rp S1 hR r1, hs, fun v H2 e2 r2 => ?_⟩
  exact q v H2 A1 (t1.trans (Stp.same e2)) (S1.same e2) (Rp.imm (S1.same e2) _ _ hi r2)
/-- the callee's new cells become ours -/
theorem de_callO {Ms : List C} (Df : Dfn X.prog X.w X.K X.mg X.base x k ps (spX X.K Sg)) (hr : Room k X.A) (ha : DA X M env (e :: es) ds M1) (hs : Sg ds (.own d Ms)) (hn : nls ds = true := by first | rfl | simp [nls, D.nl, nls_ints, nl_ints, nls_strs, nl_strs]) (hg : Gl X x := by rfl) (hdb : (x == ("__debug__" : Str)) = false := by decide)
    (he : starEach (e :: es) X.env = (false, eval e X.env) :: starEach es X.env := by rfl) (hpl : (backTo pos (starEach es X.env)).any (·.1) = false := by rfl) : DE X M env (.Call (.Name x p) (e :: es) [] pos) (d.sh M1.length) (M1 ++ Ms.map (C.sh M1.length)) := fun σ H F A S L Q q => by
  refine s_call Df hr takes0 ?_ hg hdb he hpl
  refine ha σ H F A S L _ fun vs H1 A1 t1 S1 r1 => ?_
  refine ⟨hidA F A1, ds, .own d Ms, S1.hidS, by rw [Vw.hidV]; exact Rps.nl _ _ hn r1, hs, fun v H2 B e2 fr T r2 => ?_⟩
  obtain ⟨j1, j2, j3⟩ := S1.join e2 T fr
  rw [S1.len] at j1 j3
  exact q v H2 _ (t1.trans j2) j1 (j3 v d r2)
theorem dx_call {Ca : Addr} {es' : List D} (Df : Dfn X.prog X.w X.K X.mg X.base x k ps (spX X.K Sg)) (hr : Room k X.A) (ha : DA X M env (e :: es) ds M1) (hR : Ress M1 ds es') (hs : Sg es' (.er Ca)) (hg : Gl X x := by rfl) (hdb : (x == ("__debug__" : Str)) = false := by decide)
    (he : starEach (e :: es) X.env = (false, eval e X.env) :: starEach es X.env := by rfl) (hpl : (backTo pos (starEach es X.env)).any (·.1) = false := by rfl) : DX X M env (.Call (.Name x p) (e :: es) [] pos) Ca M1 := fun σ H F A S L W tk q Q => by
  refine s_call Df hr tk ?_ hg hdb he hpl
  refine ha σ H F A S L _ fun vs H1 A1 t1 S1 r1 => ?_
  exact ⟨F, es', .er Ca, S1.hid, Ress.rp S1 hR r1, hs, fun H2 e2 => q H2 A1 (t1.trans (Stp.same e2)) (S1.same e2)⟩
end
end KT
namespace KT
open PySem PySem.Spec PyProof.Rows L2

section
variable {X : Cx} {M M1 M2 M3 : List C} {env : EnvD} {a b o e : Expr} {es : List Expr} {x y z d : D} {ds : List D} {pos p apos cpos : Pos} {rest : List Stmt} {Fi : Fin} {f m : Str} {k : Nat} {ps : List Str} {Sg : List D → Out → Prop} {Cl : Addr}

/-! ### two names at once -/
theorem dg_tup2 {env1 env2 : EnvD} {kk : Nat} (ha : DG X a x env env1) (hb : DG X b y env1 env2) (hc : X.calm = true := by rfl) (hn : (assignEach [a, b] X.env).length = 2 := by rfl) (hst : (assignEach [a, b] X.env).findIdx? (·.1) = none := by rfl)
    (h1 : (assignEach [a, b] X.env).map (·.2) = assign a X.env :: (assignEach [b] X.env).map (·.2) := by rfl) (h2 : (assignEach [b] X.env).map (·.2) = assign b X.env :: (assignEach [] X.env).map (·.2) := by rfl) : DG X (.Tuple [a, b] kk pos) (.tup [x, y]) env env2 := fun σ H F A M v S L r Q q => by
  obtain ⟨t, vs, rfl, ht, hr⟩ := r.tup_at
  cases hr with
  | cons r1 hr =>
    cases hr with
    | cons r2 hr =>
      cases hr
      refine sG (pg_tup hc (pgs_cons (semG X a) (pgs_cons (semG X b) pgs_nil h2) h1) hn hst) ⟨t, _, rfl, SqT.of ht, rfl, _, _, rfl, ?_⟩
      refine ha σ H F A M _ S L r1 _ fun σ1 L1 => ⟨_, _, rfl, ?_⟩
      exact hb σ1 H F A M _ S L1 r2 _ fun σ2 L2 => ⟨rfl, q σ2 L2⟩

/-! ### comprehensions -/
def wipeE (env : EnvD) : List Nat → EnvD
  | [] => env
  | v :: vs => (wipeE env vs).set v none
theorem wipe_get (σ : L2.St) : ∀ (vs : List Nat) (i : Nat), (wipe σ vs)[i]? = if i ∈ vs ∧ i < σ.length then some none else σ[i]?
  | [], i => by simp [wipe]
  | v :: vs, i => by
    unfold wipe
    by_cases e : v = i
    · subst e
      by_cases hl : v < σ.length
      · rw [List.getElem?_set_self (by rw [wipe_length]; exact hl), if_pos ⟨List.mem_cons_self, hl⟩]
      · rw [if_neg (fun z => hl z.2), List.getElem?_eq_none (by rw [List.length_set, wipe_length]; omega), List.getElem?_eq_none (by omega)]
    · rw [List.getElem?_set_ne e, wipe_get σ vs i]
      have e2 : ¬ i = v := fun q => e q.symm
      by_cases h : i ∈ vs ∧ i < σ.length
      · rw [if_pos h, if_pos ⟨List.mem_cons_of_mem _ h.1, h.2⟩]
      · rw [if_neg h, if_neg fun z => h ⟨(List.mem_cons.mp z.1).resolve_left e2, z.2⟩]
theorem wipe_back {σ : L2.St} {vs : List Nat} {j : Nat} {u : Option V} (hj : j ∈ vs) : wipe ((wipe σ vs).set j u) vs = wipe σ vs := by
  apply List.ext_getElem?
  intro i
  rw [wipe_get, wipe_get, List.length_set, wipe_length]
  by_cases h : i ∈ vs ∧ i < σ.length
  · rw [if_pos h, if_pos h]
  · rw [if_neg h, if_neg h]
    by_cases e : j = i
    · subst e
      have hl : ¬ j < σ.length := fun z => h ⟨hj, z⟩
      rw [List.getElem?_eq_none (by rw [List.length_set, wipe_length]; omega), List.getElem?_eq_none (by omega)]
    · rw [List.getElem?_set_ne e, wipe_get, if_neg h]
theorem SlotsN.unset {K : PySem.W.Frag} {A : Fps} {G : Hp} {env : EnvD} {σ : L2.St} (h : SlotsN K A G env σ) (i : Nat) : SlotsN K A G (env.set i none) (σ.set i none) := by
  refine ⟨by rw [List.length_set, List.length_set]; exact h.1, fun j d' hj => ?_⟩
  by_cases e : i = j
  · subst e
    by_cases hl : i < env.length
    · rw [List.getElem?_set_self hl] at hj
      cases hj
    · rw [List.getElem?_eq_none (by rw [List.length_set]; omega)] at hj
      cases hj
  · rw [List.getElem?_set_ne e] at hj ⊢
    exact h.2 j d' hj
theorem SlotsN.wipe {K : PySem.W.Frag} {A : Fps} {G : Hp} {env : EnvD} {σ : L2.St} (h : SlotsN K A G env σ) : ∀ vs : List Nat, SlotsN K A G (wipeE env vs) (L2.wipe σ vs)
  | [] => h
  | v :: vs => (SlotsN.wipe h vs).unset v
theorem Slots.wipeE {K : PySem.W.Frag} {A : Fps} {G : Hp} {env : EnvD} {σ : L2.St} (h : Slots K A G env σ) : ∀ vs : List Nat, Slots K A G (wipeE env vs) (L2.wipe σ vs)
  | [] => h
  | v :: vs => fun j d' hj => by
    have ih := Slots.wipeE h vs
    by_cases e : v = j
    · subst e
      unfold KT.wipeE at hj
      by_cases hl : v < (KT.wipeE env vs).length
      · rw [List.getElem?_set_self hl] at hj
        cases hj
      · rw [List.getElem?_eq_none (by rw [List.length_set]; omega)] at hj
        cases hj
    · unfold KT.wipeE at hj
      unfold L2.wipe
      rw [List.getElem?_set_ne e] at hj ⊢
      exact ih j d' hj
theorem Slots.put {K : PySem.W.Frag} {A : Fps} {G : Hp} {env : EnvD} {σ : L2.St} {v : V} {d : D} (h : Slots K A G env σ) (i : Nat) (hi : i < σ.length) (r : Rp K A G v d) : Slots K A G (env.set i (some d)) (σ.set i (some v)) := fun j d' hj => by
  by_cases e : i = j
  · subst e
    by_cases hl : i < env.length
    · rw [List.getElem?_set_self hl] at hj
      cases hj
      exact ⟨v, List.getElem?_set_self hi, r⟩
    · rw [List.getElem?_eq_none (by rw [List.length_set]; omega)] at hj
      cases hj
  · rw [List.getElem?_set_ne e] at hj ⊢
    exact h j d' hj
def SemTs (X : Cx) (ifs : List Expr) (σ : L2.St) (H : Hp) (Q : Bool → Hp → Prop) : Prop := ∀ (pins : List (Addr × Obj)) (s : Shared), Inv X pins σ H s →
  wpAny (model X.prog X.w) X.A (forIn ifs true fun c r => if r = true then do let ok ← isTrue c X.env (eval c X.env); pure (ForInStep.yield ok) else pure (ForInStep.yield r)) (TP X pins σ Q) X.xe s
theorem semTs (X : Cx) (ifs : List Expr) : PTs X ifs (SemTs X ifs) := ⟨fun pins s _ _ _ I h => h pins s I⟩
def DTs (X : Cx) (M : List C) (env : EnvD) (ifs : List Expr) (b : Bool) (M' : List C) : Prop := ∀ (σ : L2.St) (H : Hp) (F : Addr → Prop) (A : Fps), Sto X.K F A M H → Slots X.K A (Vw F A H) env σ → ∀ Q : Bool → Hp → Prop,
  (∀ H' A', Stp A H A' H' → Sto X.K F A' M' H' → Q b H') → SemTs X ifs σ H Q
theorem dts_nil : DTs X M env [] true M := fun σ H F A S L Q q pins s I => pts_nil.run pins s σ H Q I (q H A (Stp.refl A H) S)
theorem dts_one {c : Expr} {t : Bool} (h : DT X M env c t M1) : DTs X M env [c] t M1 := fun σ H F A S L Q q pins s I => (pts_one (semT X c)).run pins s σ H Q I (h σ H F A S L Q q)
/-- the heap without p -/
def del (H : Hp) (p : Addr) : Hp := fun a => if a = p then none else H a
theorem del_same {H : Hp} {p : Addr} : del H p p = none := by unfold del; rw [if_pos rfl]
theorem del_ne {H : Hp} {p a : Addr} (h : a ≠ p) : del H p a = H a := by unfold del; rw [if_neg h]
theorem del_le {H : Hp} {p : Addr} : Same (del H p) H := fun a o h => by
  by_cases e : a = p
  · subst e; rw [del_same] at h; cases h
  · rw [del_ne e] at h; exact h
theorem Vw.hid {F : Addr → Prop} {A : Fps} {H : Hp} {a : Addr} (h : F a ∨ ∃ fp ∈ A, a ∈ fp) : Vw F A H a = none := by
  unfold Vw
  rw [if_pos h]
theorem Vw.see {F : Addr → Prop} {A : Fps} {H : Hp} {a : Addr} (h : ¬ (F a ∨ ∃ fp ∈ A, a ∈ fp)) : Vw F A H a = H a := by
  unfold Vw
  rw [if_neg h]
theorem del_vw {F : Addr → Prop} {A : Fps} {H : Hp} {p : Addr} : Vw F A (del H p) = Vw (fun a => F a ∨ a = p) A H := by
  funext a
  by_cases e : a = p
  · subst e
    rw [Vw.hid (F := fun b => F b ∨ b = a) (.inl (.inr rfl))]
    by_cases h : F a ∨ ∃ fp ∈ A, a ∈ fp
    · rw [Vw.hid h]
    · rw [Vw.see h, del_same]
  · by_cases h : F a ∨ ∃ fp ∈ A, a ∈ fp
    · rw [Vw.hid h, Vw.hid (F := fun b => F b ∨ b = p) (h.imp Or.inl id)]
    · rw [Vw.see h, Vw.see (F := fun b => F b ∨ b = p) (by rintro ((z | z) | z); exact h (.inl z); exact e z; exact h (.inr z)), del_ne e]
theorem Sto.unhide {K : PySem.W.Frag} {F : Addr → Prop} {A : Fps} {H : Hp} {p : Addr} (S : Sto K (fun a => F a ∨ a = p) A M H) (hp : ¬ F p) : Sto K F A M (del H p) := by
  have ne : ∀ fp ∈ A, ∀ a ∈ fp, a ≠ p := fun fp hf a ha z => (S.trk fp hf a ha).2 (.inr z)
  refine ⟨fun a ha => ?_, fun fp hf a ha => ⟨?_, fun z => (S.trk fp hf a ha).2 (.inl z)⟩, S.dis, fun k c hk => ?_, S.len⟩
  · rw [del_ne (fun z => by subst z; exact hp ha)]; exact S.hid a (.inl ha)
  · rw [del_ne (ne fp hf a ha)]; exact (S.trk fp hf a ha).1
  · obtain ⟨fp, h1, h2⟩ := S.cells k c hk
    refine ⟨fp, h1, ?_⟩
    rw [del_vw]
    exact h2.keep (Same.refl _) (Pre.refl A) fun a ha o q => by rw [del_ne (ne fp (List.mem_of_getElem? h1) a ha)]; exact q
theorem Sto.hide {K : PySem.W.Frag} {F : Addr → Prop} {A : Fps} {H : Hp} {p : Addr} (S : Sto K F A M H) (h : H p = none) {u : HO} : Sto K (fun a => F a ∨ a = p) A M (upd H p u) := by
  have S1 := S.new (o := u) h
  have vw : Same (Vw F A H) (Vw (fun a => F a ∨ a = p) A (upd H p u)) := fun a o e => by
    obtain ⟨h1, h2, h3⟩ := Vw.some_of e
    have ne : a ≠ p := ne_of_none h1 h
    exact Vw.of (by rw [upd_ne ne]; exact h1) (by rintro (z | z); exact h2 z; exact ne z) h3
  refine ⟨fun a ha => ?_, fun fp hf a ha => ⟨(S1.trk fp hf a ha).1, ?_⟩, S.dis, fun k c hk => ?_, S.len⟩
  · rcases ha with ha | ha
    · exact S1.hid a ha
    · subst ha; rw [upd_same]; simp
  · rintro (z | z)
    · exact (S.trk fp hf a ha).2 z
    · subst z; exact (S.trk fp hf a ha).1 h
  · obtain ⟨fp, h1, h2⟩ := S.cells k c hk
    exact ⟨fp, h1, h2.keep vw (Pre.refl A) fun a _ o q => by rw [upd_ne (ne_of_none q h)]; exact q⟩
theorem Sto.updF {K : PySem.W.Frag} {F : Addr → Prop} {A : Fps} {H : Hp} {p : Addr} (S : Sto K F A M H) (h : F p) {u : HO} : Sto K F A M (upd H p u) ∧ Vw F A (upd H p u) = Vw F A H := by
  have hv : Vw F A (upd H p u) = Vw F A H := by
    funext a
    unfold Vw
    by_cases h' : F a ∨ ∃ fp ∈ A, a ∈ fp
    · rw [if_pos h', if_pos h']
    · rw [if_neg h', if_neg h']
      exact upd_ne fun e => h' (.inl (by rw [e]; exact h))
  have ne : ∀ fp ∈ A, ∀ a ∈ fp, a ≠ p := fun fp hf a ha z => (S.trk fp hf a ha).2 (by rw [z]; exact h)
  refine ⟨⟨fun a ha => ?_, fun fp hf a ha => ⟨?_, (S.trk fp hf a ha).2⟩, S.dis, fun k c hk => ?_, S.len⟩, hv⟩
  · by_cases e : a = p
    · subst e; rw [upd_same]; simp
    · rw [upd_ne e]; exact S.hid a ha
  · rw [upd_ne (ne fp hf a ha)]; exact (S.trk fp hf a ha).1
  · obtain ⟨fp, h1, h2⟩ := S.cells k c hk
    refine ⟨fp, h1, ?_⟩
    rw [hv]
    exact h2.keep (Same.refl _) (Pre.refl A) fun a ha o q => by rw [upd_ne (ne fp (List.mem_of_getElem? h1) a ha)]; exact q

def lcT (X : Cx) (scope : Scope) (ifs : List Expr) : TT := fun σ H Q => ∀ (s : Shared) (H0 : Hp) (Cc : Addr) (cl : List (Str × Addr)) (fp : List Addr), SemTs (X.blk s H0 scope (compEnvC scope cl Cc X.env) fp) ifs σ H Q
def lcE (X : Cx) (scope : Scope) (elt : Expr) : TE := fun σ H Q => ∀ (s : Shared) (H0 : Hp) (Cc : Addr) (cl : List (Str × Addr)) (fp : List Addr), SemE (X.blk s H0 scope (compEnvC scope cl Cc X.env) fp) elt σ H Q
theorem pts_lcT (X : Cx) (scope : Scope) (ifs : List Expr) (s : Shared) (H0 : Hp) (Cc : Addr) (cl : List (Str × Addr)) (fp : List Addr) : PTs (X.blk s H0 scope (compEnvC scope cl Cc X.env) fp) ifs (lcT X scope ifs) := ⟨fun pins s' σ H Q I h => h s H0 Cc cl fp pins s' I⟩
theorem pe_lcE (X : Cx) (scope : Scope) (elt : Expr) (s : Shared) (H0 : Hp) (Cc : Addr) (cl : List (Str × Addr)) (fp : List Addr) : PE (X.blk s H0 scope (compEnvC scope cl Cc X.env) fp) elt (lcE X scope elt) := ⟨fun pins s' σ H Q I h => h s H0 Cc cl fp pins s' I⟩
/-- the reading of [elt for x in iter if ..] -/
theorem lc_read {elt iter : Expr} {ifs : List Expr} {scope : Scope} {own : List (Str × Nat)} {x : Str} {px : Pos} {cond : List C → Prop} (j : Nat) (c : D → Bool) (g : D → D) (hi : DI X M env (.Name x px) iter cond ds M1) (hcd : cond M1) (hj : j ∈ own.map (·.2)) (hlen : ds.length ≤ 100000)
    (ht : ∀ (s : Shared) (H : Hp) (Cc : Addr) (cl : List (Str × Addr)) (fp : List Addr) (d : D), d ∈ ds → DTs (X.blk s H scope (compEnvC scope cl Cc X.env) fp) M1 ((wipeE env (own.map (·.2))).set j (some d)) ifs (c d) M1)
    (he : ∀ (s : Shared) (H : Hp) (Cc : Addr) (cl : List (Str × Addr)) (fp : List Addr) (d : D), d ∈ ds → c d = true → DE (X.blk s H scope (compEnvC scope cl Cc X.env) fp) M1 ((wipeE env (own.map (·.2))).set j (some d)) elt (g d) M1)
    {σ : L2.St} {H : Hp} {F : Addr → Prop} {A : Fps} (S : Sto X.K F A M H) (L : Slots X.K A (Vw F A H) env σ) (hjl : j < σ.length) {Q : VK}
    (q : ∀ p vs H1 H' A', Stp A H A' H1 → Sto X.K F A' M1 H1 → H1 p = none → Same H1 H' → H' p = some (.lst vs) → Rps X.K A' (Vw F A' H1) vs ((ds.filter c).map g) → Q (.ref p) H') :
    tLc (SemI X (.Name x px) iter) (gName j) (lcT X scope ifs) (lcE X scope elt) (own.map (·.2)) σ H Q := by
  refine hi σ H F A S L _ fun J H1 A1 t1 S1 wk => ?_
  intro Dl hD
  have nF : ¬ F Dl := fun z => S1.hid Dl z hD
  refine ⟨fun i n H' => n = ds.length - i ∧ i ≤ ds.length ∧ ∃ A' vs, Stp A1 H1 A' H' ∧ Sto X.K (fun a => F a ∨ a = Dl) A' M1 H' ∧ H' Dl = some (.lst vs) ∧ Rps X.K A' (Vw (fun a => F a ∨ a = Dl) A' H') vs (((ds.take i).filter c).map g),
    ⟨ds.length, by simp, Nat.zero_le _, A1, [], Stp.same (same_new hD), S1.hide hD, upd_same, by simpa using .nil⟩, ?_⟩
  rintro i n H' ⟨rfl, hle, A', vs, t', S', hDl, hr⟩
  -- the state without the new list
  have dS : Sto X.K F A' M1 (del H' Dl) := S'.unhide nF
  have dt : Stp A1 H1 A' (del H' Dl) := ⟨fun a u h hn => by rw [del_ne (ne_of_none h hD)]; exact t'.frame a u h hn, t'.pre, t'.fresh⟩
  by_cases hlt : i < ds.length
  · refine .inr ⟨?_, fun H2 => ∃ A2 ws, Stp A1 H1 A2 H2 ∧ Sto X.K (fun a => F a ∨ a = Dl) A2 M1 H2 ∧ H2 Dl = some (.lst ws) ∧ Rps X.K A2 (Vw (fun a => F a ∨ a = Dl) A2 H2) ws (((ds.take (i + 1)).filter c).map g), fun H2 z => ⟨ds.length - (i + 1), by omega, rfl, hlt, z⟩, fun xv H2 hy => ?_⟩
    · have S0 : Sto X.K F A' M1 H' := dS.same del_le
      exact wk.go i A' M1 H' t' S0 hcd hlt
    have S0 : Sto X.K F A' M1 H' := dS.same del_le
    obtain ⟨e0, d, hd, r⟩ := wk.yld i A' M1 H' xv H2 t' S0 hcd hy hlt
    subst e0
    have hm : d ∈ ds := List.mem_of_getElem? hd
    -- the item's reading does not see the new list either: walk again in the state without it
    have r' : Rp X.K A' (Vw (fun a => F a ∨ a = Dl) A' H2) xv d := by
      obtain ⟨_, d2, hd2, r2⟩ := wk.yld i A' M1 (del H2 Dl) xv _ dt dS hcd (wk.low i H2 _ xv H2 del_le hy) hlt
      rw [hd] at hd2
      cases hd2
      rw [← del_vw]
      exact r2
    refine ⟨wipe_back hj, ?_⟩
    have Lw : Slots X.K A' (Vw (fun a => F a ∨ a = Dl) A' H2) ((wipeE env (own.map (·.2))).set j (some d)) ((L2.wipe σ (own.map (·.2))).set j (some xv)) := by
      refine Slots.put ?_ j (by rw [wipe_length]; exact hjl) r'
      refine Slots.wipeE ?_ _
      rw [← del_vw]
      exact (L.stp S t1).stp S1 dt
    intro s H0 Cc cl fp
    refine ht s H0 Cc cl fp d hm _ H2 _ A' S' Lw _ fun H3 A3 t3 S3 => ?_
    have hD3 : H3 Dl = some (.lst vs) := t3.frame Dl _ hDl fun gp hg ha => (S'.trk gp hg Dl ha).2 (.inr rfl)
    have e1 : ds.take (i + 1) = ds.take i ++ [d] := by
      rw [List.take_add_one, hd]
      rfl
    by_cases hc : c d = true
    · rw [if_pos hc]
      intro s H0 Cc cl fp
      refine he s H0 Cc cl fp d hm hc _ H3 _ A3 S3 (Lw.stp S' t3) _ fun y H4 A4 t4 S4 r4 => ?_
      have hD4 : H4 Dl = some (.lst vs) := t4.frame Dl _ hD3 fun gp hg ha => (S3.trk gp hg Dl ha).2 (.inr rfl)
      have hl := hr.length
      have hfl : vs.length ≤ ds.length := by
        rw [hl, List.length_map]
        refine Nat.le_trans (List.length_filter_le _ _) ?_
        rw [List.length_take]; omega
      obtain ⟨u1, u2⟩ := S4.updF (p := Dl) (u := .lst (vs ++ [y])) (.inr rfl)
      refine ⟨vs, hD4, by have : (100000 : Nat) < sizeLine := by decide
                          omega, A4, vs ++ [y], ?_, u1, upd_same, ?_⟩
      · have t5 := (t'.trans t3).trans t4
        exact ⟨fun a u h hn => by rw [upd_ne (ne_of_none h hD)]; exact t5.frame a u h hn, t5.pre, t5.fresh⟩
      · rw [u2, e1, List.filter_append, List.map_append, List.filter_cons, if_pos hc, List.filter_nil, List.map_cons, List.map_nil]
        exact ((hr.stp S' t3).stp S3 t4).append (.one r4)
    · rw [if_neg hc]
      refine ⟨A3, vs, t'.trans t3, S3, hD3, ?_⟩
      rw [e1, List.filter_append, List.map_append, List.filter_cons, if_neg hc, List.filter_nil, List.map_nil, List.append_nil]
      exact hr.stp S' t3
  · have e : i = ds.length := by omega
    subst e
    have S0 : Sto X.K F A' M1 H' := dS.same del_le
    refine .inl ⟨wk.stop _ A' M1 H' t' S0 hcd (Nat.le_refl _), ?_⟩
    rw [List.take_length] at hr
    refine q Dl vs (del H' Dl) H' A' (t1.trans dt) dS del_same del_le hDl ?_
    rw [del_vw]
    exact hr
end
end KT
namespace KT
open PySem PySem.Spec PyProof.Rows L2

section
variable {X : Cx} {M M1 M2 M3 : List C} {env : EnvD} {a b o e : Expr} {es : List Expr} {x y z d : D} {ds : List D} {pos p apos cpos : Pos} {rest : List Stmt} {Fi : Fin} {f m : Str} {k : Nat} {ps : List Str} {Sg : List D → Out → Prop} {Cl : Addr}

theorem df_lc {elt iter : Expr} {ifs : List Expr} {scope : Scope} {own : List (Str × Nat)} {x : Str} {px : Pos} {cond : List C → Prop} (j : Nat) (c : D → Bool) (g : D → D) (hi : DI X M env (.Name x px) iter cond ds M1) (hcd : cond M1) (ok : BlkOk X.N X.env.scope scope own) (hN : X.N.Nodup)
    (hlen : ds.length ≤ 100000)
    (ht : ∀ (s : Shared) (H : Hp) (Cc : Addr) (cl : List (Str × Addr)) (fp : List Addr) (d : D), d ∈ ds → DTs (X.blk s H scope (compEnvC scope cl Cc X.env) fp) M1 ((wipeE env (own.map (·.2))).set j (some d)) ifs (c d) M1)
    (he : ∀ (s : Shared) (H : Hp) (Cc : Addr) (cl : List (Str × Addr)) (fp : List Addr) (d : D), d ∈ ds → c d = true → DE (X.blk s H scope (compEnvC scope cl Cc X.env) fp) M1 ((wipeE env (own.map (·.2))).set j (some d)) elt (g d) M1)
    (hj : j ∈ own.map (·.2) := by simp) (hjx : X.N[j]? = some x := by rfl) (hx : ∀ (s : Shared) (H : Hp) (Cc : Addr) (cl : List (Str × Addr)) (fp : List Addr), Loc (X.blk s H scope (compEnvC scope cl Cc X.env) fp).env.scope x := by exact fun _ _ _ _ _ => by first | exact Or.inl rfl | exact Or.inr rfl)
    (hf : ∀ (s : Shared) (H : Hp) (Cc : Addr) (cl : List (Str × Addr)) (fp : List Addr), (X.blk s H scope (compEnvC scope cl Cc X.env) fp).fn x = true ∨ (X.blk s H scope (compEnvC scope cl Cc X.env) fp).env.scope.names.lookup x = some .local := by exact fun _ _ _ _ _ => by first | exact .inr rfl | exact .inl rfl)
    (hc : X.calm = true := by rfl) (hs : ∀ x, foldedSetIterable iter X.env x = pure x := by intro _; rfl) : DF X M env (.ListComp elt [⟨.Name x px, iter, ifs, 0⟩] scope pos) ((ds.filter c).map g) M1 := fun σ H F A S L Q q pins s I => by
  have hjl : j < σ.length := by
    rw [I.len]
    exact (List.getElem?_eq_some_iff.mp hjx).1
  exact sE (pe_lc hc hN (semI X (.Name x px) iter) ok (fun s H Cc cl fp => pg_name hN hjx (hx s H Cc cl fp) (hf s H Cc cl fp))
    (pts_lcT X scope ifs) (pe_lcE X scope elt) hs) (lc_read j c g hi hcd hj hlen ht he S L hjl q) pins s I
/-- y = [..] on one line -/
theorem db_setLc {elt iter : Expr} {ifs : List Expr} {scope : Scope} {own : List (Str × Nat)} {x y : Str} {px py spos : Pos} {cond : List C → Prop} (i j : Nat) (c : D → Bool) (g : D → D) (hi : DI X M env (.Name x px) iter cond ds M1) (hcd : cond M1) (ok : BlkOk X.N X.env.scope scope own) (hN : X.N.Nodup)
    (hlen : ds.length ≤ 100000)
    (ht : ∀ (s : Shared) (H : Hp) (Cc : Addr) (cl : List (Str × Addr)) (fp : List Addr) (d : D), d ∈ ds → DTs (X.blk s H scope (compEnvC scope cl Cc X.env) fp) M1 ((wipeE env (own.map (·.2))).set j (some d)) ifs (c d) M1)
    (he : ∀ (s : Shared) (H : Hp) (Cc : Addr) (cl : List (Str × Addr)) (fp : List Addr) (d : D), d ∈ ds → c d = true → DE (X.blk s H scope (compEnvC scope cl Cc X.env) fp) M1 ((wipeE env (own.map (·.2))).set j (some d)) elt (g d) M1)
    (hr : DB X (M1 ++ [.lst ((ds.filter c).map g)]) (env.set i (some (.loc M1.length))) rest Fi)
    (hj : j ∈ own.map (·.2) := by simp) (hjx : X.N[j]? = some x := by rfl) (hx : ∀ (s : Shared) (H : Hp) (Cc : Addr) (cl : List (Str × Addr)) (fp : List Addr), Loc (X.blk s H scope (compEnvC scope cl Cc X.env) fp).env.scope x := by exact fun _ _ _ _ _ => by first | exact Or.inl rfl | exact Or.inr rfl)
    (hf : ∀ (s : Shared) (H : Hp) (Cc : Addr) (cl : List (Str × Addr)) (fp : List Addr), (X.blk s H scope (compEnvC scope cl Cc X.env) fp).fn x = true ∨ (X.blk s H scope (compEnvC scope cl Cc X.env) fp).env.scope.names.lookup x = some .local := by exact fun _ _ _ _ _ => by first | exact .inr rfl | exact .inl rfl)
    (hy : X.N[i]? = some y := by rfl) (hyl : X.env.scope.names.lookup y = some .local := by rfl)
    (hsw : swapsWith (.ListComp elt [⟨.Name x px, iter, ifs, 0⟩] scope pos) (some (.Name y py)) spos.line X.env = pure true := by exact sw_true rfl rfl rfl (by decide +kernel))
    (hc : X.calm = true := by rfl) (hs : ∀ x, foldedSetIterable iter X.env x = pure x := by intro _; rfl) : DB X M env (.Assign [.Name y py] (.ListComp elt [⟨.Name x px, iter, ifs, 0⟩] scope pos) spos :: rest) Fi := fun σ H F A S L Dn W tk mt pins s I => by
  have hjl : j < σ.length := by
    rw [I.len]
    exact (List.getElem?_eq_some_iff.mp hjx).1
  refine semCons (sS (ps_setLc hc hN hy hyl hsw (semI X (.Name x px) iter) ok (fun s H Cc cl fp => pg_name hN hjx (hx s H Cc cl fp) (hf s H Cc cl fp))
    (pts_lcT X scope ifs) (pe_lcE X scope elt) hs) ?_) pins s I
  refine lc_read j c g hi hcd hj hlen ht he S L.2 hjl fun p vs H1 H' A' t S1 hp e1 hq hrp => ?_
  have st : Stp A' H1 (A' ++ [[p]]) H' := ⟨fun a u h _ => e1 a u h, Pre.app _ _, fun fp hf a ha => by
    rcases List.mem_append.mp hf with hf | hf
    · exact .inl ⟨fp, hf, ha⟩
    · rw [List.mem_singleton.mp hf] at ha
      rw [List.mem_singleton.mp ha]
      exact .inr hp⟩
  obtain ⟨g1, g2, g3⟩ := S1.grow (c := .lst ((ds.filter c).map g)) hp e1 (by rw [hq]; simp) ⟨p, vs, rfl, hq, hrp.mono (st.view S1.hid) st.pre⟩
  exact hr _ H' F _ g1 (((L.stp S t).stp S1 g2).set i (g3 _)) Dn W tk (mt.stp (t.trans g2))

/-! ### methods of instances -/
theorem s_meth {pl : Sem Bool} {σ : L2.St} {H : Hp} {Q : VK} {W : WX} (Mt : Mtd X.prog X.w X.K X.mg X.base Cl m k ps (spX X.K Sg)) (cl : Cls X.K Cl) (hr : Room k X.A) (tk : Takes X W)
    (h : SemE X o σ H fun x H1 => ∃ a dx fs, x = .ref a ∧ H1 a = some (.ins Cl dx fs) ∧ fs.lookup m = none ∧ SemA X (e :: es) σ H1 fun vs H2 => spX X.K Sg (x :: vs) H2 Q (WE W σ))
    (hst : starEach (e :: es) X.env = (false, eval e X.env) :: starEach es X.env := by rfl) (hpl : (backTo pos (starEach es X.env)).any (·.1) = false := by rfl)
    (ht : eval (.Call (.Attribute o m apos) (e :: es) [] pos) X.env = (do
      let ov ← eval o X.env
      standAt apos.atName
      let (f, first) ← holding [ov] (getMethod ov m pl)
      callWith pos f first (backTo pos (starEach (e :: es) X.env)) (backToKw pos (keywordEach [] X.env))) := by rfl) : SemE X (.Call (.Attribute o m apos) (e :: es) [] pos) σ H Q := fun pins s I => by
  obtain ⟨f, fd, hm, hb, F⟩ := Mt.ex
  refine PySem.W.methodCall_KW (pl := pl) (thn (h pins s I) fun u s1 ⟨x, H1, I1, rx, a, dx, fs, ex, ea, l, q⟩ => ?_) ht
  subst ex
  obtain rfl : u = Value.ref a := rx
  refine getmeth_ok I1 ea cl hm l ?_
  refine PySem.W.callWith_K (first := [.ref a]) (h₀ := X.base) I.ok.mod.kin hm.kp (thn (q pos pins s1 I1) fun us s2 ⟨vs, H2, I2, r, q2⟩ => ⟨I2.kIn, ?_⟩) hst hpl
  exact run_fnS (E := WE W) (us := .ref a :: us) (vs := .ref a :: vs) F hr hb (passAt tk σ) I2 (.cons rfl r) q2
theorem s_meth0 {pl : Sem Bool} {σ : L2.St} {H : Hp} {Q : VK} {W : WX} (Mt : Mtd X.prog X.w X.K X.mg X.base Cl m k ps (spX X.K Sg)) (cl : Cls X.K Cl) (hr : Room k X.A) (tk : Takes X W)
    (h : SemE X o σ H fun x H1 => ∃ a dx fs, x = .ref a ∧ H1 a = some (.ins Cl dx fs) ∧ fs.lookup m = none ∧ spX X.K Sg [x] H1 Q (WE W σ))
    (ht : eval (.Call (.Attribute o m apos) [] [] pos) X.env = (do
      let ov ← eval o X.env
      standAt apos.atName
      let (f, first) ← holding [ov] (getMethod ov m pl)
      callWith pos f first (backTo pos (starEach [] X.env)) (backToKw pos (keywordEach [] X.env))) := by rfl) : SemE X (.Call (.Attribute o m apos) [] [] pos) σ H Q := fun pins s I => by
  obtain ⟨f, fd, hm, hb, F⟩ := Mt.ex
  refine PySem.W.methodCall_KW (pl := pl) (thn (h pins s I) fun u s1 ⟨x, H1, I1, rx, a, dx, fs, ex, ea, l, q⟩ => ?_) ht
  subst ex
  obtain rfl : u = Value.ref a := rx
  refine getmeth_ok I1 ea cl hm l ?_
  exact PySem.W.callWith_K0 (first := [.ref a]) I1.kIn hm.kp (run_fnS (E := WE W) (us := [.ref a]) (vs := [.ref a]) F hr hb (passAt tk σ) I1 (.cons rfl .nil) q)
/-- x's instance, whatever bears it -/
inductive Ob (M : List C) (Cl : Addr) (m : Str) : D → Prop
  | d {fs : List (Str × D)} : fs.lookup m = none → Ob M Cl m (.obj Cl fs)
  | o {k : Nat} {fs : List (Str × D)} : M[k]? = some (.ins Cl fs) → fs.lookup m = none → Ob M Cl m (.loc k)
  | b {k : Nat} {B : Bk} : M[k]? = some (.bk Cl B) → ([("sexes", ()), ("parents", ()), ("wedded", ()), ("young", ())] : List (Str × Unit)).lookup m = none → Ob M Cl m (.loc k)
theorem bk_lookup {m : Str} {a b c d : V} (h : ([("sexes", ()), ("parents", ()), ("wedded", ()), ("young", ())] : List (Str × Unit)).lookup m = none) : ([("sexes", a), ("parents", b), ("wedded", c), ("young", d)] : List (Str × V)).lookup m = none := by
  simp only [List.lookup_cons, List.lookup_nil] at h ⊢
  split at h
  · cases h
  · split at h
    · cases h
    · split at h
      · cases h
      · split at h
        · cases h
        · rfl
theorem Ob.at {K : PySem.W.Frag} {F : Addr → Prop} {A : Fps} {H : Hp} {v : V} (S : Sto K F A M H) (h : Ob M Cl m x) (r : Rp K A (Vw F A H) v x) : ∃ q dx fs, v = .ref q ∧ H q = some (.ins Cl dx fs) ∧ fs.lookup m = none := by
  cases h with
  | d hl => cases r with | obj h1 h2 => exact ⟨_, _, _, rfl, Vw.le _ _ _ _ _ h1, h2.lookup_none hl⟩
  | o hk hl =>
    cases r with
    | @loc _ q r' hA =>
      obtain ⟨x, dx, fvs, h1, h2, h3⟩ := S.cell hk hA
      cases h1
      exact ⟨q, dx, fvs, rfl, h2, h3.lookup_none hl⟩
  | b hk hl =>
    cases r with
    | @loc _ q r' hA =>
      obtain ⟨b, dx, s, p', w, y, was, yas, pvs, r, h1, h2, h3, h4, h5, h6, h7, h8, h9, h10, h11⟩ := S.cell hk hA
      cases h1
      exact ⟨q, dx, _, rfl, h4, bk_lookup hl⟩
/-- o.m(..): the callee sees no cell -/
theorem de_meth {pl : Sem Bool} (Mt : Mtd X.prog X.w X.K X.mg X.base Cl m k ps (spX X.K Sg)) (cl : Cls X.K Cl) (hr : Room k X.A) (ho : DE X M env o x M1) (hob : Ob M1 Cl m x) (ha : DA X M1 env (e :: es) ds M2) (hs : Sg (x :: ds) (.ok d))
    (hn : nls (x :: ds) = true) (hnd : d.nl = true)
    (hst : starEach (e :: es) X.env = (false, eval e X.env) :: starEach es X.env := by rfl) (hpl : (backTo pos (starEach es X.env)).any (·.1) = false := by rfl)
    (ht : eval (.Call (.Attribute o m apos) (e :: es) [] pos) X.env = (do
      let ov ← eval o X.env
      standAt apos.atName
      let (f, first) ← holding [ov] (getMethod ov m pl)
      callWith pos f first (backTo pos (starEach (e :: es) X.env)) (backToKw pos (keywordEach [] X.env))) := by rfl) : DE X M env (.Call (.Attribute o m apos) (e :: es) [] pos) d M2 := fun σ H F A S L Q q => by
  refine s_meth Mt cl hr takes0 ?_ hst hpl ht
  refine ho σ H F A S L _ fun v H1 A1 t1 S1 r1 => ?_
  obtain ⟨qa, dx, fs, rfl, h1, h2⟩ := hob.at S1 r1
  refine ⟨qa, dx, fs, rfl, h1, h2, ?_⟩
  refine ha σ H1 F A1 S1 (L.stp S t1) _ fun vs H2 A2 t2 S2 r2 => ?_
  refine ⟨hidA F A2, x :: ds, .ok d, S2.hidS, by rw [Vw.hidV]; exact Rps.nl _ _ hn (.cons (r1.stp S1 t2) r2), hs, fun v H3 e3 r3 => ?_⟩
  rw [Vw.hidV] at r3
  exact q v H3 A2 ((t1.trans t2).trans (Stp.same e3)) (S2.same e3) (Rp.nl _ _ hnd r3)
/-- .. the callee sees the cells, the answer is plain -/
theorem de_methR {pl : Sem Bool} {es' : List D} (Mt : Mtd X.prog X.w X.K X.mg X.base Cl m k ps (spX X.K Sg)) (cl : Cls X.K Cl) (hr : Room k X.A) (ho : DE X M env o x M1) (hob : Ob M1 Cl m x) (ha : DA X M1 env (e :: es) ds M2) (hR : Ress M2 (x :: ds) es') (hs : Sg es' (.ok d)) (hi : d.imm = true := by rfl)
    (hst : starEach (e :: es) X.env = (false, eval e X.env) :: starEach es X.env := by rfl) (hpl : (backTo pos (starEach es X.env)).any (·.1) = false := by rfl)
    (ht : eval (.Call (.Attribute o m apos) (e :: es) [] pos) X.env = (do
      let ov ← eval o X.env
      standAt apos.atName
      let (f, first) ← holding [ov] (getMethod ov m pl)
      callWith pos f first (backTo pos (starEach (e :: es) X.env)) (backToKw pos (keywordEach [] X.env))) := by rfl) : DE X M env (.Call (.Attribute o m apos) (e :: es) [] pos) d M2 := fun σ H F A S L Q q => by
  refine s_meth Mt cl hr takes0 ?_ hst hpl ht
  refine ho σ H F A S L _ fun v H1 A1 t1 S1 r1 => ?_
  obtain ⟨qa, dx, fs, rfl, h1, h2⟩ := hob.at S1 r1
  refine ⟨qa, dx, fs, rfl, h1, h2, ?_⟩
  refine ha σ H1 F A1 S1 (L.stp S t1) _ fun vs H2 A2 t2 S2 r2 => ?_
  refine ⟨F, es', .ok d, S2.hid, Ress.rp S2 hR (.cons (r1.stp S1 t2) r2), hs, fun v H3 e3 r3 => ?_⟩
  exact q v H3 A2 ((t1.trans t2).trans (Stp.same e3)) (S2.same e3) (Rp.imm (S2.same e3) _ _ hi r3)
theorem dx_meth {pl : Sem Bool} {Ca : Addr} {es' : List D} (Mt : Mtd X.prog X.w X.K X.mg X.base Cl m k ps (spX X.K Sg)) (cl : Cls X.K Cl) (hr : Room k X.A) (ho : DE X M env o x M1) (hob : Ob M1 Cl m x) (ha : DA X M1 env (e :: es) ds M2) (hR : Ress M2 (x :: ds) es') (hs : Sg es' (.er Ca))
    (hst : starEach (e :: es) X.env = (false, eval e X.env) :: starEach es X.env := by rfl) (hpl : (backTo pos (starEach es X.env)).any (·.1) = false := by rfl)
    (ht : eval (.Call (.Attribute o m apos) (e :: es) [] pos) X.env = (do
      let ov ← eval o X.env
      standAt apos.atName
      let (f, first) ← holding [ov] (getMethod ov m pl)
      callWith pos f first (backTo pos (starEach (e :: es) X.env)) (backToKw pos (keywordEach [] X.env))) := by rfl) : DX X M env (.Call (.Attribute o m apos) (e :: es) [] pos) Ca M2 := fun σ H F A S L W tk q Q => by
  refine s_meth Mt cl hr tk ?_ hst hpl ht
  refine ho σ H F A S L _ fun v H1 A1 t1 S1 r1 => ?_
  obtain ⟨qa, dx, fs, rfl, h1, h2⟩ := hob.at S1 r1
  refine ⟨qa, dx, fs, rfl, h1, h2, ?_⟩
  refine ha σ H1 F A1 S1 (L.stp S t1) _ fun vs H2 A2 t2 S2 r2 => ?_
  exact ⟨F, es', .er Ca, S2.hid, Ress.rp S2 hR (.cons (r1.stp S1 t2) r2), hs, fun H3 e3 => q H3 A2 ((t1.trans t2).trans (Stp.same e3)) (S2.same e3)⟩
theorem de_methO {pl : Sem Bool} {Ms : List C} (Mt : Mtd X.prog X.w X.K X.mg X.base Cl m k ps (spX X.K Sg)) (cl : Cls X.K Cl) (hr : Room k X.A) (ho : DE X M env o x M1) (hob : Ob M1 Cl m x) (ha : DA X M1 env (e :: es) ds M2) (hs : Sg (x :: ds) (.own d Ms))
    (hn : nls (x :: ds) = true)
    (hst : starEach (e :: es) X.env = (false, eval e X.env) :: starEach es X.env := by rfl) (hpl : (backTo pos (starEach es X.env)).any (·.1) = false := by rfl)
    (ht : eval (.Call (.Attribute o m apos) (e :: es) [] pos) X.env = (do
      let ov ← eval o X.env
      standAt apos.atName
      let (f, first) ← holding [ov] (getMethod ov m pl)
      callWith pos f first (backTo pos (starEach (e :: es) X.env)) (backToKw pos (keywordEach [] X.env))) := by rfl) : DE X M env (.Call (.Attribute o m apos) (e :: es) [] pos) (d.sh M2.length) (M2 ++ Ms.map (C.sh M2.length)) := fun σ H F A S L Q q => by
  refine s_meth Mt cl hr takes0 ?_ hst hpl ht
  refine ho σ H F A S L _ fun v H1 A1 t1 S1 r1 => ?_
  obtain ⟨qa, dx, fs, rfl, h1, h2⟩ := hob.at S1 r1
  refine ⟨qa, dx, fs, rfl, h1, h2, ?_⟩
  refine ha σ H1 F A1 S1 (L.stp S t1) _ fun vs H2 A2 t2 S2 r2 => ?_
  refine ⟨hidA F A2, x :: ds, .own d Ms, S2.hidS, by rw [Vw.hidV]; exact Rps.nl _ _ hn (.cons (r1.stp S1 t2) r2), hs, fun v H3 B e3 fr T r3 => ?_⟩
  obtain ⟨j1, j2, j3⟩ := S2.join e3 T fr
  rw [S2.len] at j1 j3
  exact q v H3 _ ((t1.trans t2).trans j2) j1 (j3 v d r3)
theorem de_meth0 {pl : Sem Bool} (Mt : Mtd X.prog X.w X.K X.mg X.base Cl m k ps (spX X.K Sg)) (cl : Cls X.K Cl) (hr : Room k X.A) (ho : DE X M env o x M1) (hob : Ob M1 Cl m x) (hs : Sg [x] (.ok d))
    (hn : x.nl = true) (hnd : d.nl = true)
    (ht : eval (.Call (.Attribute o m apos) [] [] pos) X.env = (do
      let ov ← eval o X.env
      standAt apos.atName
      let (f, first) ← holding [ov] (getMethod ov m pl)
      callWith pos f first (backTo pos (starEach [] X.env)) (backToKw pos (keywordEach [] X.env))) := by rfl) : DE X M env (.Call (.Attribute o m apos) [] [] pos) d M1 := fun σ H F A S L Q q => by
  refine s_meth0 Mt cl hr takes0 ?_ ht
  refine ho σ H F A S L _ fun v H1 A1 t1 S1 r1 => ?_
  obtain ⟨qa, dx, fs, rfl, h1, h2⟩ := hob.at S1 r1
  refine ⟨qa, dx, fs, rfl, h1, h2, ?_⟩
  refine ⟨hidA F A1, [x], .ok d, S1.hidS, by rw [Vw.hidV]; exact .one (Rp.nl _ _ hn r1), hs, fun v H3 e3 r3 => ?_⟩
  rw [Vw.hidV] at r3
  exact q v H3 A1 (t1.trans (Stp.same e3)) (S1.same e3) (Rp.nl _ _ hnd r3)
theorem de_meth0R {pl : Sem Bool} {x' : D} (Mt : Mtd X.prog X.w X.K X.mg X.base Cl m k ps (spX X.K Sg)) (cl : Cls X.K Cl) (hr : Room k X.A) (ho : DE X M env o x M1) (hob : Ob M1 Cl m x) (hR : Res M1 x x') (hs : Sg [x'] (.ok d)) (hi : d.imm = true := by rfl)
    (ht : eval (.Call (.Attribute o m apos) [] [] pos) X.env = (do
      let ov ← eval o X.env
      standAt apos.atName
      let (f, first) ← holding [ov] (getMethod ov m pl)
      callWith pos f first (backTo pos (starEach [] X.env)) (backToKw pos (keywordEach [] X.env))) := by rfl) : DE X M env (.Call (.Attribute o m apos) [] [] pos) d M1 := fun σ H F A S L Q q => by
  refine s_meth0 Mt cl hr takes0 ?_ ht
  refine ho σ H F A S L _ fun v H1 A1 t1 S1 r1 => ?_
  obtain ⟨qa, dx, fs, rfl, h1, h2⟩ := hob.at S1 r1
  refine ⟨qa, dx, fs, rfl, h1, h2, ?_⟩
  refine ⟨F, [x'], .ok d, S1.hid, .one (Res.rp S1 hR r1), hs, fun v H3 e3 r3 => ?_⟩
  exact q v H3 A1 (t1.trans (Stp.same e3)) (S1.same e3) (Rp.imm (S1.same e3) _ _ hi r3)
theorem de_meth0O {pl : Sem Bool} {Ms : List C} (Mt : Mtd X.prog X.w X.K X.mg X.base Cl m k ps (spX X.K Sg)) (cl : Cls X.K Cl) (hr : Room k X.A) (ho : DE X M env o x M1) (hob : Ob M1 Cl m x) (hs : Sg [x] (.own d Ms)) (hn : x.nl = true)
    (ht : eval (.Call (.Attribute o m apos) [] [] pos) X.env = (do
      let ov ← eval o X.env
      standAt apos.atName
      let (f, first) ← holding [ov] (getMethod ov m pl)
      callWith pos f first (backTo pos (starEach [] X.env)) (backToKw pos (keywordEach [] X.env))) := by rfl) : DE X M env (.Call (.Attribute o m apos) [] [] pos) (d.sh M1.length) (M1 ++ Ms.map (C.sh M1.length)) := fun σ H F A S L Q q => by
  refine s_meth0 Mt cl hr takes0 ?_ ht
  refine ho σ H F A S L _ fun v H1 A1 t1 S1 r1 => ?_
  obtain ⟨qa, dx, fs, rfl, h1, h2⟩ := hob.at S1 r1
  refine ⟨qa, dx, fs, rfl, h1, h2, ?_⟩
  refine ⟨hidA F A1, [x], .own d Ms, S1.hidS, by rw [Vw.hidV]; exact .one (Rp.nl _ _ hn r1), hs, fun v H3 B e3 fr T r3 => ?_⟩
  obtain ⟨j1, j2, j3⟩ := S1.join e3 T fr
  rw [S1.len] at j1 j3
  exact q v H3 _ (t1.trans j2) j1 (j3 v d r3)

/-! ### an instance made -/
/-- __init__: fs the attributes, fresh all through -/
def spI (K : PySem.W.Frag) (Cl : Addr) (Sg : List D → Out → Prop) : Sp := fun vs H Q E => ∃ (F : Addr → Prop) (ws : List V) (ds : List D) (o : Out) (q dx : Addr), vs = .ref q :: ws ∧ H q = some (.ins Cl dx []) ∧ (∀ a, F a → H a ≠ none) ∧ ¬ F q ∧
  Rps K [] (Vw (fun a => F a ∨ a = q) [] H) ws ds ∧ Sg ds o ∧ match o with
    | .ok z => ∀ H', (∀ b u, H b = some u → b ≠ q → H' b = some u) → Rp K [] (Vw (fun a => H a ≠ none ∧ a ≠ q) [] H') (.ref q) z → Q .non H'
    | .er Ca => ∀ H', (∀ b u, H b = some u → b ≠ q → H' b = some u) → E (.ref Ca) none H'
    | .own _ _ => False
end

mutual
inductive Own (M : List C) : D → D → Prop
  | flat {d : D} : d.flat = true → Own M d d
  | cell {k : Nat} {ds es : List D} : M[k]? = some (.lst ds) → Owns M ds es → Own M (.loc k) (.lst es)
  | inst {k : Nat} {Cl : Addr} {fs gs : List (Str × D)} : M[k]? = some (.ins Cl fs) → Ownf M fs gs → Own M (.loc k) (.obj Cl gs)
inductive Owns (M : List C) : List D → List D → Prop
  | nil : Owns M [] []
  | cons {d e : D} {ds es : List D} : Own M d e → Owns M ds es → Owns M (d :: ds) (e :: es)
inductive Ownf (M : List C) : List (Str × D) → List (Str × D) → Prop
  | nil : Ownf M [] []
  | cons {n : Str} {d e : D} {ds es : List (Str × D)} : Own M d e → Ownf M ds es → Ownf M ((n, d) :: ds) ((n, e) :: es)
end
theorem Owns.flats {M : List C} : ∀ {ds : List D}, (∀ d ∈ ds, d.flat = true) → Owns M ds ds
  | [], _ => .nil
  | d :: ds, h => .cons (.flat (h d List.mem_cons_self)) (Owns.flats fun e he => h e (List.mem_cons_of_mem _ he))
theorem Owns.ints {M : List C} (ns : List Int) : Owns M (ns.map D.int) (ns.map D.int) := Owns.flats fun d hd => by
  obtain ⟨n, _, rfl⟩ := List.mem_map.mp hd
  rfl
section
variable {K : PySem.W.Frag} {F F2 : Addr → Prop} {A : Fps} {M : List C} {H : Hp}
theorem Rp.flat_any {G G' : Hp} {A' : Fps} : ∀ {d : D} {v : V}, d.flat = true → Rp K A G v d → Rp K A' G' v d
  | .non, _, _, h => by cases h; exact .non
  | .bl _, _, _, h => by cases h; exact .bl _
  | .int _, _, _, h => by cases h; exact .int _
  | .str _, _, _, h => by cases h; exact .str _
  | .lst _, _, f, _ => by cases f
  | .tup _, _, f, _ => by cases f
  | .obj _ _, _, f, _ => by cases f
  | .loc _, _, f, _ => by cases f
  | .adr _, _, f, _ => by cases f
  | .scr _, _, f, _ => by cases f
  | .ty _, _, f, _ => by cases f
mutual
theorem Own.rp (S : Sto K F A M H) (h2 : ∀ fp ∈ A, ∀ a ∈ fp, ¬ F2 a) : ∀ {d e : D} {v : V}, Own M d e → Rp K A (Vw F A H) v d → Rp K [] (Vw F2 [] H) v e
  | _, _, _, .flat n, h => h.flat_any n
  | _, _, _, .cell hk r, h => by
    obtain ⟨q, vs, e, hA, h1, hr⟩ := S.lst hk h
    subst e
    exact .lst (Vw.of h1 (h2 [q] (List.mem_of_getElem? hA) q (List.mem_singleton.mpr rfl)) fun fp hf => nomatch hf) (Owns.rp S h2 r hr)
  | _, _, _, .inst hk r, h => by
    cases h with
    | @loc _ q r' hA =>
      obtain ⟨x, dx, fvs, g1, g2, g3⟩ := S.cell hk hA
      cases g1
      exact .obj (Vw.of g2 (h2 [q] (List.mem_of_getElem? hA) q (List.mem_singleton.mpr rfl)) fun fp hf => nomatch hf) (Ownf.rp S h2 r g3)
theorem Owns.rp (S : Sto K F A M H) (h2 : ∀ fp ∈ A, ∀ a ∈ fp, ¬ F2 a) : ∀ {ds es : List D} {vs : List V}, Owns M ds es → Rps K A (Vw F A H) vs ds → Rps K [] (Vw F2 [] H) vs es
  | _, _, _, .nil, h => by cases h; exact .nil
  | _, _, _, .cons r t, h => by cases h with | cons g1 g2 => exact .cons (Own.rp S h2 r g1) (Owns.rp S h2 t g2)
theorem Ownf.rp (S : Sto K F A M H) (h2 : ∀ fp ∈ A, ∀ a ∈ fp, ¬ F2 a) : ∀ {ds es : List (Str × D)} {vs : List (Str × V)}, Ownf M ds es → Rfs K A (Vw F A H) vs ds → Rfs K [] (Vw F2 [] H) vs es
  | _, _, _, .nil, h => by cases h; exact .nil
  | _, _, _, .cons r t, h => by cases h with | cons g1 g2 => exact .cons (Own.rp S h2 r g1) (Ownf.rp S h2 t g2)
end
end
/-- a body's way out of an __init__ -/
def FitsI (o : Out) : Fin where
  nx := fun M' _ => ∃ z, o = .ok z ∧ Own M' (.loc 0) z
  rt := fun _ _ => False
  ex := fun Ca _ _ => o = .er Ca
theorem Vw.one {F : Addr → Prop} {H : Hp} {q : Addr} : Vw F [[q]] H = Vw (fun a => F a ∨ a = q) [] H := by
  funext a
  by_cases h : F a ∨ a = q
  · rw [Vw.hid (F := fun b => F b ∨ b = q) (.inl h)]
    refine Vw.hid ?_
    rcases h with h | h
    · exact .inl h
    · exact .inr ⟨[q], List.mem_singleton.mpr rfl, by rw [h]; exact List.mem_singleton.mpr rfl⟩
  · rw [Vw.see (F := fun b => F b ∨ b = q) (by rintro (z | ⟨fp, z, _⟩); exact h z; exact nomatch z)]
    refine Vw.see ?_
    rintro (z | ⟨fp, h1, h2⟩)
    · exact h (.inl z)
    · rw [List.mem_singleton.mp h1] at h2
      exact h (.inr (List.mem_singleton.mp h2))
section
variable {P : Program} {w : World} {K : PySem.W.Frag} {mg : Str → Option Value} {base : Heap}
theorem okI {x qual : Str} {st : Stmt} {f Cl : Addr} {fd : FuncData} {N ps : List Str} {k : Nat} {Sg : List D → Out → Prop} (F : Fun K x qual st f fd) (S : FnScope N ps (defScope st)) (len : ∀ ds o, Sg ds o → ds.length + 1 = ps.length)
    (hb : ∀ (cdv : Value) (A : Around) (outer : List PySem.Env) (s : Shared) (H : Hp) (E : XK) (ds : List D) (o : Out), Room k (A.deeper (envOfC qual (defScope st) s.heap.objs.size f cdv)) → Sg ds o →
      DB (cxOf (L2.CX P w) P w K mg base N qual (defScope st) f cdv A outer s H E) [.ins Cl []] (startE N (.loc 0 :: ds)) (defBody st) (FitsI o)) : FnOk P w K mg base (L2.CX P w) (k + 1) f fd ps (spI K Cl Sg) := by
  refine F.okX S (fun vs H Q E ⟨Fh, ws, ds, o, q, dx, e, _, _, _, r, hs, _⟩ => by rw [e, List.length_cons, r.length]; exact len ds o hs) (fun cdv A outer s H vs Q E hr ⟨Fh, ws, ds, o, q, dx, e, hq, hF, nq, r, hs, way⟩ => ?_)
  subst e
  refine ⟨_, semSs _ _, ?_⟩
  have S0 : Sto K Fh [[q]] [.ins Cl []] H := ⟨hF, fun fp hf a ha => by
      rw [List.mem_singleton.mp hf] at ha
      rw [List.mem_singleton.mp ha]
      exact ⟨by rw [hq]; simp, nq⟩, fun i j fp gp a hi hj _ _ => by
      have h1 := (List.getElem?_eq_some_iff.mp hi).1
      have h2 := (List.getElem?_eq_some_iff.mp hj).1
      simp at h1 h2
      omega, fun j c hj => by
      have h1 := (List.getElem?_eq_some_iff.mp hj).1
      have : j = 0 := by simp at h1; omega
      subst this
      cases hj
      exact ⟨[q], rfl, q, dx, [], rfl, hq, .nil⟩, rfl⟩
  have L0 : SlotsN K [[q]] (Vw Fh [[q]] H) (startE N (.loc 0 :: ds)) (L2.start N (.ref q :: ws)) := by
    have r1 : Rps K [[q]] (Vw Fh [[q]] H) (.ref q :: ws) (.loc 0 :: ds) := .cons (.loc (r := []) rfl) (by
      rw [Vw.one]
      exact r.mono (Same.refl _) fun k fp h => by simp at h)
    have hl := r1.length
    refine ⟨by simp [startE, L2.start] at hl ⊢; omega, fun i d h => ?_⟩
    unfold startE at h
    unfold L2.start
    by_cases hi : i < (D.loc 0 :: ds).length
    · rw [List.getElem?_append_left (by rw [List.length_map]; exact hi), List.getElem?_map] at h
      cases e : (D.loc 0 :: ds)[i]? with
      | none => rw [e] at h; cases h
      | some d' =>
        rw [e] at h
        cases h
        obtain ⟨v, h1, h2⟩ := r1.get e
        refine ⟨v, ?_, h2⟩
        rw [List.getElem?_append_left (by rw [List.length_map, hl]; exact hi), List.getElem?_map, h1]
        rfl
    · rw [List.getElem?_append_right (by rw [List.length_map]; omega), List.getElem?_replicate] at h
      split at h <;> cases h
  have frm : ∀ A' H', Stp [[q]] H A' H' → ∀ b u, H b = some u → b ≠ q → H' b = some u := fun A' H' t b u hb nb => t.frame b u hb fun fp hf hm => by
    rw [List.mem_singleton.mp hf] at hm
    exact nb (List.mem_singleton.mp hm)
  refine hb cdv A outer s H E ds o hr hs _ H Fh [[q]] S0 L0 _ (fun cls d _ H' => E cls d H') (takes_of rfl rfl rfl rfl) ⟨fun M' env' σ' H' A' h t S' L' => ?_, (fun d M' v H' A' h t S' r' => h.elim), (fun _ _ _ _ _ h => h.elim), (fun _ _ _ _ _ h => h.elim), fun Ca M' env' σ' H' A' h t S' _ => ?_⟩
  · obtain ⟨z, rfl, ho⟩ := h
    refine way H' (frm A' H' t) ?_
    obtain ⟨r0, e0⟩ := t.pre 0 [q] rfl
    refine Own.rp (F2 := fun a => H a ≠ none ∧ a ≠ q) S' (fun fp hf a ha z => ?_) ho (.loc (r := r0) e0)
    rcases t.fresh fp hf a ha with ⟨gp, g1, g2⟩ | g1
    · rw [List.mem_singleton.mp g1] at g2
      exact z.2 (List.mem_singleton.mp g2)
    · exact z.1 g1
  · have h : o = .er Ca := h
    subst h
    exact way H' (frm A' H' t)
end
section
variable {X : Cx} {M M1 M2 M3 : List C} {env : EnvD} {a b o e : Expr} {es : List Expr} {x y z d : D} {ds : List D} {pos p apos cpos : Pos} {rest : List Stmt} {Fi : Fin} {f m : Str} {k : Nat} {ps : List Str} {Sg : List D → Out → Prop} {Cl : Addr}
theorem s_make {σ : L2.St} {H : Hp} {Q : VK} {W : WX} {sp : Sp} (Mr : Mkr X.prog X.w X.K X.mg X.base f Cl k ps sp) (hr : Room k X.A) (tk : Takes X W)
    (h : SemA X (e :: es) σ H fun vs H1 => ∀ x dx, H1 x = none → H1 dx = none → dx ≠ x → sp (.ref x :: vs) (upd (upd H1 dx (.own x)) x (.ins Cl dx [])) (fun v H2 => v = .non ∧ Q (.ref x) H2) (WE W σ))
    (hg : Gl X f := by rfl) (hdb : (f == ("__debug__" : Str)) = false := by decide) (he : starEach (e :: es) X.env = (false, eval e X.env) :: starEach es X.env := by rfl) (hpl : (backTo pos (starEach es X.env)).any (·.1) = false := by rfl) :
    SemE X (.Call (.Name f p) (e :: es) [] pos) σ H Q := fun pins s I => by
  obtain ⟨g, fd, k0, ek, hm, Mq, hb, F⟩ := Mr.ex
  subst ek
  refine wpAny_Call_Name_kw (ld_glob I hg hm ?_ hdb)
  refine PySem.W.callWith_K (h₀ := X.base) I.ok.mod.kin Mq.kp (thn (h pos pins s I) fun us s1 ⟨vs, H1, I1, r, q⟩ => ⟨I1.kIn, ?_⟩) he hpl
  -- run_make, with what is raised wished for at the slots
  have hq := q (s1.heap.objs.size + 1) s1.heap.objs.size (I1.hok.fresh (Nat.le_succ _)) (I1.hok.fresh (Nat.le_refl _)) (Nat.ne_of_lt (Nat.lt_succ_self _))
  have I2 := Inv.made (C := Cl) I1
  have r2 : Vals (V.ref (s1.heap.objs.size + 1) :: vs) (Value.ref (s1.heap.objs.size + 1) :: us) := .cons rfl r
  have hl : (Value.ref (s1.heap.objs.size + 1) :: us).length = ps.length := by
    have e := r2.length
    rw [F.len _ _ _ _ hq] at e
    exact e.symm
  have hb2 := hb _ (Value.ref (s1.heap.objs.size + 1) :: us) I2.kIn (by rw [List.append_nil]; exact hl)
  rw [List.append_nil] at hb2
  refine wpAny_call (make_map (f := g) I1.kIn Mq.makes Mq.init (beq_iff_eq.mp Mq.fn) (codeAny_mono (F.run _ X.stack _ _ ⟨Value.ref (s1.heap.objs.size + 1) :: us, []⟩ _ _ _ (WE W σ) (hr.make Cl us [])
    (I2.env0.make Cl us []) hb2 r2 hq) fun r s' hq' => ?_))
  cases r with
  | error e => exact passAt tk σ pins _ _ e s' I2 hq'
  | ok fl =>
    cases fl with
    | ret u =>
      obtain ⟨v, H', I3, rv, ev, q3⟩ := I2.after hq'
      subst ev
      exact ⟨rv, ⟨V.ref (s1.heap.objs.size + 1), H', I3, rfl, q3⟩⟩
    | next => exact False.elim hq'
    | brk => exact False.elim hq'
    | cont => exact False.elim hq'
theorem made_args {K : PySem.W.Frag} {F : Addr → Prop} {H : Hp} {vs : List V} {q dx : Addr} (hF : ∀ a, F a → H a ≠ none) (r : Rps K [] (Vw F [] H) vs ds) (hq : H q = none) (hd : H dx = none) :
    Rps K [] (Vw (fun a => F a ∨ a = q) [] (upd (upd H dx (.own q)) q (.ins Cl dx []))) vs ds := by
  refine r.mono (fun a o h => ?_) (Pre.refl _)
  obtain ⟨h1, h2, _⟩ := Vw.some_of h
  have nq : a ≠ q := ne_of_none h1 hq
  refine Vw.of ?_ (by rintro (z | z); exact h2 z; exact nq z) fun fp hf => nomatch hf
  rw [upd_ne nq, upd_ne (ne_of_none h1 hd)]
  exact h1
theorem de_make {es' : List D} (Mr : Mkr X.prog X.w X.K X.mg X.base f Cl k ps (spI X.K Cl Sg)) (hr : Room k X.A) (ha : DA X M env (e :: es) ds M1) (hR : Ress M1 ds es') (hs : Sg es' (.ok z)) (hz : z.nl = true)
    (hg : Gl X f := by rfl) (hdb : (f == ("__debug__" : Str)) = false := by decide) (he : starEach (e :: es) X.env = (false, eval e X.env) :: starEach es X.env := by rfl) (hpl : (backTo pos (starEach es X.env)).any (·.1) = false := by rfl) :
    DE X M env (.Call (.Name f p) (e :: es) [] pos) z M1 := fun σ H F A S L Q q => by
  refine s_make Mr hr takes0 ?_ hg hdb he hpl
  refine ha σ H F A S L _ fun vs H1 A1 t1 S1 r1 => ?_
  intro xa dx hx hd ne
  have s2 : Same H1 (upd (upd H1 dx (.own xa)) xa (.ins Cl dx [])) := fun b o eb => by
    rw [upd_ne (ne_of_none eb hx), upd_ne (ne_of_none eb hd)]
    exact eb
  refine ⟨F, vs, es', .ok z, xa, dx, rfl, upd_same, (S1.same s2).hid, fun zz => S1.hid _ zz hx, made_args S1.hid (Ress.rp S1 hR r1) hx hd, hs, fun H3 fr r3 => ⟨rfl, ?_⟩⟩
  have s3 : Same H1 H3 := fun b o eb => fr b o (s2 b o eb) (ne_of_none eb hx)
  refine q (.ref xa) H3 A1 (t1.trans (Stp.same s3)) (S1.same s3) ?_
  refine Rp.nl _ _ hz (r3.mono (fun a o h => ?_) (Pre.refl _))
  obtain ⟨h1, h2, _⟩ := Vw.some_of h
  have vis : ∀ (hh : H1 a ≠ none), False := fun hh => by
    by_cases e : a = xa
    · subst e; exact hh hx
    · exact h2 ⟨by
        cases e1 : H1 a with
        | none => exact absurd e1 hh
        | some u => rw [s2 a u e1]; simp, e⟩
  exact Vw.of h1 (fun zz => vis (S1.hid a zz)) fun fp hf hm => vis (S1.trk fp hf a hm).1
theorem dx_make {Ca : Addr} {es' : List D} (Mr : Mkr X.prog X.w X.K X.mg X.base f Cl k ps (spI X.K Cl Sg)) (hr : Room k X.A) (ha : DA X M env (e :: es) ds M1) (hR : Ress M1 ds es') (hs : Sg es' (.er Ca))
    (hg : Gl X f := by rfl) (hdb : (f == ("__debug__" : Str)) = false := by decide) (he : starEach (e :: es) X.env = (false, eval e X.env) :: starEach es X.env := by rfl) (hpl : (backTo pos (starEach es X.env)).any (·.1) = false := by rfl) :
    DX X M env (.Call (.Name f p) (e :: es) [] pos) Ca M1 := fun σ H F A S L W tk q Q => by
  refine s_make Mr hr tk ?_ hg hdb he hpl
  refine ha σ H F A S L _ fun vs H1 A1 t1 S1 r1 => ?_
  intro xa dx hx hd ne
  have s2 : Same H1 (upd (upd H1 dx (.own xa)) xa (.ins Cl dx [])) := fun b o eb => by
    rw [upd_ne (ne_of_none eb hx), upd_ne (ne_of_none eb hd)]
    exact eb
  refine ⟨F, vs, es', .er Ca, xa, dx, rfl, upd_same, (S1.same s2).hid, fun zz => S1.hid _ zz hx, made_args S1.hid (Ress.rp S1 hR r1) hx hd, hs, fun H3 fr => ?_⟩
  have s3 : Same H1 H3 := fun b o eb => fr b o (s2 b o eb) (ne_of_none eb hx)
  exact q H3 A1 (t1.trans (Stp.same s3)) (S1.same s3)
end
end KT
namespace KT
open PySem PySem.Spec PyProof.Rows L2

section
variable {X : Cx} {M M1 M2 M3 : List C} {env : EnvD} {a b o e : Expr} {es : List Expr} {x y z d : D} {ds : List D} {pos p apos cpos : Pos} {rest : List Stmt} {Fi : Fin} {f m : Str} {k : Nat} {ps : List Str} {Sg : List D → Out → Prop} {Cl : Addr}

/-! ### cells changed -/
theorem Sto.setL {K : PySem.W.Frag} {F : Addr → Prop} {A : Fps} {H : Hp} {q : Addr} {ws : List V} {es : List D} (S : Sto K F A M H) {k : Nat} (hk : A[k]? = some [q]) (hm : M[k]? = some (.lst ds)) (r : Rps K A (Vw F A H) ws es) :
    Sto K F A (M.set k (.lst es)) (upd H q (.lst ws)) ∧ Stp A H A (upd H q (.lst ws)) :=
  S.put hk (List.getElem?_eq_some_iff.mp hm).1 ⟨q, ws, rfl, upd_same, r⟩
theorem de_append {apos cpos : Pos} (ho : DE X M env o (.loc k) M1) (he : DE X M1 env e d M2) (hm : M2[k]? = some (.lst ds)) (hl : ds.length < 100000)
    (hbase : attributeBase o "append" X.env (eval o X.env) = eval o X.env := by rfl)
    (hfew : ((backTo cpos (starEach [e] X.env)).all (fun x => !x.1) && (backToKw cpos (keywordEach [] X.env)).all (fun x => x.1.isSome)
      && decide (([e] : List Expr).length + ([] : List Keyword).length + (if ([] : List Keyword).isEmpty then 0 else 1) < 30)) = true := by rfl)
    (hline : (apos.endLine == cpos.line) = true := by rfl) (hs : starEach [e] X.env = (false, eval e X.env) :: starEach [] X.env := by rfl) (hplain : (backTo cpos (starEach [] X.env)).any (·.1) = false := by rfl)
    (hm1 : ∃ ds', M1[k]? = some (.lst ds') := by exact ⟨_, rfl⟩) :
    DE X M env (.Call (.Attribute o "append" apos) [e] [] cpos) .non (M2.set k (.lst (ds ++ [d]))) := fun σ H F A S L Q q => by
  refine sE (pe_bm PySem.F.plainAttrs_list PySem.F.slot_list_append PySem.F.type_list_append mt_append (semE X o) (semA X [e]) hbase hfew hline hs hplain) ?_
  refine ho σ H F A S L _ fun v H1 A1 t1 S1 r1 => ?_
  obtain ⟨ds', hm1⟩ := hm1
  obtain ⟨q0, vs0, e0, hA0, h0, hr0⟩ := S1.lst hm1 r1
  subst e0
  refine ⟨Or.inl ⟨rfl, vs0, SqL.of h0⟩, ?_⟩
  refine sA (pa_cons (semE X e) pa_nil hs) ?_
  refine he σ H1 F A1 S1 (L.stp S t1) _ fun u H2 A2 t2 S2 r2 => ?_
  have r1' := r1.stp S1 t2
  obtain ⟨q1, vs, e1, hA, h1, hr⟩ := S2.lst hm r1'
  cases e1
  obtain ⟨g1, g2⟩ := S2.setL hA hm (hr.append (.one r2))
  exact ⟨_, vs, u, rfl, rfl, h1, by rw [hr.length]; exact line_lt hl, q .non _ A2 ((t1.trans t2).trans g2) g1 .non⟩
theorem de_popAt {apos cpos : Pos} {i : Int} {j : Nat} (ho : DE X M env o (.loc k) M1) (he : DE X M1 env e (.int i) M2) (hm : M2[k]? = some (.lst ds)) (hi : ixN ds.length i = some j) (hd : ds[j]? = some d) (hb : ds.length < 100000)
    (hbase : attributeBase o "pop" X.env (eval o X.env) = eval o X.env := by rfl)
    (hfew : ((backTo cpos (starEach [e] X.env)).all (fun x => !x.1) && (backToKw cpos (keywordEach [] X.env)).all (fun x => x.1.isSome)
      && decide (([e] : List Expr).length + ([] : List Keyword).length + (if ([] : List Keyword).isEmpty then 0 else 1) < 30)) = true := by rfl)
    (hline : (apos.endLine == cpos.line) = true := by rfl) (hs : starEach [e] X.env = (false, eval e X.env) :: starEach [] X.env := by rfl) (hplain : (backTo cpos (starEach [] X.env)).any (·.1) = false := by rfl)
    (hm1 : ∃ ds', M1[k]? = some (.lst ds') := by exact ⟨_, rfl⟩) :
    DE X M env (.Call (.Attribute o "pop" apos) [e] [] cpos) d (M2.set k (.lst (ds.eraseIdx j))) := fun σ H F A S L Q q => by
  refine sE (pe_bm PySem.F.plainAttrs_list PySem.F.slot_list_pop PySem.F.type_list_pop mt_popAt (semE X o) (semA X [e]) hbase hfew hline hs hplain) ?_
  refine ho σ H F A S L _ fun v H1 A1 t1 S1 r1 => ?_
  obtain ⟨ds', hm1⟩ := hm1
  obtain ⟨q0, vs0, e0, hA0, h0, hr0⟩ := S1.lst hm1 r1
  subst e0
  refine ⟨Or.inl ⟨rfl, vs0, SqL.of h0⟩, ?_⟩
  refine sA (pa_cons (semE X e) pa_nil hs) ?_
  refine he σ H1 F A1 S1 (L.stp S t1) _ fun u H2 A2 t2 S2 r2 => ?_
  have r1' := r1.stp S1 t2
  obtain ⟨q1, vs, e1, hA, h1, hr⟩ := S2.lst hm r1'
  cases e1
  cases r2
  obtain ⟨s1, s2, s3, s4⟩ := ixN_seq hi
  obtain ⟨w, hw1, hw2⟩ := hr.get hd
  obtain ⟨g1, g2⟩ := S2.setL hA hm (hr.erase j)
  refine ⟨_, vs, i, j, w, rfl, rfl, h1, by omega, by omega, by rw [hr.length]; exact s1, hw1, q w _ A2 ((t1.trans t2).trans g2) g1 (hw2.stp S2 g2)⟩
theorem de_clear {apos cpos : Pos} (ho : DE X M env o (.loc k) M1) (hm : M1[k]? = some (.lst ds))
    (hbase : attributeBase o "clear" X.env (eval o X.env) = eval o X.env := by rfl) (hline : (apos.endLine == cpos.line) = true := by rfl) :
    DE X M env (.Call (.Attribute o "clear" apos) [] [] cpos) .non (M1.set k (.lst [])) := fun σ H F A S L Q q => by
  refine sE (pe_bm0 PySem.F.plainAttrs_list PySem.F.slot_list_clear PySem.F.type_list_clear mt_clear (semE X o) hbase hline) ?_
  refine ho σ H F A S L _ fun v H1 A1 t1 S1 r1 => ?_
  obtain ⟨q0, vs0, e0, hA0, h0, hr0⟩ := S1.lst hm r1
  subst e0
  obtain ⟨g1, g2⟩ := S1.setL hA0 hm (ws := []) (es := []) .nil
  exact ⟨Or.inl ⟨rfl, vs0, SqL.of h0⟩, _, vs0, rfl, rfl, h0, q .non _ A1 (t1.trans g2) g1 .non⟩
/-- xs[i] = e -/
theorem db_setItem {i : Expr} {pos' : Pos} {n : Int} {j : Nat} (he : DE X M env e d M1) (ho : DE X M1 env o (.loc k) M2) (hi : DE X M2 env i (.int n) M3) (hm : M3[k]? = some (.lst ds)) (hj : ixN ds.length n = some j) (hr : DB X (M3.set k (.lst (ds.set j d))) env rest Fi)
    (hs : swapsWithSole [.Subscript o i pos'] e pos.line X.env = pure false := by rfl) (hw : swappedStores [.Subscript o i pos'] e X.env = pure none := by rfl)
    (h1 : (assignEach [.Subscript o i pos'] X.env).map (·.2) = [assign (.Subscript o i pos') X.env] := by rfl)
    (ha : ∀ v, assign (.Subscript o i pos') X.env v = (do
      let ov ← holding [v] (eval o X.env)
      let iv ← holding [v, ov] (eval i X.env)
      standAt pos'
      holding [v, ov, iv] (setItem ov iv v)
      release [v, ov, iv] []) := by intro _; rfl) : DB X M env (.Assign [.Subscript o i pos'] e pos :: rest) Fi := fun σ H F A S L Dn W tk mt => by
  refine semCons (sS (ps_asg (semE X e) (pg_sub (semE X o) (semE X i) set_list ha) hs hw h1) ?_)
  refine he σ H F A S L.2 _ fun v H1 A1 t1 S1 r1 => ?_
  refine ho σ H1 F A1 S1 (L.stp S t1).2 _ fun u H2 A2 t2 S2 r2 => ?_
  refine hi σ H2 F A2 S2 ((L.stp S t1).stp S1 t2).2 _ fun iv H3 A3 t3 S3 r3 => ?_
  obtain ⟨q1, vs, e1, hA, h1, hrp⟩ := S3.lst hm (r2.stp S2 t3)
  subst e1
  cases r3
  obtain ⟨g1, g2⟩ := S3.setL hA hm (hrp.set ((r1.stp S1 t2).stp S2 t3) j)
  refine ⟨q1, vs, n, j, rfl, rfl, h1, by rw [hrp.length]; exact hj, ?_⟩
  exact hr σ _ F A3 g1 (((L.stp S t1).stp S1 t2).stp S2 t3 |>.stp S3 g2) Dn W tk (mt.stp (((t1.trans t2).trans t3).trans g2))

/-! ### dicts of ints and texts -/
def valD (kvs : List (Key × D)) (k : Key) : Option D := (kvs.find? fun kv => decide (kv.1 = k)).map (·.2)
def putD (kvs : List (Key × D)) (k : Key) (v : D) : List (Key × D) :=
  if (kvs.any fun kv => decide (kv.1 = k)) = true then kvs.map (fun kv => if kv.1 = k then (kv.1, v) else kv) else kvs ++ [(k, v)]
section
variable {K : PySem.W.Frag} {A : Fps} {G : Hp}
theorem Kvs.length : ∀ {kws : List (Key × V)} {kvs : List (Key × D)}, Kvs K A G kws kvs → kws.length = kvs.length
  | _, _, .nil => rfl
  | _, _, .cons _ t => by rw [List.length_cons, List.length_cons, t.length]
theorem Kvs.any {ky : Key} : ∀ {kws : List (Key × V)} {kvs : List (Key × D)}, Kvs K A G kws kvs → (kws.any fun kv => decide (kv.1 = ky)) = (kvs.any fun kv => decide (kv.1 = ky))
  | _, _, .nil => rfl
  | _, _, .cons _ t => by rw [List.any_cons, List.any_cons, t.any]
theorem Kvs.val {ky : Key} : ∀ {kws : List (Key × V)} {kvs : List (Key × D)}, Kvs K A G kws kvs → (valD kvs ky = none ∧ valV kws ky = none) ∨ ∃ d v, valD kvs ky = some d ∧ valV kws ky = some v ∧ Rp K A G v d
  | _, _, .nil => .inl ⟨rfl, rfl⟩
  | (k', v) :: kws, (_, d) :: kvs, .cons r t => by
    unfold valD valV
    rw [List.find?_cons, List.find?_cons]
    by_cases e : k' = ky
    · simp only [e, decide_true]
      exact .inr ⟨d, v, rfl, rfl, r⟩
    · simp only [e, decide_false]
      exact t.val
theorem Kvs.rep {ky : Key} {v : V} {d : D} (r : Rp K A G v d) : ∀ {kws : List (Key × V)} {kvs : List (Key × D)}, Kvs K A G kws kvs → Kvs K A G (kws.map fun kv => if kv.1 = ky then (kv.1, v) else kv) (kvs.map fun kv => if kv.1 = ky then (kv.1, d) else kv)
  | _, _, .nil => .nil
  | (k', v') :: kws, (_, d') :: kvs, .cons r' t => by
    rw [List.map_cons, List.map_cons]
    by_cases e : k' = ky
    · simp only [e, if_true]
      exact .cons r (Kvs.rep r t)
    · simp only [e, if_false]
      exact .cons r' (Kvs.rep r t)
theorem Kvs.snoc {ky : Key} {v : V} {d : D} (r : Rp K A G v d) : ∀ {kws : List (Key × V)} {kvs : List (Key × D)}, Kvs K A G kws kvs → Kvs K A G (kws ++ [(ky, v)]) (kvs ++ [(ky, d)])
  | _, _, .nil => .cons r .nil
  | _, _, .cons r' t => .cons r' (Kvs.snoc r t)
theorem Kvs.put {ky : Key} {v : V} {d : D} (r : Rp K A G v d) {kws : List (Key × V)} {kvs : List (Key × D)} (h : Kvs K A G kws kvs) : Kvs K A G (putK kws ky v) (putD kvs ky d) := by
  unfold putK putD
  rw [h.any]
  split
  · exact Kvs.rep r h
  · exact Kvs.snoc r h
end
def keyD : Key → D
  | .inl i => .int i
  | .inr s => .str s
theorem Rp.key {K : PySem.W.Frag} {A : Fps} {G : Hp} {v : V} {ky : Key} (r : Rp K A G v (keyD ky)) : v = kV ky := by
  cases ky with
  | inl i => cases r; rfl
  | inr s => cases r; rfl
/-- k in d -/
theorem dt_inD {ky : Key} {kvs : List (Key × D)} (hu : X.A.units + 1 < cLine) (ha : DE X M env a (keyD ky) M1) (hb : DE X M1 env b (.loc k) M2) (hm : M2[k]? = some (.dk kvs)) (hk : behindInMarks .In b = false := by rfl) : DT X M env (.Compare a [.In] [b] pos) (valD kvs ky).isSome M2 := fun σ H F A S L Q q => by
  refine sT (pt_cmp (pc_din hu (semE X a) (semE X b)) hk) ?_
  refine ha σ H F A S L _ fun v H1 A1 t1 S1 r1 => ?_
  refine hb σ H1 F A1 S1 (L.stp S t1) _ fun u H2 A2 t2 S2 r2 => ?_
  obtain ⟨qa, kws, rfl, hA, h1, hr⟩ := S2.dk hm r2
  rw [r1.key]
  refine ⟨qa, _, rfl, DGet.k h1, _, rfl, ?_⟩
  have e : (valV kws ky).isSome = (valD kvs ky).isSome := by
    rcases hr.val (ky := ky) with ⟨e1, e2⟩ | ⟨d', v', e1, e2, _⟩
    · rw [e1, e2]; rfl
    · rw [e1, e2]; rfl
  rw [e]
  exact q H2 A2 (t1.trans t2) S2
theorem dt_notinD {ky : Key} {kvs : List (Key × D)} (hu : X.A.units + 1 < cLine) (ha : DE X M env a (keyD ky) M1) (hb : DE X M1 env b (.loc k) M2) (hm : M2[k]? = some (.dk kvs)) (hk : behindInMarks .NotIn b = false := by rfl) : DT X M env (.Compare a [.NotIn] [b] pos) (!(valD kvs ky).isSome) M2 := fun σ H F A S L Q q => by
  refine sT (pt_cmp (pc_dnotin hu (semE X a) (semE X b)) hk) ?_
  refine ha σ H F A S L _ fun v H1 A1 t1 S1 r1 => ?_
  refine hb σ H1 F A1 S1 (L.stp S t1) _ fun u H2 A2 t2 S2 r2 => ?_
  obtain ⟨qa, kws, rfl, hA, h1, hr⟩ := S2.dk hm r2
  rw [r1.key]
  refine ⟨qa, _, rfl, DGet.k h1, _, rfl, ?_⟩
  have e : (valV kws ky).isSome = (valD kvs ky).isSome := by
    rcases hr.val (ky := ky) with ⟨e1, e2⟩ | ⟨d', v', e1, e2, _⟩
    · rw [e1, e2]; rfl
    · rw [e1, e2]; rfl
  rw [e]
  exact q H2 A2 (t1.trans t2) S2
/-- d[k] -/
theorem de_getD {ky : Key} {kvs : List (Key × D)} (hu : X.A.units + 1 < cLine) (ha : DE X M env a (.loc k) M1) (hb : DE X M1 env b (keyD ky) M2) (hm : M2[k]? = some (.dk kvs)) (hv : valD kvs ky = some d) (hs : NoSl b := by exact fun _ _ => rfl) : DE X M env (.Subscript a b pos) d M2 := fun σ H F A S L Q q => by
  refine sE (pe_dget hu (semE X a) (semE X b) hs) ?_
  refine ha σ H F A S L _ fun v H1 A1 t1 S1 r1 => ?_
  refine hb σ H1 F A1 S1 (L.stp S t1) _ fun u H2 A2 t2 S2 r2 => ?_
  obtain ⟨qa, kws, rfl, hA, h1, hr⟩ := S2.dk hm (r1.stp S1 t2)
  rw [r2.key]
  rcases hr.val (ky := ky) with ⟨e1, e2⟩ | ⟨d', v', e1, e2, e3⟩
  · rw [hv] at e1; cases e1
  · rw [hv] at e1; cases e1
    refine ⟨qa, v', rfl, ?_, q v' H2 A2 (t1.trans t2) S2 e3⟩
    rw [← e2]
    exact DGet.k h1
/-- d[k] = v -/
theorem db_putD {i : Expr} {pos' : Pos} {ky : Key} {kvs : List (Key × D)} (hu : X.A.units + 1 < cLine) (he : DE X M env e d M1) (ho : DE X M1 env o (.loc k) M2) (hi : DE X M2 env i (keyD ky) M3) (hm : M3[k]? = some (.dk kvs)) (hl : kvs.length < 100000) (hr : DB X (M3.set k (.dk (putD kvs ky d))) env rest Fi)
    (hs : swapsWith e (some (.Subscript o i pos')) pos.line X.env = pure false := by rfl) : DB X M env (.Assign [.Subscript o i pos'] e pos :: rest) Fi := fun σ H F A S L Dn W tk mt => by
  refine semCons (sS (ps_dput hu (semE X o) (semE X i) (semE X e) hs) ?_)
  refine he σ H F A S L.2 _ fun v H1 A1 t1 S1 r1 => ?_
  refine ho σ H1 F A1 S1 (L.stp S t1).2 _ fun u H2 A2 t2 S2 r2 => ?_
  refine hi σ H2 F A2 S2 ((L.stp S t1).stp S1 t2).2 _ fun iv H3 A3 t3 S3 r3 => ?_
  obtain ⟨qa, kws, e1, hA, h1, hrp⟩ := S3.dk hm (r2.stp S2 t3)
  subst e1
  rw [r3.key]
  obtain ⟨g1, g2⟩ := S3.put (c := .dk (putD kvs ky d)) (o := .dK (putK kws ky v)) hA (List.getElem?_eq_some_iff.mp hm).1 ⟨qa, _, rfl, upd_same, hrp.put ((r1.stp S1 t2).stp S2 t3)⟩
  refine ⟨qa, _, rfl, DPut.k h1 (by rw [hrp.length]; exact line_lt hl), ?_⟩
  exact hr σ _ F A3 g1 (((L.stp S t1).stp S1 t2).stp S2 t3 |>.stp S3 g2) Dn W tk (mt.stp (((t1.trans t2).trans t3).trans g2))
/-- {} -/
theorem de_dnew : DE X M env (.Dict [] [] pos) (.loc M.length) (M ++ [.dk []]) := fun σ H F A S L Q q => by
  refine sE pe_dnewK ?_
  intro qa hq
  obtain ⟨g1, g2, g3⟩ := S.grow (c := .dk []) (H1 := upd H qa (.dK [])) hq (same_new hq) (by rw [upd_same]; simp) ⟨qa, [], rfl, upd_same, .nil⟩
  exact q (.ref qa) _ _ g2 g1 (g3 _)

/-! ### raising -/
structure ExA (K : PySem.W.Frag) (mg : Str → Option Value) (x : Str) (Ca : Addr) : Prop where
  mgx : mg x = some (.ref Ca)
  exc : PySem.W.excIn K Ca [.type "ValueError", .type "Exception", .type "BaseException", .type "object"] "ValueError.__new__" = true
  kp : PySem.W.keepIn K (.ref Ca) = true
  sub : PySem.W.subIn K (.ref Ca) (.type "BaseException") = some true
  ty : PySem.W.typeIn K (.ref Ca) = some (.type "type")
theorem db_raise {x msg : Str} {j : Nat} {p2 rpos : Pos} {Ca : Addr} (E : ExA X.K X.mg x Ca) (h : Fi.ex Ca M env) (hg : Gl X x := by rfl) (hc : X.calm = true := by rfl) (hdb : (x == ("__debug__" : Str)) = false := by decide) :
    DB X M env (.Raise (some (.Call (.Name x p) [.Constant (.str msg) j p2] [] pos)) none rpos :: rest) Fi := fun σ H F A S L Dn W tk mt => by
  refine semCons (sS (ps_raise hc tk (pmk_own PySem.F.excBase_ValueError E.exc E.mgx E.kp (raises_own E.sub E.ty) hg hdb)) ?_)
  exact mt.ex Ca M env σ H A h (Stp.refl A H) S L
theorem db_exprX {Ca : Addr} (he : DX X M env e Ca M1) (h : Fi.ex Ca M1 env) (hs : swapsWith e none pos.line X.env = pure false := by rfl) : DB X M env (.Expr e pos :: rest) Fi := fun σ H F A S L Dn W tk mt => by
  refine semCons (sS (ps_expr (semE X e) hs) ?_)
  exact he σ H F A S L.2 W tk (fun H1 A1 t1 S1 => mt.ex Ca M1 env σ H1 A1 h t1 S1 (L.stp S t1)) _
theorem db_retX {Ca : Addr} (he : DX X M env e Ca M1) (h : Fi.ex Ca M1 env) : DB X M env (.Return (some e) pos :: rest) Fi := fun σ H F A S L Dn W tk mt => by
  refine semCons (sS (ps_ret (semE X e)) ?_)
  exact he σ H F A S L.2 W tk (fun H1 A1 t1 S1 => mt.ex Ca M1 env σ H1 A1 h t1 S1 (L.stp S t1)) _
theorem db_setX (i : Nat) {Ca : Addr} {x : Str} {pos' : Pos} (he : DX X M env e Ca M1) (h : Fi.ex Ca M1 env) (hN : X.N.Nodup) (hi : X.N[i]? = some x := by rfl) (hx : Loc X.env.scope x := by first | exact Or.inl rfl | exact Or.inr rfl)
    (hs : swapsWith e (some (.Name x pos')) pos.line X.env = pure false := by rfl) (hf : X.fn x = true ∨ X.env.scope.names.lookup x = some .local := by first | exact .inl rfl | exact .inr rfl) : DB X M env (.Assign [.Name x pos'] e pos :: rest) Fi := fun σ H F A S L Dn W tk mt => by
  refine semCons (sS (ps_set hN hi hx (semE X e) hs hf) ?_)
  exact he σ H F A S L.2 W tk (fun H1 A1 t1 S1 => mt.ex Ca M1 env σ H1 A1 h t1 S1 (L.stp S t1)) _
/-- if f(..) op e: .. where f(..) raises -/
theorem db_ifX {op : CmpOp} {r : R2} {bs cs : List Stmt} {Ca : Addr} (ho : OpR X (compareOp op) r) (ha : DX X M env a Ca M1) (h : Fi.ex Ca M1 env) (hm : behindInMarks op b = false) : DB X M env (.If (.Compare a [op] [b] p) bs cs pos :: rest) Fi := fun σ H F A S L Dn W tk mt => by
  refine semCons (sS (ps_if (pt_cmpR ho (semE X a) (semE X b) hm) (semSs X bs) (semSs X cs)) ?_)
  exact ha σ H F A S L.2 W tk (fun H1 A1 t1 S1 => mt.ex Ca M1 env σ H1 A1 h t1 S1 (L.stp S t1)) _
theorem dx_tup1 {x1} {Ca : Addr} (ha : DX X M env e Ca M1) (hs : starEach (e :: es) X.env = (false, eval e X.env) :: starEach es X.env := by rfl) : DX X M env (.Tuple (e :: es) x1 pos) Ca M1 := fun σ H F A S L W tk q Q => by
  refine sE (pe_tup (pa_cons (semE X e) (semA X es) hs)) ?_
  exact ha σ H F A S L W tk q _
theorem dx_ix1 {Ca : Addr} (ha : DX X M env a Ca M1) (hs : PlainIx b := by exact fun _ _ => rfl) : DX X M env (.Subscript a b pos) Ca M1 := fun σ H F A S L W tk q Q => by
  refine sE (pe_ix ix_list (semE X a) (semE X b) hs) ?_
  exact ha σ H F A S L W tk q _

/-- try: .. except Cls as n: .. -/
theorem db_tryAs {x n : Str} {c : Value} (i : Nat) {body suite : List Stmt} {b0 : Stmt} {np pos' : Pos} (hN : X.N.Nodup) (hc : Names X x c)
    (hb : ∀ (pn : List (Addr × Obj)) (xe : Value → Shared → Prop), PassesOwn (model X.prog X.w) X.A X.env xe → DB (X.tr pn xe) M env body { Fi with nx := fun M' env' => DB X M' env' rest Fi, ex := fun Ca M' env' =>
      (PySem.W.exmOne X.K (.ref Ca) c = some true ∧ ∀ (a : Addr) (oe : Obj) (pn : List (Addr × Obj)), Zc (.ref Ca) none oe → (∃ vs, oe.data = .fields vs) →
        DB (X.suite a ((a, oe) :: pn)) M' (env'.set i (some (.adr a))) (b0 :: suite) ⟨fun M2 env2 => DB X M2 (env2.set i none) rest Fi, Fi.rt, fun _ _ => False, fun _ _ => False, fun _ _ _ => False⟩) ∨
      (PySem.W.exmOne X.K (.ref Ca) c = some false ∧ Fi.ex Ca M' env') })
    (hi : X.N[i]? = some n := by rfl) (hln : X.env.kindOf n = some .local := by rfl) (hs : X.stack = X.env :: X.outer := by rfl) (hf : X.env.frame = some X.env.locals := by rfl) :
    DB X M env (.Try body [.ExceptHandler (some (.Name x np)) (some n) (b0 :: suite) pos'] [] [] pos :: rest) Fi := fun σ H F A S L Dn W tk mt => by
  refine semCons (sS (ps_try_as (i := i) (Wout := W) (tb := fun W D σ H => ∀ (pn : List (Addr × Obj)) (xe : Value → Shared → Prop), Takes (X.tr pn xe) W → PassesOwn (model X.prog X.w) X.A X.env xe → SemSs (X.tr pn xe) body D σ H)
    (ts := fun a cls d D σ H => ∀ (oe : Obj) (pn : List (Addr × Obj)), Zc cls d oe → (∃ vs, oe.data = .fields vs) → SemSs (X.suite a ((a, oe) :: pn)) (b0 :: suite) D σ H) hs hf hN hi hln hc tk
    (fun W' pn xe tk' pa => ⟨fun pins s σ H D I h => h pn xe tk' pa pins s I⟩) (fun a oe cls d pn hz hv => ⟨fun pins s σ H D I h => h oe pn hz hv pins s I⟩)) ?_)
  intro pn xe tk' pa
  refine hb pn xe pa σ H F A S L _ _ tk' ⟨fun M' env' σ' H' A' h g S' L' => h σ' H' F A' S' L' Dn W tk (mt.stp g), fun d M' v H' A' h g => mt.rt d M' v H' A' h g, fun M' e s H' A' h g => mt.bk M' e s H' A' h g, fun M' e s H' A' h g => mt.ct M' e s H' A' h g, fun Ca M' env' σ' H' A' h g S' L' => ?_⟩
  rcases h with ⟨h1, h2⟩ | ⟨h1, h2⟩
  · refine ⟨true, h1, fun _ a ha oe pn' hz hv => ?_, (fun z => nomatch z)⟩
    have L2 := L'.set i (v := .ref a) (d := .adr a) (.adr a)
    refine h2 a oe pn' hz hv _ H' F A' S' L2 _ (fun _ _ _ _ => False) takes0 ⟨fun M2 env2 σ2 H2 A2 h3 g3 S3 L3 => ?_, fun d M' v H2 A2 h3 g3 => mt.rt d M' v H2 A2 h3 (g.trans g3), (fun _ _ _ _ _ z => z.elim), (fun _ _ _ _ _ z => z.elim), (fun _ _ _ _ _ _ z => z.elim)⟩
    exact h3 _ H2 F A2 S3 (L3.unset i) Dn W tk (mt.stp (g.trans g3))
  · exact ⟨false, h1, (fun z => nomatch z), fun _ => mt.ex Ca M' env' σ' H' A' h2 g S' L'⟩
/-- isinstance of what is caught -/
theorem rc_isE {K : PySem.W.Frag} {Dx a C' : Addr} {c : Bool} (h : PySem.W.kitOne K (.ref Dx) (.ref C') = some c) : RC K M (rIsE K Dx a) [.adr a, .adr C'] (.bl c) := fun F A H vs S r Q q => by
  cases r with
  | cons r0 r1 =>
    cases r1 with
    | cons r1 r2 =>
      cases r2
      cases r0
      cases r1
      exact ⟨.ref C', .ref C', c, rfl, fun u hu => hu, h, q _ H (Same.refl H) (.bl _)⟩
theorem rc_isET {K : PySem.W.Frag} {Dx a : Addr} {n : String} {c : Bool} (h : PySem.W.kitOne K (.ref Dx) (.type n) = some c) : RC K M (rIsE K Dx a) [.adr a, .ty n] (.bl c) := fun F A H vs S r Q q => by
  cases r with
  | cons r0 r1 =>
    cases r1 with
    | cons r1 r2 =>
      cases r2
      cases r0
      cases r1
      exact ⟨.ty n, .type n, c, rfl, fun u hu => hu, h, q _ H (Same.refl H) (.bl _)⟩

/-! ### isinstance of data -/
def D.tyn : D → String
  | .non => "NoneType" | .bl _ => "bool" | .int _ => "int" | .str _ => "str" | .lst _ => "list" | .tup _ => "tuple" | _ => ""
theorem rc_isi {K : PySem.W.Frag} {n : String} {c : Bool} (h : kitB x.tyn n = some c) (hx : x.tyn ≠ "" := by decide) : RC K M (rIsi K) [x, .ty n] (.bl c) := fun F A H vs S r Q q => by
  cases r with
  | cons r0 r1 =>
    cases r1 with
    | cons r1 r2 =>
      cases r2
      cases r1
      refine ⟨_, .ty n, .type x.tyn, .type n, c, rfl, .ty n, ?_, kit_ty h, q _ H (Same.refl H) (.bl _)⟩
      cases r0 with
      | non => exact .base .non
      | bl b => exact .base (.bl b)
      | int i => exact .base (.int i)
      | str s => exact .base (.str s)
      | lst h1 _ => exact .base (.lst (Vw.le _ _ _ _ _ h1))
      | tup h1 _ => exact .base (.tup (Vw.le _ _ _ _ _ h1))
      | _ => exact absurd rfl hx
/-- .. of a cell -/
theorem rc_isiL {K : PySem.W.Frag} {n : String} {c : Bool} (hm : M[k]? = some (.lst ds)) (h : kitB "list" n = some c) : RC K M (rIsi K) [.loc k, .ty n] (.bl c) := fun F A H vs S r Q q => by
  cases r with
  | cons r0 r1 =>
    cases r1 with
    | cons r1 r2 =>
      cases r2
      cases r1
      obtain ⟨qa, ws, rfl, hA, h1, hr⟩ := S.lst hm r0
      exact ⟨_, .ty n, .type "list", .type n, c, rfl, .ty n, .base (.lst h1), kit_ty h, q _ H (Same.refl H) (.bl _)⟩

/-! ### in, == -/
theorem rv_inS {K : PySem.W.Frag} {c : Nat} {s : Str} : RV K M (fun x y H Q => ∃ (c : Nat) (z : Str), x = .str ⟨#[c]⟩ ∧ y = .str z ∧ Q (.bl (decide (c ∈ z.cps.toList))) H) (.str ⟨#[c]⟩) (.str s) (.bl (decide (c ∈ s.cps.toList))) := fun F A H v u S r1 r2 Q q => by
  cases r1; cases r2
  exact ⟨c, s, rfl, rfl, q _ H (Same.refl H) (.bl _)⟩
theorem rv_ninS {K : PySem.W.Frag} {c : Nat} {s : Str} : RV K M (fun x y H Q => ∃ (c : Nat) (z : Str), x = .str ⟨#[c]⟩ ∧ y = .str z ∧ Q (.bl (!decide (c ∈ z.cps.toList))) H) (.str ⟨#[c]⟩) (.str s) (.bl (!decide (c ∈ s.cps.toList))) := fun F A H v u S r1 r2 Q q => by
  cases r1; cases r2
  exact ⟨c, s, rfl, rfl, q _ H (Same.refl H) (.bl _)⟩
theorem dt_inS {c : Nat} {s : Str} (ha : DE X M env a (.str ⟨#[c]⟩) M1) (hb : DE X M1 env b (.str s) M2) (hm : behindInMarks .In b = false := by rfl) : DT X M env (.Compare a [.In] [b] pos) (decide (c ∈ s.cps.toList)) M2 := dt_cmp op_in_sign ha hb rv_inS hm
theorem dt_ninS {c : Nat} {s : Str} (ha : DE X M env a (.str ⟨#[c]⟩) M1) (hb : DE X M1 env b (.str s) M2) (hm : behindInMarks .NotIn b = false := by rfl) : DT X M env (.Compare a [.NotIn] [b] pos) (!decide (c ∈ s.cps.toList)) M2 := dt_cmp op_notIn_sign ha hb rv_ninS hm
/-! deep == -/
mutual
def D.py : D → PyData
  | .non => .none | .bl b => .bool b | .int i => .int i | .str s => .str s
  | .lst ds => .list (pys ds)
  | .tup ds => .tuple (pys ds)
  | _ => .none
def pys : List D → List PyData
  | [] => []
  | d :: ds => d.py :: pys ds
end
mutual
/-- plain, its texts well made -/
def D.pur : D → Bool
  | .non => true | .bl _ => true | .int _ => true | .str s => PyData.strOk s
  | .lst ds => purs ds
  | .tup ds => purs ds
  | _ => false
def purs : List D → Bool
  | [] => true
  | d :: ds => d.pur && purs ds
end
mutual
def D.dep : D → Nat
  | .lst ds => 1 + deps ds
  | .tup ds => 1 + deps ds
  | _ => 0
def deps : List D → Nat
  | [] => 0
  | d :: ds => max d.dep (deps ds)
end
section
variable {K : PySem.W.Frag} {G H : Hp}
mutual
theorem Rp.dp (e : Same G H) : ∀ (d : D) (v : V), d.pur = true → Rp K [] G v d → Dp K H v d.py
  | .non, _, _, h => by cases h; rw [D.py]; exact .non
  | .bl _, _, _, h => by cases h; rw [D.py]; exact .bl _
  | .int _, _, _, h => by cases h; rw [D.py]; exact .int _
  | .str _, _, _, h => by cases h; rw [D.py]; exact .str _
  | .lst ds, _, n, h => by cases h with | lst h1 h2 => rw [D.py]; exact .lst (SqL.of (e _ _ h1)) (Rps.dp e ds _ (by rw [D.pur] at n; exact n) h2)
  | .tup ds, _, n, h => by cases h with | tup h1 h2 => rw [D.py]; exact .tup (SqT.of (e _ _ h1)) (Rps.dp e ds _ (by rw [D.pur] at n; exact n) h2)
  | .obj _ _, _, n, _ => by simp [D.pur] at n
  | .loc _, _, n, _ => by simp [D.pur] at n
  | .adr _, _, n, _ => by simp [D.pur] at n
  | .scr _, _, n, _ => by simp [D.pur] at n
  | .ty _, _, n, _ => by simp [D.pur] at n
theorem Rps.dp (e : Same G H) : ∀ (ds : List D) (vs : List V), purs ds = true → Rps K [] G vs ds → DpAll K H vs (pys ds)
  | [], _, _, h => by cases h; rw [pys]; exact .nil
  | d :: ds, _, n, h => by
    rw [purs, Bool.and_eq_true] at n
    cases h with | cons h1 h2 => rw [pys]; exact .cons (Rp.dp e d _ n.1 h1) (Rps.dp e ds _ n.2 h2)
end
end
mutual
theorem D.lay : ∀ d : D, d.pur = true → d.py.canLay0 = true ∧ d.py.depth ≤ 2 * d.dep + 1
  | .non, _ => by simp [D.py, PyData.canLay0, PyData.depth]
  | .bl _, _ => by simp [D.py, PyData.canLay0, PyData.depth]
  | .int _, _ => by simp [D.py, PyData.canLay0, PyData.depth]
  | .str s, h => by simp [D.py, PyData.canLay0, PyData.depth]; simpa [D.pur] using h
  | .lst ds, h => by
    have := lays ds (by simpa [D.pur] using h)
    simp only [D.py, PyData.canLay0, PyData.depth, D.dep]
    exact ⟨this.1, by omega⟩
  | .tup ds, h => by
    have := lays ds (by simpa [D.pur] using h)
    simp only [D.py, PyData.canLay0, PyData.depth, D.dep]
    exact ⟨this.1, by omega⟩
  | .obj _ _, n => by simp [D.pur] at n
  | .loc _, n => by simp [D.pur] at n
  | .adr _, n => by simp [D.pur] at n
  | .scr _, n => by simp [D.pur] at n
  | .ty _, n => by simp [D.pur] at n
theorem lays : ∀ ds : List D, purs ds = true → PyData.canLayAll0 (pys ds) = true ∧ PyData.depthAll (pys ds) ≤ 2 * deps ds + 1
  | [], _ => by simp [pys, PyData.canLayAll0, PyData.depthAll]
  | d :: ds, h => by
    rw [purs, Bool.and_eq_true] at h
    have h1 := D.lay d h.1
    have h2 := lays ds h.2
    simp only [pys, PyData.canLayAll0, PyData.depthAll, deps, Bool.and_eq_true]
    exact ⟨⟨h1.1, h2.1⟩, by omega⟩
end
theorem D.shaped {d : D} (h : d.pur = true) (hd : d.dep ≤ 20) : SeqAt.shaped d.py = true := by
  obtain ⟨h1, h2⟩ := D.lay d h
  unfold SeqAt.shaped
  rw [h1, Bool.true_and]
  exact decide_eq_true (by omega)
theorem rv_eqD {K : PySem.W.Frag} {x' y' : D} (rx : Res M x x') (ry : Res M y y') (px : x'.pur = true) (py : y'.pur = true) (dx : x'.dep ≤ 20) (dy : y'.dep ≤ 20) : RV K M (rEqD K) x y (.bl (PyData.eqv x'.py y'.py)) := fun F A H v u S r1 r2 Q q =>
  ⟨x'.py, y'.py, (Res.rp S rx r1).dp (Vw.le _ _ _) _ _ px, (Res.rp S ry r2).dp (Vw.le _ _ _) _ _ py, D.shaped px dx, D.shaped py dy, q _ H (Same.refl H) (.bl _)⟩
theorem rv_neD {K : PySem.W.Frag} {x' y' : D} (rx : Res M x x') (ry : Res M y y') (px : x'.pur = true) (py : y'.pur = true) (dx : x'.dep ≤ 20) (dy : y'.dep ≤ 20) : RV K M (rNeD K) x y (.bl (!PyData.eqv x'.py y'.py)) := fun F A H v u S r1 r2 Q q =>
  ⟨x'.py, y'.py, (Res.rp S rx r1).dp (Vw.le _ _ _) _ _ px, (Res.rp S ry r2).dp (Vw.le _ _ _) _ _ py, D.shaped px dx, D.shaped py dy, q _ H (Same.refl H) (.bl _)⟩
theorem dt_eqD {x' y' : D} (hu : X.A.units + 64 < cLine) (ha : DE X M env a x M1) (hb : DE X M1 env b y M2) (rx : Res M2 x x') (ry : Res M2 y y') (px : x'.pur = true) (py : y'.pur = true) (dx : x'.dep ≤ 20) (dy : y'.dep ≤ 20) : DT X M env (.Compare a [.Eq] [b] pos) (PyData.eqv x'.py y'.py) M2 :=
  dt_cmp (op_eqD hu) ha hb (rv_eqD rx ry px py dx dy) (nomark _)
theorem de_eqD {x' y' : D} (hu : X.A.units + 64 < cLine) (ha : DE X M env a x M1) (hb : DE X M1 env b y M2) (rx : Res M2 x x') (ry : Res M2 y y') (px : x'.pur = true) (py : y'.pur = true) (dx : x'.dep ≤ 20) (dy : y'.dep ≤ 20) : DE X M env (.Compare a [.Eq] [b] pos) (.bl (PyData.eqv x'.py y'.py)) M2 :=
  de_cmp (op_eqD hu) ha hb (rv_eqD rx ry px py dx dy) (nomark _)
theorem dt_neD {x' y' : D} (hu : X.A.units + 64 < cLine) (ha : DE X M env a x M1) (hb : DE X M1 env b y M2) (rx : Res M2 x x') (ry : Res M2 y y') (px : x'.pur = true) (py : y'.pur = true) (dx : x'.dep ≤ 20) (dy : y'.dep ≤ 20) : DT X M env (.Compare a [.NotEq] [b] pos) (!PyData.eqv x'.py y'.py) M2 :=
  dt_cmp (op_neD hu) ha hb (rv_neD rx ry px py dx dy) (nomark _)

/-! ### lists glued, cut, sorted; the place of an item -/
theorem rvf_cat {K : PySem.W.Frag} {es : List D} (hx : Lh M x ds) (hy : Lh M y es) (hl : ds.length + es.length ≤ 100000) : RVF K M rCat x y (ds ++ es) := fun F A H v u S r1 r2 Q q => by
  obtain ⟨p1, vs, rfl, h1, g1⟩ := hx.at S r1
  obtain ⟨p2, ws, rfl, h2, g2⟩ := hy.at S r2
  exact ⟨p1, p2, vs, ws, rfl, rfl, h1, h2, by rw [g1.length, g2.length]; exact line_of hl, fun pn hp => q pn _ _ hp (same_new hp) upd_same (g1.append g2)⟩
theorem df_cat {es : List D} (ha : DE X M env a x M1) (hb : DE X M1 env b y M2) (hx : Lh M2 x ds) (hy : Lh M2 y es) (hl : ds.length + es.length ≤ 100000) : DF X M env (.BinOp a .Add b pos) (ds ++ es) M2 := df_op op_cat ha hb (rvf_cat hx hy hl)
theorem de_addS {s t : Str} (ha : DE X M env a (.str s) M1) (hb : DE X M1 env b (.str t) M2) (hl : s.length + t.length ≤ 100000) : DE X M env (.BinOp a .Add b pos) (.str (s ++ t)) M2 := de_op op_add_str ha hb fun F A H v u S r1 r2 Q q => by
  cases r1; cases r2
  exact ⟨s, t, rfl, rfl, line_of hl, q _ H (Same.refl H) (.str _)⟩
/-! slices -/
def DO (X : Cx) (M : List C) (env : EnvD) (lo : Option Expr) (i : Option Int) (M' : List C) : Prop := (lo = none ∧ i = none ∧ M' = M) ∨ ∃ e k, lo = some e ∧ i = some k ∧ DE X M env e (.int k) M'
theorem do_none : DO X M env none none M := .inl ⟨rfl, rfl, rfl⟩
theorem do_some {i : Int} (h : DE X M env e (.int i) M1) : DO X M env (some e) (some i) M1 := .inr ⟨e, i, rfl, rfl, h⟩
theorem DO.read {lo : Option Expr} {i : Option Int} (h : DO X M env lo i M1) : ∃ t : TO, PO X lo t ∧ ∀ (σ : L2.St) (H : Hp) (F : Addr → Prop) (A : Fps), Sto X.K F A M H → Slots X.K A (Vw F A H) env σ → ∀ Q : Option Int → Hp → Prop,
    (∀ H' A', Stp A H A' H' → Sto X.K F A' M1 H' → Q i H') → t σ H Q := by
  rcases h with ⟨rfl, rfl, rfl⟩ | ⟨e, k, rfl, rfl, he⟩
  · exact ⟨_, po_none, fun σ H F A S L Q q => q H A (Stp.refl A H) S⟩
  · refine ⟨_, po_some (semE X e), fun σ H F A S L Q q => ?_⟩
    refine he σ H F A S L _ fun v H1 A1 t1 S1 r1 => ?_
    cases r1
    exact ⟨k, rfl, q H1 A1 t1 S1⟩
def cutD (xs : List D) (lo hi : Option Int) : List D := (xs.drop (HT.sIx xs.length 0 lo)).take (HT.sIx xs.length xs.length hi - HT.sIx xs.length 0 lo)
theorem Rps.cut {K : PySem.W.Frag} {A : Fps} {G : Hp} {vs : List V} {ds : List D} {i j : Option Int} (r : Rps K A G vs ds) : Rps K A G (cutV vs i j) (cutD ds i j) := by
  unfold cutV cutD
  rw [r.length]
  exact (r.drop _).take _
theorem df_sliceL {lo hi : Option Expr} {i j : Option Int} {p2 : Pos} (ha : DE X M env a x M1) (hlo : DO X M1 env lo i M2) (hhi : DO X M2 env hi j M3) (hl : Ls M3 x ds) : DF X M env (.Subscript a (.Slice lo hi none p2) pos) (cutD ds i j) M3 := fun σ H F A S L Q q => by
  obtain ⟨t1, p1, r1⟩ := hlo.read
  obtain ⟨t2, p2, r2⟩ := hhi.read
  refine sE (pe_slice sl_list (semE X a) p1 p2) ?_
  refine ha σ H F A S L _ fun v H1 A1 s1 S1 rv => ?_
  refine r1 σ H1 F A1 S1 (L.stp S s1) _ fun H2 A2 s2 S2 => ?_
  refine r2 σ H2 F A2 S2 ((L.stp S s1).stp S1 s2) _ fun H3 A3 s3 S3 => ?_
  obtain ⟨qa, vs, rfl, h1, hr⟩ := hl.at S3 ((rv.stp S1 s2).stp S2 s3)
  exact ⟨qa, vs, rfl, h1, fun pn hp => q pn _ H3 _ A3 ((s1.trans s2).trans s3) S3 hp (same_new hp) upd_same hr.cut⟩
theorem de_sliceS {lo hi : Option Expr} {i j : Option Int} {p2 : Pos} {s : Str} (ha : DE X M env a (.str s) M1) (hlo : DO X M1 env lo i M2) (hhi : DO X M2 env hi j M3) (hl : s.length ≤ 100000) : DE X M env (.Subscript a (.Slice lo hi none p2) pos) (.str (cutS s i j)) M3 := fun σ H F A S L Q q => by
  obtain ⟨t1, p1, r1⟩ := hlo.read
  obtain ⟨t2, p2, r2⟩ := hhi.read
  refine sE (pe_slice sl_str (semE X a) p1 p2) ?_
  refine ha σ H F A S L _ fun v H1 A1 s1 S1 rv => ?_
  refine r1 σ H1 F A1 S1 (L.stp S s1) _ fun H2 A2 s2 S2 => ?_
  refine r2 σ H2 F A2 S2 ((L.stp S s1).stp S1 s2) _ fun H3 A3 s3 S3 => ?_
  cases rv
  exact ⟨s, rfl, line_of hl, q _ H3 A3 ((s1.trans s2).trans s3) S3 (.str _)⟩
/-! sorted; list(range(n)); index -/
theorem rcf_sorted {K : PySem.W.Frag} {ns srt : List Int} (hl : Ls M x (ns.map D.int)) (hu : ∀ ns' : List Int, ns'.Perm ns → ns'.Pairwise (· ≤ ·) → ns' = srt) : RCF K M (rSortedI K) [x] (srt.map D.int) := fun F A H vs S r Q q => by
  cases r with
  | cons r0 r1 =>
    cases r1
    obtain ⟨qa, ws, rfl, h1, h2⟩ := hl.at S r0
    rw [h2.ints] at h1
    refine ⟨qa, ns, rfl, h1, fun ns' pn hp hs hn => ?_⟩
    rw [hu ns' hp hs]
    exact q pn _ _ hn (same_new hn) upd_same (.of_ints _)
theorem df_sorted {ns srt : List Int} {p : Pos} (hl : Ls M1 x (ns.map D.int)) (hu : ∀ ns' : List Int, ns'.Perm ns → ns'.Pairwise (· ≤ ·) → ns' = srt) (hm : X.mg "sorted" = none) (ha : DA X M env [e] [x] M1) (hv : bootBuiltins "sorted" = some (.builtin "sorted") := by decide +kernel) (hg : Gl X "sorted" := by rfl)
    (he : starEach [e] X.env = (false, eval e X.env) :: starEach [] X.env := by rfl) (hpl : (backTo pos (starEach [] X.env)).any (·.1) = false := by rfl) : DF X M env (.Call (.Name "sorted" p) [e] [] pos) (srt.map D.int) M1 := df_callB cr_sortedI (rcf_sorted hl hu) hm hv ha hg (by decide) (by decide) he hpl
theorem rgV_rps {K : PySem.W.Frag} {A : Fps} {G : Hp} (lo hi : Int) : Rps K A G (rgV lo hi) (rngD lo (hi - lo).toNat) := by
  unfold rgV rngD
  generalize List.range (hi - lo).toNat = l
  induction l with
  | nil => exact .nil
  | cons i l ih => exact .cons (.int _) ih
theorem df_listRg {n : Int} {p p2 pos2 : Pos} (ha : DE X M env a (.int n) M1) (hn : 0 ≤ n ∧ n ≤ 100000) (hm : X.mg "list" = none) (hm2 : X.mg "range" = none) (hg : Gl X "list" := by rfl) (hg2 : Gl X "range" := by rfl) (hc : X.calm = true := by rfl)
    (na : starEach [.Call (.Name "range" p2) [a] [] pos2] X.env = (false, eval (.Call (.Name "range" p2) [a] [] pos2) X.env) :: starEach [] X.env := by rfl) (na2 : starEach [a] X.env = (false, eval a X.env) :: starEach [] X.env := by rfl) :
    DF X M env (.Call (.Name "list" p) [.Call (.Name "range" p2) [a] [] pos2] [] pos) (rngD 0 n.toNat) M1 := fun σ H F A S L Q q => by
  refine sE (pe_listRg hc hg hm (prg_1 hg2 hm2 (semE X a) na2) na) ?_
  refine ha σ H F A S L _ fun v H1 A1 s1 S1 rv => ?_
  cases rv
  refine ⟨n, rfl, RgOk.of_le (by omega) (by omega) (by omega) (by omega), fun pn hp => ?_⟩
  refine q pn _ H1 _ A1 s1 S1 hp (same_new hp) upd_same ?_
  have := rgV_rps (K := X.K) (A := A1) (G := Vw F A1 H1) 0 n
  rw [Int.sub_zero] at this
  exact this
/-- xs.index(y), ints -/
theorem rm_index {K : PySem.W.Frag} {H : Hp} {ns : List Int} {n : Int} {j : Nat} (h : ns[j]? = some n) (hno : ∀ m z, m < j → ns[m]? = some z → z ≠ n) {qa : Addr} (h1 : SqL K H qa (ns.map V.int)) {Q : VK} (q : Q (.int (j : Nat)) H) : rIndex K (.ref qa) [.int n] H Q :=
  ⟨qa, ns.map V.int, .int n, j, .int n, rfl, rfl, h1, rfl, (by rw [List.all_eq_true]; intro v hv; obtain ⟨z, _, rfl⟩ := List.mem_map.mp hv; rfl), (by rw [List.getElem?_map, h]; rfl), (by simp [eqV]), (fun m z' hmj hz => by
    rw [List.getElem?_map] at hz
    cases e : ns[m]? with
    | none => rw [e] at hz; cases hz
    | some z =>
      rw [e] at hz
      cases hz
      exact beq_eq_false_iff_ne.mpr (hno m z hmj e)), q⟩
theorem de_index {ns : List Int} {n : Int} {j : Nat} {apos cpos : Pos} (ho : DE X M env o x M1) (he : DE X M1 env e (.int n) M2) (hl1 : ∃ ds', Ls M1 x ds') (hl : Ls M2 x (ns.map D.int)) (h : ns[j]? = some n) (hno : ∀ m z, m < j → ns[m]? = some z → z ≠ n)
    (hbase : attributeBase o "index" X.env (eval o X.env) = eval o X.env := by rfl)
    (hfew : ((backTo cpos (starEach [e] X.env)).all (fun x => !x.1) && (backToKw cpos (keywordEach [] X.env)).all (fun x => x.1.isSome)
      && decide (([e] : List Expr).length + ([] : List Keyword).length + (if ([] : List Keyword).isEmpty then 0 else 1) < 30)) = true := by rfl)
    (hline : (apos.endLine == cpos.line) = true := by rfl) (hs : starEach [e] X.env = (false, eval e X.env) :: starEach [] X.env := by rfl) (hplain : (backTo cpos (starEach [] X.env)).any (·.1) = false := by rfl) :
    DE X M env (.Call (.Attribute o "index" apos) [e] [] cpos) (.int (j : Nat)) M2 := fun σ H F A S L Q q => by
  refine sE (pe_bm PySem.F.plainAttrs_list PySem.F.slot_list_index PySem.F.type_list_index mt_index (semE X o) (semA X [e]) hbase hfew hline hs hplain) ?_
  refine ho σ H F A S L _ fun v H1 A1 t1 S1 r1 => ?_
  obtain ⟨ds', hl1⟩ := hl1
  obtain ⟨q0, vs0, e0, h0, hr0⟩ := hl1.at S1 r1
  subst e0
  refine ⟨Or.inl ⟨rfl, vs0, h0⟩, ?_⟩
  refine sA (pa_cons (semE X e) pa_nil hs) ?_
  refine he σ H1 F A1 S1 (L.stp S t1) _ fun u H2 A2 t2 S2 r2 => ?_
  obtain ⟨q1, vs, e1, h1, hr⟩ := hl.at S2 (r1.stp S1 t2)
  cases e1
  cases r2
  rw [hr.ints] at h1
  exact rm_index h hno h1 (q _ H2 A2 (t1.trans t2) S2 (.int _))
end
end KT
namespace KT
open PySem PySem.Spec PyProof.Rows L2

section
variable {X : Cx} {M M1 M2 M3 : List C} {env : EnvD} {a b o e : Expr} {es : List Expr} {x y z d : D} {ds : List D} {pos p apos cpos : Pos} {rest : List Stmt} {Fi : Fin} {f m : Str} {k : Nat} {ps : List Str} {Sg : List D → Out → Prop} {Cl : Addr}

/-! ### fields stored -/
def putFD (f : Str) (v : D) : List (Str × D) → List (Str × D)
  | [] => [(f, v)]
  | (g, x) :: r => if g = f then (g, v) :: r else (g, x) :: putFD f v r
theorem Rfs.put {K : PySem.W.Frag} {A : Fps} {G : Hp} {v : V} (r : Rp K A G v d) : ∀ {fvs : List (Str × V)} {fs : List (Str × D)}, Rfs K A G fvs fs → Rfs K A G (putF f v fvs) (putFD f d fs)
  | _, _, .nil => .cons r .nil
  | (n, v') :: _, _, .cons r' t => by
    show Rfs K A G (if n = f then _ else _) (if n = f then _ else _)
    by_cases h : n = f
    · rw [if_pos h, if_pos h]; exact .cons r t
    · rw [if_neg h, if_neg h]; exact .cons r' (Rfs.put r t)
theorem Rfs.length {K : PySem.W.Frag} {A : Fps} {G : Hp} : ∀ {fvs : List (Str × V)} {fs : List (Str × D)}, Rfs K A G fvs fs → fvs.length = fs.length
  | _, _, .nil => rfl
  | _, _, .cons _ t => by rw [List.length_cons, List.length_cons, t.length]
/-- o.f = e, the instance a cell -/
theorem db_fld {pos' : Pos} {fs : List (Str × D)} (he : DE X M env e d M1) (ho : DE X M1 env o (.loc k) M2) (hm : M2[k]? = some (.ins Cl fs)) (cl : Cls X.K Cl) (na : NoAttr X.K Cl f) (hr : DB X (M2.set k (.ins Cl (putFD f d fs))) env rest Fi) (hl : Nat.blt fs.length 1000 = true := by rfl)
    (hs : swapsWith e (some (.Attribute o f pos')) pos.line X.env = pure false := by rfl) : DB X M env (.Assign [.Attribute o f pos'] e pos :: rest) Fi := fun σ H F A S L Dn W tk mt => by
  refine semCons (sS (ps_fld (semE X o) (semE X e) hs) ?_)
  refine he σ H F A S L.2 _ fun v H1 A1 t1 S1 r1 => ?_
  refine ho σ H1 F A1 S1 (L.stp S t1).2 _ fun u H2 A2 t2 S2 r2 => ?_
  cases r2 with
  | @loc _ q r' hA =>
    obtain ⟨x0, dx, fvs, h1, h2, h3⟩ := S2.cell hm hA
    cases h1
    refine ⟨q, Cl, dx, fvs, rfl, h2, cl, na, by rw [h3.length]; exact Nat.blt_eq.mp hl, ?_⟩
    obtain ⟨g1, g2⟩ := S2.put (c := .ins Cl (putFD f d fs)) (o := .ins Cl dx (putF f v fvs)) hA (List.getElem?_eq_some_iff.mp hm).1 ⟨q, dx, _, rfl, upd_same, Rfs.put (r1.stp S1 t2) h3⟩
    exact hr σ _ F A2 g1 (((L.stp S t1).stp S1 t2).stp S2 g2) Dn W tk (mt.stp ((t1.trans t2).trans g2))

/-! ### built-in names -/
theorem bt_len : bootBuiltins "len" = some (.builtin "len") := by decide +kernel
theorem bt_list : bootBuiltins "list" = some (.type "list") := by decide +kernel
theorem bt_isinstance : bootBuiltins "isinstance" = some (.builtin "isinstance") := by decide +kernel
theorem bt_int : bootBuiltins "int" = some (.type "int") := by decide +kernel
theorem bt_bool : bootBuiltins "bool" = some (.type "bool") := by decide +kernel
theorem bt_str : bootBuiltins "str" = some (.type "str") := by decide +kernel
theorem bt_tuple : bootBuiltins "tuple" = some (.type "tuple") := by decide +kernel
theorem bt_ValueError : bootBuiltins "ValueError" = some (.type "ValueError") := by decide +kernel
/-- isinstance(e, T) of data -/
theorem de_isi {n : String} {c : Bool} {T : Str} {p2 : Pos} (he : DE X M env e x M1) (h : kitB x.tyn n = some c) (hT : bootBuiltins T = some (.type n)) (hm : X.mg "isinstance" = none) (hmT : X.mg T = none) (hx : x.tyn ≠ "" := by decide) (hg : Gl X "isinstance" := by rfl) (hgT : Gl X T := by rfl) (hn : T ≠ "__name__" := by decide) (hdT : (T == ("__debug__" : Str)) = false := by decide)
    (h1 : starEach [e, .Name T p2] X.env = (false, eval e X.env) :: starEach [.Name T p2] X.env := by rfl) (h2 : starEach [.Name T p2] X.env = (false, eval (.Name T p2) X.env) :: starEach [] X.env := by rfl) (hpl : (backTo pos (starEach [.Name T p2] X.env)).any (·.1) = false := by rfl) :
    DE X M env (.Call (.Name "isinstance" p) [e, .Name T p2] [] pos) (.bl c) M1 := de_callB call_isi (rc_isi h hx) hm bt_isinstance (da_cons he (da_cons (de_ty hmT hT hgT hn hdT) da_nil h2) h1) hg (by decide) (by decide) h1 hpl
/-- .. of a list cell -/
theorem de_isiL {n : String} {c : Bool} {T : Str} {p2 : Pos} (he : DE X M env e (.loc k) M1) (hl : M1[k]? = some (.lst ds)) (h : kitB "list" n = some c) (hT : bootBuiltins T = some (.type n)) (hm : X.mg "isinstance" = none) (hmT : X.mg T = none) (hg : Gl X "isinstance" := by rfl) (hgT : Gl X T := by rfl) (hn : T ≠ "__name__" := by decide) (hdT : (T == ("__debug__" : Str)) = false := by decide)
    (h1 : starEach [e, .Name T p2] X.env = (false, eval e X.env) :: starEach [.Name T p2] X.env := by rfl) (h2 : starEach [.Name T p2] X.env = (false, eval (.Name T p2) X.env) :: starEach [] X.env := by rfl) (hpl : (backTo pos (starEach [.Name T p2] X.env)).any (·.1) = false := by rfl) :
    DE X M env (.Call (.Name "isinstance" p) [e, .Name T p2] [] pos) (.bl c) M1 := de_callB call_isi (rc_isiL hl h) hm bt_isinstance (da_cons he (da_cons (de_ty hmT hT hgT hn hdT) da_nil h2) h1) hg (by decide) (by decide) h1 hpl
/-- isinstance(e, Cls) in an except suite -/
theorem de_isE {Dx : Addr} {aE : Addr} {oe : Obj} {pn : List (Addr × Obj)} {C' : Addr} {T : Str} {c : Bool} {p2 : Pos} (Cc : ExcC X.K Dx) (hz : Zc (.ref Dx) none oe) (hf : ∃ vs, oe.data = .fields vs) (he : DE (X.suite aE ((aE, oe) :: pn)) M env e (.adr aE) M1) (h : PySem.W.kitOne X.K (.ref Dx) (.ref C') = some c) (hT : X.mg T = some (.ref C')) (hm : X.mg "isinstance" = none)
    (hg : Gl (X.suite aE ((aE, oe) :: pn)) "isinstance" := by rfl) (hgT : Gl (X.suite aE ((aE, oe) :: pn)) T := by rfl) (hdT : (T == ("__debug__" : Str)) = false := by decide)
    (h1 : starEach [e, .Name T p2] (X.suite aE ((aE, oe) :: pn)).env = (false, eval e (X.suite aE ((aE, oe) :: pn)).env) :: starEach [.Name T p2] (X.suite aE ((aE, oe) :: pn)).env := by rfl) (h2 : starEach [.Name T p2] (X.suite aE ((aE, oe) :: pn)).env = (false, eval (.Name T p2) (X.suite aE ((aE, oe) :: pn)).env) :: starEach [] (X.suite aE ((aE, oe) :: pn)).env := by rfl) (hpl : (backTo pos (starEach [.Name T p2] (X.suite aE ((aE, oe) :: pn)).env)).any (·.1) = false := by rfl) :
    DE (X.suite aE ((aE, oe) :: pn)) M env (.Call (.Name "isinstance" p) [e, .Name T p2] [] pos) (.bl c) M1 := de_callB (call_isE Cc hz hf) (rc_isE h) hm bt_isinstance (da_cons he (da_cons (de_cls hT hgT hdT) da_nil h2) h1) hg (by decide) (by decide) h1 hpl
theorem de_isET {Dx : Addr} {aE : Addr} {oe : Obj} {pn : List (Addr × Obj)} {n : String} {T : Str} {c : Bool} {p2 : Pos} (Cc : ExcC X.K Dx) (hz : Zc (.ref Dx) none oe) (hf : ∃ vs, oe.data = .fields vs) (he : DE (X.suite aE ((aE, oe) :: pn)) M env e (.adr aE) M1) (h : PySem.W.kitOne X.K (.ref Dx) (.type n) = some c) (hT : bootBuiltins T = some (.type n)) (hm : X.mg "isinstance" = none) (hmT : X.mg T = none)
    (hg : Gl (X.suite aE ((aE, oe) :: pn)) "isinstance" := by rfl) (hgT : Gl (X.suite aE ((aE, oe) :: pn)) T := by rfl) (hn : T ≠ "__name__" := by decide) (hdT : (T == ("__debug__" : Str)) = false := by decide)
    (h1 : starEach [e, .Name T p2] (X.suite aE ((aE, oe) :: pn)).env = (false, eval e (X.suite aE ((aE, oe) :: pn)).env) :: starEach [.Name T p2] (X.suite aE ((aE, oe) :: pn)).env := by rfl) (h2 : starEach [.Name T p2] (X.suite aE ((aE, oe) :: pn)).env = (false, eval (.Name T p2) (X.suite aE ((aE, oe) :: pn)).env) :: starEach [] (X.suite aE ((aE, oe) :: pn)).env := by rfl) (hpl : (backTo pos (starEach [.Name T p2] (X.suite aE ((aE, oe) :: pn)).env)).any (·.1) = false := by rfl) :
    DE (X.suite aE ((aE, oe) :: pn)) M env (.Call (.Name "isinstance" p) [e, .Name T p2] [] pos) (.bl c) M1 := de_callB (call_isE Cc hz hf) (rc_isET h) hm bt_isinstance (da_cons he (da_cons (de_ty hmT hT hgT hn hdT) da_nil h2) h1) hg (by decide) (by decide) h1 hpl

/-! ### list(reversed(xs)) -/
end
section
variable {prog : Program} {w : World} {A : Around} {E : Value → Shared → Prop} {s : Shared}
theorem call_list_rev {it l : Addr} {items : Array Value} {Q : Value → Shared → Prop} (hh : A.handled = none) (hit : s.heap.IsRevIter it l ((items.size : Int) - 1)) (hl : s.heap.IsList l items) (hne : l ≠ it) (hn : items.size ≤ sizeLine)
    (hQ : ∀ (h' : Heap) (tk : Nat) (acc : Array Value) (c' : Nat), (∀ b o, b ≠ it → s.heap.get? b = some o → h'.get? b = some o) → h'.get? s.heap.objs.size = some { cls := .type "list", dict := none, data := .seq acc c', slots := #[] } →
      ItemsOf (fun i v => items[items.size - 1 - i]? = some v) acc items.size → Q (.ref s.heap.objs.size) { s with heap := h', toks := tk }) :
    wpAny (model prog w) A (call (.type "list") [.ref it]) Q E s := by
  refine callType_codes (Q₁ := fun obj s₁ => obj = .ref s.heap.objs.size ∧ s₁ = { s with heap := s.heap.push { cls := .type "list", data := .seq #[] } }) PySem.F.called_list (PySem.F.typeCall_list_1 _) PySem.F.entry_list_init
    (code_list_new _ ⟨rfl, rfl⟩) fun obj s₁ h₁ => ?_
  obtain ⟨rfl, rfl⟩ := h₁
  have W := (Walks.listRev (prog := prog) (w := w) (A := A.in1.in1) hh it l hne items).toS
  obtain ⟨oi, hoi, _⟩ := id hit
  obtain ⟨ol, hol, _⟩ := id hl
  have hSi : s.heap.objs.size ≠ it := Nat.ne_of_gt (Heap.lt_size hoi)
  have hSl : s.heap.objs.size ≠ l := Nat.ne_of_gt (Heap.lt_size hol)
  have hSf : s.heap.objs.size ∉ [it, l] := by simp only [List.mem_cons, List.not_mem_nil, or_false, not_or]; exact ⟨hSi, hSl⟩
  have hS : (s.heap.push { cls := .type "list", data := .seq #[] }).get? s.heap.objs.size = some { cls := .type "list", data := .seq #[] } := Heap.get?_push_size _ rfl
  refine ⟨⟨_, hS, rfl⟩, PySem.F.args_list_init_2 _ _, ?_⟩
  generalize hg : s.heap.push { cls := .type "list", data := .seq #[] } = h1 at hS ⊢
  have kp1 : ∀ b o, s.heap.get? b = some o → h1.get? b = some o := fun b o e => by rw [← hg]; exact Heap.get?_push_of_some _ e
  show wpAny _ _ (do let old ← Builtin.List.listItems (.ref s.heap.objs.size); Builtin.List.listUpdate (.ref s.heap.objs.size) (fun _ => #[]); letGo old.toList.reverse; Builtin.List.listExtendWith (.ref s.heap.objs.size) (.ref it) .none) _ _ _
  refine wpAny_bind ?_
  unfold Builtin.List.listItems
  refine wpAny_bind (wpAny_seqItems hS rfl (wpAny_pure ?_))
  show wpAny _ _ (updateSeq s.heap.objs.size (fun _ => #[]) >>= fun _ => letGo (#[] : Array Value).toList.reverse >>= fun _ => Builtin.List.listExtendWith (.ref s.heap.objs.size) (.ref it) .none) _ _ _
  refine wpAny_bind (wpAny_updateSeq hS rfl ?_)
  have hS₂ := Heap.get?_update_self (Obj.mapSeq (fun _ => (#[] : Array Value))) hS rfl
  have oth : ∀ b o, b ≠ s.heap.objs.size → h1.get? b = some o → (h1.update s.heap.objs.size (Obj.mapSeq (fun _ => (#[] : Array Value)))).get? b = some o :=
    fun b o hb e => (Heap.get?_update_other _ _ (Ne.symm hb)).trans e
  generalize hg2 : h1.update s.heap.objs.size (Obj.mapSeq (fun _ => (#[] : Array Value))) = h2 at hS₂ oth ⊢
  refine wpAny_bind (wpAny_letGo ?_)
  have hit1 : h2.IsRevIter it l ((items.size : Int) - 1) := hit.at fun o e => oth _ _ hSi.symm (kp1 _ _ e)
  have hl1 : h2.IsList l items := hl.at fun o e => oth _ _ hSl.symm (kp1 _ _ e)
  have hT : ({ s with heap := h2 } : Shared).TypeIs (.ref it) "list_reverseiterator" := Heap.IsRevIter.typeIs (s := { s with heap := h2 }) hit1
  have h1' : Builtin.List.listSameRef (.ref s.heap.objs.size) (.ref it) = false := by simp [Builtin.List.listSameRef, hSi]
  unfold Builtin.List.listExtendWith
  refine wpAny_bind (wpAny_typeOf hT ?_)
  rw [if_neg (by rw [h1']; decide)]
  refine wpAny_bind (wpAny_pyIter_revIter (s := { s with heap := h2 }) hit1 ?_)
  refine wpAny_bind (wpAny_holding ?_)
  unfold Builtin.List.listLengthHint
  refine wpAny_bind (wpAny_specialOf hT RT.nolen_lri ?_)
  show wpAny _ _ (specialOf (Value.ref it) (Str.ofString "__length_hint__") >>= _) _ _ _
  refine wpAny_bind (wpAny_specialOf hT RT.hint_lri ?_)
  generalize hid : ("list_reverseiterator.__length_hint__" : String) = id0
  wp_delta
  rw [show splitId id0 = some ("list_reverseiterator", "__length_hint__") from by subst hid; decide +kernel]
  subst hid
  refine wpAny_bind (wpAny_isInstance (b := true) hT (by rw [isSubtype_type]; kernel_rfl) ?_)
  refine wpAny_pure ?_
  rw [if_neg (by decide)]
  have e0 : ((items.size : Nat) : Int) - 1 - ((0 : Nat) : Int) = (items.size : Int) - 1 := by omega
  refine wpAny_pure ⟨plainId_quiet PySem.F.plain_extend_loop _, codeAny_extend_loopS W hn _ hSf _ items.size 0 _ _ _ rfl (Nat.zero_le _) ⟨Nat.zero_le _, by rw [e0]; exact hit1, hl1⟩ hS₂ (ItemsOf.nil _) fun s' acc' c' hm hS' hacc => ?_⟩
  rw [Moved.eq_with hm]
  refine ⟨rfl, hQ s'.heap s'.toks acc' c' (fun b o hb e => hm.heap b o (fun hmem => ?_) (oth _ _ (Nat.ne_of_lt (Heap.lt_size e)) (kp1 _ _ e))) hS' hacc⟩
  rcases List.mem_cons.mp hmem with e' | hmem
  · exact absurd (Heap.lt_size e) (by rw [e']; exact Nat.lt_irrefl _)
  · exact hb (List.mem_singleton.mp hmem)
end
section
variable {X : Cx} {M M1 M2 M3 : List C} {env : EnvD} {a b o e : Expr} {es : List Expr} {x y z d : D} {ds : List D} {pos p apos cpos : Pos} {rest : List Stmt} {Fi : Fin} {f m : Str} {k : Nat} {ps : List Str} {Sg : List D → Out → Prop} {Cl : Addr}
def tLstRev (K : PySem.W.Frag) (te : TE) : TE := fun σ H Q => te σ H fun v H1 => ∃ (a : Addr) (xs : List V), v = .ref a ∧ SqL K H1 a xs ∧ ∀ q, H1 q = none → Q (.ref q) (upd H1 q (.lst xs.reverse))
theorem pe_lstRev {te : TE} {p p2 pos pos2 : Pos} (hc : X.calm = true) (hg : Gl X "list") (hm : X.mg "list" = none) (hg2 : Gl X "reversed") (hm2 : X.mg "reversed" = none) (he : PE X e te)
    (hs : starEach [e] X.env = (false, eval e X.env) :: starEach [] X.env := by rfl)
    (hs2 : starEach [.Call (.Name "reversed" p2) [e] [] pos2] X.env = (false, eval (.Call (.Name "reversed" p2) [e] [] pos2) X.env) :: starEach [] X.env := by rfl) :
    PE X (.Call (.Name "list" p) [.Call (.Name "reversed" p2) [e] [] pos2] [] pos) (tLstRev X.K te) := by
  refine ⟨fun pins s σ H Q I h => ?_⟩
  refine Call_ (ld_blt I hg hm PyProof.Rows.boot_list (PyProof.Rows.callWith_type1 (args_cons (Call_ (ld_blt I hg2 hm2 PyProof.Rows.boot_reversed (PyProof.Rows.callWith_type1 (args_cons (thn (he.run pins s σ H _ I h) fun u s1 ⟨v, H1, I1, r1, q1⟩ => args_nil ?_) hs) hs rfl))) hs2) hs2 rfl))
  obtain ⟨a, xs, ev, hq, q⟩ := q1
  subst ev
  obtain rfl : u = Value.ref a := r1
  obtain ⟨its, rv, p', hz⟩ := I1.list hq
  refine call_reversed_list p'.isList (args_nil ?_)
  have k0 : ∀ b o, s1.heap.get? b = some o → (s1.heap.push (revObj a ((its.toArray.size : Int) - 1))).get? b = some o := fun b o e => Heap.get?_push_of_some _ e
  have hl := p'.isList
  obtain ⟨ol, hol, _⟩ := id hl
  have hne : a ≠ s1.heap.objs.size := Nat.ne_of_lt (Heap.lt_size hol)
  have hn : its.toArray.size ≤ sizeLine := by rw [List.size_toArray, ← rv.length]; exact hz
  refine call_list_rev (s := { s1 with heap := s1.heap.push (revObj a ((its.toArray.size : Int) - 1)) }) (I1.ok.hd hc) ⟨_, Heap.get?_push_size _ rfl, rfl, rfl⟩ (hl.push _) hne hn fun h' tk acc c' hk hS hi => ?_
  have hsz : (s1.heap.push (revObj a ((its.toArray.size : Int) - 1))).objs.size = s1.heap.objs.size + 1 := by simp [Heap.push]
  have hle : s1.heap.objs.size ≤ (s1.heap.push (revObj a ((its.toArray.size : Int) - 1))).objs.size := by rw [hsz]; exact Nat.le_succ _
  refine ⟨.ref _, upd H1 _ (.lst xs.reverse), I1.laid (t' := tk) (fun c o e => hk c o (Nat.ne_of_lt (Heap.lt_size e)) (k0 c o e)) hle (show ObjOk X.prog X.w _ _ _ (.lst xs.reverse) from ⟨by rw [List.length_reverse]; exact hz, acc.toList, c', RT.vals_rev rv hi, ?_⟩), rfl, q _ (I1.hok.fresh hle)⟩
  rw [Array.toArray_toList]
  exact hS
theorem Rps.reverse {K : PySem.W.Frag} {A : Fps} {G : Hp} : ∀ {vs : List V} {ds : List D}, Rps K A G vs ds → Rps K A G vs.reverse ds.reverse
  | _, _, .nil => .nil
  | _, _, .cons r t => by
    rw [List.reverse_cons, List.reverse_cons]
    exact (Rps.reverse t).append (.one r)
theorem df_rev {p p2 pos2 : Pos} (he : DE X M env e x M1) (hl : Lh M1 x ds) (hm : X.mg "list" = none) (hm2 : X.mg "reversed" = none) (hc : X.calm = true := by rfl) (hg : Gl X "list" := by rfl) (hg2 : Gl X "reversed" := by rfl)
    (hs : starEach [e] X.env = (false, eval e X.env) :: starEach [] X.env := by rfl)
    (hs2 : starEach [.Call (.Name "reversed" p2) [e] [] pos2] X.env = (false, eval (.Call (.Name "reversed" p2) [e] [] pos2) X.env) :: starEach [] X.env := by rfl) :
    DF X M env (.Call (.Name "list" p) [.Call (.Name "reversed" p2) [e] [] pos2] [] pos) ds.reverse M1 := fun σ H F A S L Q q => by
  refine sE (pe_lstRev hc hg hm hg2 hm2 (semE X e) hs hs2) ?_
  refine he σ H F A S L _ fun v H1 A1 s1 S1 rv => ?_
  obtain ⟨qa, vs, rfl, h1, g1⟩ := hl.at S1 rv
  exact ⟨qa, vs, rfl, .inl (.inl h1), fun pn hp => q pn _ H1 _ A1 s1 S1 hp (same_new hp) upd_same g1.reverse⟩
end

/-! ### the end -/
def sgLaw : List D → Out → Prop := fun ds o => ∃ ns, ds = [.scr ns] ∧ ns.length ≤ 63 ∧ o = .ok (.bl true)
theorem vw_no {H : Hp} : Vw (fun _ => False) [] H = H := by
  funext a
  unfold Vw
  rw [if_neg]
  rintro (z | ⟨fp, h, _⟩)
  · exact z
  · exact nomatch h
theorem cx_no {P : Program} {w : World} {H : Hp} {s : Shared} {e : Value} {s' : Shared} (h : L2.CX P w [] H s (fun _ _ _ => False) e s') : False := by
  obtain ⟨_, _, _, _, _, _, _, _, _, _, _, _, z⟩ := h
  exact z.elim
theorem kit_sub {K : PySem.W.Frag} {A B : Addr} {b : Bool} (h : PySem.W.subIn K (.ref A) (.ref B) = some b) (hs : PySem.W.subIn K (.ref B) (.ref B) = some true) (hd : PySem.W.hasDictIn K B = true) (ht : PySem.W.typeIn K (.ref B) = some (.type "type")) : PySem.W.kitOne K (.ref A) (.ref B) = some b := by
  unfold PySem.W.kitOne
  split
  · rename_i e
    have e := eq_of_beq e
    rw [e, hs] at h
    exact h
  · obtain ⟨cd, hc, _⟩ := PySem.W.any_some hd
    have e2 : ((PySem.W.clsIn K B).isSome && PySem.W.typeIn K (.ref B) == some (.type "type")) = true := by rw [hc, ht] <;> rfl
    show (if ((PySem.W.clsIn K B).isSome && PySem.W.typeIn K (.ref B) == some (.type "type")) = true then PySem.W.subIn K (.ref A) (.ref B) else none) = some b
    rw [if_pos e2]
    exact h
theorem kit_subT {K : PySem.W.Frag} {A : Addr} {T : String} (h : PySem.W.subIn K (.ref A) (.type T) = some true) (hm : PySem.W.kitMeta T = true) : PySem.W.kitOne K (.ref A) (.type T) = some true := by
  unfold PySem.W.kitOne
  rw [if_neg (by simp [BEq.beq])]
  show (if PySem.W.kitMeta T = true then PySem.W.subIn K (.ref A) (.type T) else none) = some true
  rw [if_pos hm]
  exact h
end KT
namespace KT
open PySem PySem.Spec PyProof.Rows L2

theorem fit {r : D} {M : List C} (h : r.nl = true) : (Fits (.ok r)).rt r M := Res.flat h
theorem fitR {r d : D} {M : List C} (h : Res M r d) : (Fits (.ok d)).rt r M := h
theorem fitO {r : D} {M : List C} : (Fits (.own r M)).rt r M := ⟨rfl, rfl⟩
theorem rngD_at {lo : Int} {n i : Nat} {d : D} (h : (rngD lo n)[i]? = some d) : i < n ∧ d = .int (lo + (i : Nat)) := by
  have hl := (List.getElem?_eq_some_iff.mp h).1
  rw [rngD_length] at hl
  rw [rngD_get hl] at h
  exact ⟨hl, (Option.some.inj h).symm⟩
theorem atI_of {xs : List D} {i : Int} {j : Nat} {d : D} (h : i = j) (hx : xs[j]? = some d) : atI xs i = some d := by
  subst h
  have hl := (List.getElem?_eq_some_iff.mp hx).1
  unfold atI ixN
  rw [if_pos (by omega), if_pos (by omega)]
  simpa using hx
/-! texts as lists of signs -/
abbrev S (xs : List Nat) : Str := ⟨xs.toArray⟩
theorem S_list (xs : List Nat) : (S xs).cps.toList = xs := by simp [S]
theorem S_len (xs : List Nat) : (S xs).length = xs.length := by simp [S, Str.length]
theorem S_app (xs ys : List Nat) : S xs ++ S ys = S (xs ++ ys) := by
  show Str.append (S xs) (S ys) = S (xs ++ ys)
  simp [Str.append, S]
theorem S_inj {xs ys : List Nat} (h : S xs = S ys) : xs = ys := by
  have := congrArg (fun s : Str => s.cps.toList) h
  simpa [S] using this
theorem S_eq (xs ys : List Nat) : decide (S xs = S ys) = decide (xs = ys) := by
  by_cases h : xs = ys
  · subst h; simp
  · rw [decide_eq_false h, decide_eq_false fun e => h (S_inj e)]
theorem sgnD_at {ls : List Nat} {i : Nat} {d : D} (h : (sgnD (S ls))[i]? = some d) : ∃ l, ls[i]? = some l ∧ d = .str (S [l]) := by
  unfold sgnD at h
  rw [S_list, List.getElem?_map] at h
  cases e : ls[i]? with
  | none => rw [e] at h; cases h
  | some l => rw [e] at h; exact ⟨l, rfl, (Option.some.inj h).symm⟩
theorem sgnD_len (ls : List Nat) : (sgnD (S ls)).length = ls.length := by simp [sgnD, S]
theorem cutS_S (ls : List Nat) (i j : Option Int) : cutS (S ls) i j = S ((ls.drop (HT.sIx ls.length 0 i)).take (HT.sIx ls.length ls.length j - HT.sIx ls.length 0 i)) := by
  unfold cutS
  rw [S_list, S_len]
theorem flt_all {α : Type} (xs : List α) : xs.filter (fun _ => true) = xs := List.filter_eq_self.mpr fun _ _ => rfl
mutual
/-- data is like itself -/
theorem eqv_refl : ∀ d : D, d.pur = true → PyData.eqv d.py d.py = true
  | .non, _ => by simp [D.py, PyData.eqv]
  | .bl _, _ => by simp [D.py, PyData.eqv]
  | .int _, _ => by simp [D.py, PyData.eqv]
  | .str _, _ => by simp [D.py, PyData.eqv]
  | .lst ds, h => by rw [D.py, PyData.eqv]; exact eqv_refls ds (by rw [D.pur] at h; exact h)
  | .tup ds, h => by rw [D.py, PyData.eqv]; exact eqv_refls ds (by rw [D.pur] at h; exact h)
  | .obj _ _, n => by simp [D.pur] at n
  | .loc _, n => by simp [D.pur] at n
  | .adr _, n => by simp [D.pur] at n
  | .scr _, n => by simp [D.pur] at n
  | .ty _, n => by simp [D.pur] at n
theorem eqv_refls : ∀ ds : List D, purs ds = true → PyData.eqvAll (pys ds) (pys ds) = true
  | [], _ => by simp [pys, PyData.eqvAll]
  | d :: ds, h => by
    rw [purs, Bool.and_eq_true] at h
    simp only [pys, PyData.eqvAll, eqv_refl d h.1, eqv_refls ds h.2, Bool.and_self]
end
theorem purs_map {α : Type} (f : α → D) (xs : List α) (h : ∀ x, (f x).pur = true) : purs (xs.map f) = true := by
  induction xs with
  | nil => rfl
  | cons x xs ih => rw [List.map_cons, purs, h, ih]; rfl
theorem deps_map {α : Type} (f : α → D) (k : Nat) (xs : List α) (h : ∀ x, (f x).dep ≤ k) : deps (xs.map f) ≤ k := by
  induction xs with
  | nil => simp [deps]
  | cons x xs ih => rw [List.map_cons, deps]; exact Nat.max_le.mpr ⟨h x, ih⟩
section
variable {X : Cx} {M M1 M2 M3 : List C} {env : EnvD} {a b o e : Expr} {es : List Expr} {x y z d : D} {ds : List D} {pos p apos cpos : Pos} {rest : List Stmt} {Fi : Fin} {f m : Str} {k : Nat} {ps : List Str} {Sg : List D → Out → Prop} {Cl : Addr}
theorem de_lenI {f : Str} {p : Pos} {xs : List Int} (hl : Ls M1 x (xs.map D.int)) (hm : X.mg f = none) (hv : bootBuiltins f = some (.builtin "len")) (ha : DA X M env [e] [x] M1) (hg : Gl X f := by rfl) (hn : f ≠ "__name__" := by decide) (hdb : (f == ("__debug__" : Str)) = false := by decide)
    (he : starEach [e] X.env = (false, eval e X.env) :: starEach [] X.env := by rfl) (hpl : (backTo pos (starEach [] X.env)).any (·.1) = false := by rfl) : DE X M env (.Call (.Name f p) [e] [] pos) (.int (xs.length : Int)) M1 :=
  (de_lenL hl hm hv ha hg hn hdb he hpl).is (by rw [List.length_map])
/-- y = [..], its items told -/
theorem db_setLcE {elt iter : Expr} {ifs : List Expr} {scope : Scope} {own : List (Str × Nat)} {x y : Str} {px py spos : Pos} {cond : List C → Prop} {out : List D} (i j : Nat) (c : D → Bool) (g : D → D) (hi : DI X M env (.Name x px) iter cond ds M1) (hcd : cond M1) (ok : BlkOk X.N X.env.scope scope own) (hN : X.N.Nodup)
    (hlen : ds.length ≤ 100000) (heq : (ds.filter c).map g = out)
    (ht : ∀ (s : Shared) (H : Hp) (Cc : Addr) (cl : List (Str × Addr)) (fp : List Addr) (d : D), d ∈ ds → DTs (X.blk s H scope (compEnvC scope cl Cc X.env) fp) M1 ((wipeE env (own.map (·.2))).set j (some d)) ifs (c d) M1)
    (he : ∀ (s : Shared) (H : Hp) (Cc : Addr) (cl : List (Str × Addr)) (fp : List Addr) (d : D), d ∈ ds → c d = true → DE (X.blk s H scope (compEnvC scope cl Cc X.env) fp) M1 ((wipeE env (own.map (·.2))).set j (some d)) elt (g d) M1)
    (hr : DB X (M1 ++ [.lst out]) (env.set i (some (.loc M1.length))) rest Fi)
    (hj : j ∈ own.map (·.2) := by simp) (hjx : X.N[j]? = some x := by rfl) (hx : ∀ (s : Shared) (H : Hp) (Cc : Addr) (cl : List (Str × Addr)) (fp : List Addr), Loc (X.blk s H scope (compEnvC scope cl Cc X.env) fp).env.scope x := by exact fun _ _ _ _ _ => by first | exact Or.inl rfl | exact Or.inr rfl)
    (hf : ∀ (s : Shared) (H : Hp) (Cc : Addr) (cl : List (Str × Addr)) (fp : List Addr), (X.blk s H scope (compEnvC scope cl Cc X.env) fp).fn x = true ∨ (X.blk s H scope (compEnvC scope cl Cc X.env) fp).env.scope.names.lookup x = some .local := by exact fun _ _ _ _ _ => by first | exact .inr rfl | exact .inl rfl)
    (hy : X.N[i]? = some y := by rfl) (hyl : X.env.scope.names.lookup y = some .local := by rfl)
    (hsw : swapsWith (.ListComp elt [⟨.Name x px, iter, ifs, 0⟩] scope pos) (some (.Name y py)) spos.line X.env = pure true := by exact sw_true rfl rfl rfl (by decide +kernel))
    (hc : X.calm = true := by rfl) (hs : ∀ x, foldedSetIterable iter X.env x = pure x := by intro _; rfl) : DB X M env (.Assign [.Name y py] (.ListComp elt [⟨.Name x px, iter, ifs, 0⟩] scope pos) spos :: rest) Fi :=
  db_setLc i j c g hi hcd ok hN hlen ht he (by rw [heq]; exact hr) hj hjx hx hf hy hyl hsw hc hs
/-- for t in range(n) -/
theorem db_forR (t : Nat) {tx : Str} {tp p : Pos} {body : List Stmt} {n : Nat} (ha : DA X M env [a] [.int n] M1) (hm : X.mg "range" = none) (hn : n ≤ 100000) (hN : X.N.Nodup) (J : Nat → List C → EnvD → Prop) (h0 : J 0 M1 env)
    (hs : ∀ i M' env', i < n → J i M' env' → DB X M' (env'.set t (some (.int i))) body ⟨J (i + 1), Fi.rt, fun M2 e2 => DB X M2 e2 rest Fi, J (i + 1), Fi.ex⟩) (hd : ∀ M' env', J n M' env' → DB X M' env' rest Fi)
    (hp : PassesOwn (model X.prog X.w) X.A X.env X.xe) (hi : X.N[t]? = some tx := by rfl) (hx : Loc X.env.scope tx := by first | exact Or.inl rfl | exact Or.inr rfl) (hf : X.fn tx = true ∨ X.env.scope.names.lookup tx = some .local := by first | exact .inl rfl | exact .inr rfl)
    (hc : X.calm = true := by rfl) (hfs : ∀ x, foldedSetIterable (.Call (.Name "range" p) [a] [] pos) X.env x = pure x := by intro _; rfl) (hg : Gl X "range" := by rfl) (hse : starEach [a] X.env = [(false, eval a X.env)] := by rfl) : DB X M env (.For (.Name tx tp) (.Call (.Name "range" p) [a] [] pos) body [] cpos :: rest) Fi :=
  db_for (di_rng1 ha hm (by omega) hg hse) J h0 (fun _ _ _ _ => trivial) (fun i d M' env' hd' hJ => by
    obtain ⟨h1, rfl⟩ := rngD_at hd'
    rw [Int.zero_add]
    exact ⟨_, dg_name t hN hi hx hf, hs i M' env' h1 hJ⟩) (fun M' env' hJ => hd M' env' (by rw [rngD_length] at hJ; exact hJ)) hp hc hfs
/-- for t in range(lo, hi) -/
theorem db_forR2 (t : Nat) {tx : Str} {tp p : Pos} {body : List Stmt} {lo hi : Int} (ha : DA X M env [a, b] [.int lo, .int hi] M1) (hm : X.mg "range" = none) (hn : 0 ≤ lo ∧ lo ≤ 100000 ∧ 0 ≤ hi ∧ hi ≤ 100000) (hN : X.N.Nodup) (J : Nat → List C → EnvD → Prop) (h0 : J 0 M1 env)
    (hs : ∀ i M' env', i < (hi - lo).toNat → J i M' env' → DB X M' (env'.set t (some (.int (lo + (i : Nat))))) body ⟨J (i + 1), Fi.rt, fun M2 e2 => DB X M2 e2 rest Fi, J (i + 1), Fi.ex⟩) (hd : ∀ M' env', J (hi - lo).toNat M' env' → DB X M' env' rest Fi)
    (hp : PassesOwn (model X.prog X.w) X.A X.env X.xe) (hi : X.N[t]? = some tx := by rfl) (hx : Loc X.env.scope tx := by first | exact Or.inl rfl | exact Or.inr rfl) (hf : X.fn tx = true ∨ X.env.scope.names.lookup tx = some .local := by first | exact .inl rfl | exact .inr rfl)
    (hc : X.calm = true := by rfl) (hfs : ∀ x, foldedSetIterable (.Call (.Name "range" p) [a, b] [] pos) X.env x = pure x := by intro _; rfl) (hg : Gl X "range" := by rfl) (hse : starEach [a, b] X.env = [(false, eval a X.env), (false, eval b X.env)] := by rfl) (hse2 : starEach [b] X.env = [(false, eval b X.env)] := by rfl) :
    DB X M env (.For (.Name tx tp) (.Call (.Name "range" p) [a, b] [] pos) body [] cpos :: rest) Fi :=
  db_for (di_rng2 ha hm (by omega) hg hse hse2) J h0 (fun _ _ _ _ => trivial) (fun i d M' env' hd' hJ => by
    obtain ⟨h1, rfl⟩ := rngD_at hd'
    exact ⟨_, dg_name t hN hi hx hf, hs i M' env' h1 hJ⟩) (fun M' env' hJ => hd M' env' (by rw [rngD_length] at hJ; exact hJ)) hp hc hfs
/-- for t in xs -/
theorem db_forL (t : Nat) {tx : Str} {tp : Pos} {iter : Expr} {body : List Stmt} {cond : List C → Prop} (hi' : DI X M env (.Name tx tp) iter cond ds M1) (hN : X.N.Nodup) (J : Nat → List C → EnvD → Prop) (h0 : J 0 M1 env) (hcd : ∀ i M' env', J i M' env' → cond M')
    (hs : ∀ i d M' env', ds[i]? = some d → J i M' env' → DB X M' (env'.set t (some d)) body ⟨J (i + 1), Fi.rt, fun M2 e2 => DB X M2 e2 rest Fi, J (i + 1), Fi.ex⟩) (hd : ∀ M' env', J ds.length M' env' → DB X M' env' rest Fi)
    (hp : PassesOwn (model X.prog X.w) X.A X.env X.xe) (hi : X.N[t]? = some tx := by rfl) (hx : Loc X.env.scope tx := by first | exact Or.inl rfl | exact Or.inr rfl) (hf : X.fn tx = true ∨ X.env.scope.names.lookup tx = some .local := by first | exact .inl rfl | exact .inr rfl)
    (hc : X.calm = true := by rfl) (hfs : ∀ x, foldedSetIterable iter X.env x = pure x := by intro _; rfl) : DB X M env (.For (.Name tx tp) iter body [] cpos :: rest) Fi :=
  db_for hi' J h0 hcd (fun i d M' env' hd' hJ => ⟨_, dg_name t hN hi hx hf, hs i d M' env' hd' hJ⟩) hd hp hc hfs
/-- isinstance(e, T) of data of a known kind -/
theorem de_isk {n t : String} {c : Bool} {T : Str} {p2 : Pos} (he : DE X M env e x M1) (h : kitB t n = some c) (hT : bootBuiltins T = some (.type n)) (hm : X.mg "isinstance" = none) (hmT : X.mg T = none) (ht : x.tyn = t := by rfl) (hx : t ≠ "" := by decide) (hg : Gl X "isinstance" := by rfl) (hgT : Gl X T := by rfl) (hn : T ≠ "__name__" := by decide) (hdT : (T == ("__debug__" : Str)) = false := by decide)
    (h1 : starEach [e, .Name T p2] X.env = (false, eval e X.env) :: starEach [.Name T p2] X.env := by rfl) (h2 : starEach [.Name T p2] X.env = (false, eval (.Name T p2) X.env) :: starEach [] X.env := by rfl) (hpl : (backTo pos (starEach [.Name T p2] X.env)).any (·.1) = false := by rfl) :
    DE X M env (.Call (.Name "isinstance" p) [e, .Name T p2] [] pos) (.bl c) M1 := by
  subst ht
  exact de_isi he h hT hm hmT hx hg hgT hn hdT h1 h2 hpl
theorem sh_lst_ints (n : Nat) (xs : List Int) : C.sh n (.lst (xs.map D.int)) = .lst (xs.map D.int) := by rw [C.sh, shs_ints]
theorem sh_loc0 (n : Nat) : (D.loc 0).sh n = .loc n := by rw [D.sh]; rfl
/-- a call, a method's call: the answer a new list of ints, ours -/
theorem de_meth0L {pl : Sem Bool} {xs : List Int} (Mt : Mtd X.prog X.w X.K X.mg X.base Cl m k ps (spX X.K Sg)) (cl : Cls X.K Cl) (hr : Room k X.A) (ho : DE X M env o x M1) (hob : Ob M1 Cl m x) (hs : Sg [x] (.own (.loc 0) [.lst (xs.map .int)])) (hn : x.nl = true)
    (ht : eval (.Call (.Attribute o m apos) [] [] pos) X.env = (do
      let ov ← eval o X.env
      standAt apos.atName
      let (f, first) ← holding [ov] (getMethod ov m pl)
      callWith pos f first (backTo pos (starEach [] X.env)) (backToKw pos (keywordEach [] X.env))) := by rfl) : DE X M env (.Call (.Attribute o m apos) [] [] pos) (.loc M1.length) (M1 ++ [.lst (xs.map .int)]) := by
  have h := de_meth0O (M1 := M1) Mt cl hr ho hob hs hn ht
  rw [sh_loc0, List.map_cons, List.map_nil, sh_lst_ints] at h
  exact h
theorem de_methL {pl : Sem Bool} {xs : List Int} (Mt : Mtd X.prog X.w X.K X.mg X.base Cl m k ps (spX X.K Sg)) (cl : Cls X.K Cl) (hr : Room k X.A) (ho : DE X M env o x M1) (hob : Ob M1 Cl m x) (ha : DA X M1 env (e :: es) ds M2) (hs : Sg (x :: ds) (.own (.loc 0) [.lst (xs.map .int)]))
    (hn : nls (x :: ds) = true)
    (hst : starEach (e :: es) X.env = (false, eval e X.env) :: starEach es X.env := by rfl) (hpl : (backTo pos (starEach es X.env)).any (·.1) = false := by rfl)
    (ht : eval (.Call (.Attribute o m apos) (e :: es) [] pos) X.env = (do
      let ov ← eval o X.env
      standAt apos.atName
      let (f, first) ← holding [ov] (getMethod ov m pl)
      callWith pos f first (backTo pos (starEach (e :: es) X.env)) (backToKw pos (keywordEach [] X.env))) := by rfl) : DE X M env (.Call (.Attribute o m apos) (e :: es) [] pos) (.loc M2.length) (M2 ++ [.lst (xs.map .int)]) := by
  have h := de_methO (M1 := M1) Mt cl hr ho hob ha hs hn hst hpl ht
  rw [sh_loc0, List.map_cons, List.map_nil, sh_lst_ints] at h
  exact h
theorem de_callL {xs : List Int} {x : Str} (Df : Dfn X.prog X.w X.K X.mg X.base x k ps (spX X.K Sg)) (hr : Room k X.A) (ha : DA X M env (e :: es) ds M1) (hs : Sg ds (.own (.loc 0) [.lst (xs.map .int)])) (hn : nls ds = true := by first | rfl | simp [nls, D.nl, nls_ints, nl_ints, nls_strs, nl_strs]) (hg : Gl X x := by rfl) (hdb : (x == ("__debug__" : Str)) = false := by decide)
    (he : starEach (e :: es) X.env = (false, eval e X.env) :: starEach es X.env := by rfl) (hpl : (backTo pos (starEach es X.env)).any (·.1) = false := by rfl) : DE X M env (.Call (.Name x p) (e :: es) [] pos) (.loc M1.length) (M1 ++ [.lst (xs.map .int)]) := by
  have h := de_callO (p := p) Df hr ha hs hn hg hdb he hpl
  rw [sh_loc0, List.map_cons, List.map_nil, sh_lst_ints] at h
  exact h
/-- texts of signs: len, + , in, ==, loops -/
theorem de_lenC {f : Str} {p : Pos} {ls : List Nat} (hl : ls.length ≤ 100000) (hm : X.mg f = none) (hv : bootBuiltins f = some (.builtin "len")) (ha : DA X M env [e] [.str (S ls)] M1) (hg : Gl X f := by rfl) (hn : f ≠ "__name__" := by decide) (hdb : (f == ("__debug__" : Str)) = false := by decide)
    (he : starEach [e] X.env = (false, eval e X.env) :: starEach [] X.env := by rfl) (hpl : (backTo pos (starEach [] X.env)).any (·.1) = false := by rfl) : DE X M env (.Call (.Name f p) [e] [] pos) (.int (ls.length : Int)) M1 :=
  (de_lenS (by rw [S_len]; exact hl) hm hv ha hg hn hdb he hpl).is (by rw [S_len])
theorem de_addC {s t : List Nat} (ha : DE X M env a (.str (S s)) M1) (hb : DE X M1 env b (.str (S t)) M2) (hl : s.length + t.length ≤ 100000) : DE X M env (.BinOp a .Add b pos) (.str (S (s ++ t))) M2 :=
  (de_addS ha hb (by rw [S_len, S_len]; exact hl)).is (by rw [S_app])
theorem de_strC {xs : List Nat} {s : Str} {j : Nat} {pos : Pos} (h : s = S xs) : DE X M env (.Constant (.str s) j pos) (.str (S xs)) M := de_str.is (by rw [h])
theorem dt_inC {c : Nat} {s : Str} {xs : List Nat} (ha : DE X M env a (.str (S [c])) M1) (hb : DE X M1 env b (.str s) M2) (h : s.cps.toList = xs) (hm : behindInMarks .In b = false := by rfl) : DT X M env (.Compare a [.In] [b] pos) (decide (c ∈ xs)) M2 := (dt_inS ha hb hm).is (by rw [h])
theorem dt_ninC {c : Nat} {s : Str} {xs : List Nat} (ha : DE X M env a (.str (S [c])) M1) (hb : DE X M1 env b (.str s) M2) (h : s.cps.toList = xs) (hm : behindInMarks .NotIn b = false := by rfl) : DT X M env (.Compare a [.NotIn] [b] pos) (!decide (c ∈ xs)) M2 := (dt_ninS ha hb hm).is (by rw [h])
theorem dt_eqC {c x : Nat} {s : Str} (ha : DE X M env a (.str (S [c])) M1) (hb : DE X M1 env b (.str s) M2) (h : s = S [x]) : DT X M env (.Compare a [.Eq] [b] pos) (decide (c = x)) M2 := (dt_eqS ha hb).is (by rw [h, S_eq]; simp)
theorem de_ixC {i : Nat} {ls : List Nat} {c : Nat} (ha : DE X M env a (.str (S ls)) M1) (hb : DE X M1 env b (.int (i : Int)) M2) (hz : ls.length ≤ 100000) (h : ls[i]? = some c) (hs : PlainIx b := by exact fun _ _ => rfl) : DE X M env (.Subscript a b pos) (.str (S [c])) M2 :=
  de_ixS ha hb (by rw [S_len]; exact hz) (by
    rw [S_list]
    have hl := (List.getElem?_eq_some_iff.mp h).1
    unfold atI ixN
    rw [if_pos (by omega), if_pos (by omega)]
    simpa using h) hs
theorem de_ifC {c : Expr} {q : Bool} {u v : Nat} {s1 s2 : Str} {j1 j2 : Nat} {p1 p2 : Pos} (hc : DT X M env c q M1) (h1 : s1 = S [u]) (h2 : s2 = S [v]) : DE X M env (.IfExp c (.Constant (.str s1) j1 p1) (.Constant (.str s2) j2 p2) pos) (.str (S [if q = true then u else v])) M1 :=
  de_if hc (fun h => de_str.is (by rw [h, h1]; rfl)) (fun h => de_str.is (by rw [h, h2]; rfl))
theorem db_forS (t : Nat) {tx : Str} {tp : Pos} {iter : Expr} {body : List Stmt} {ls : List Nat} (hi' : DE X M env iter (.str (S ls)) M1) (hN : X.N.Nodup) (J : Nat → List C → EnvD → Prop) (h0 : J 0 M1 env)
    (hs : ∀ i l M' env', ls[i]? = some l → J i M' env' → DB X M' (env'.set t (some (.str (S [l])))) body ⟨J (i + 1), Fi.rt, fun M2 e2 => DB X M2 e2 rest Fi, J (i + 1), Fi.ex⟩) (hd : ∀ M' env', J ls.length M' env' → DB X M' env' rest Fi)
    (hp : PassesOwn (model X.prog X.w) X.A X.env X.xe) (hi : X.N[t]? = some tx := by rfl) (hx : Loc X.env.scope tx := by first | exact Or.inl rfl | exact Or.inr rfl) (hf : X.fn tx = true ∨ X.env.scope.names.lookup tx = some .local := by first | exact .inl rfl | exact .inr rfl)
    (hc : X.calm = true := by rfl) (hfs : ∀ x, foldedSetIterable iter X.env x = pure x := by intro _; rfl) : DB X M env (.For (.Name tx tp) iter body [] cpos :: rest) Fi :=
  db_for (di_str hi') J h0 (fun _ _ _ _ => trivial) (fun i d M' env' hd' hJ => by
    obtain ⟨l, h1, rfl⟩ := sgnD_at hd'
    exact ⟨_, dg_name t hN hi hx hf, hs i l M' env' h1 hJ⟩) (fun M' env' hJ => hd M' env' (by rw [sgnD_len] at hJ; exact hJ)) hp hc hfs
/-- for t in range(n - 1, -1, -1) -/
def dwnD (n : Nat) : List D := (List.range n).map fun i => .int ((n : Int) - 1 - (i : Nat))
theorem dwnD_len (n : Nat) : (dwnD n).length = n := by simp [dwnD]
theorem dwnD_get {n i : Nat} (h : i < n) : (dwnD n)[i]? = some (.int ((n : Int) - 1 - (i : Nat))) := by simp [dwnD, h]
theorem dwnD_at {n i : Nat} {d : D} (h : (dwnD n)[i]? = some d) : i < n ∧ d = .int ((n : Int) - 1 - (i : Nat)) := by
  have hl := (List.getElem?_eq_some_iff.mp h).1
  simp [dwnD] at hl
  simp [dwnD, hl] at h
  exact ⟨hl, h.symm⟩
theorem di_dwn {tg a b c : Expr} {p : Pos} {n : Nat} (ha : DA X M env [a, b, c] [.int ((n : Int) - 1), .int (-1), .int (-1)] M1) (hm : X.mg "range" = none) (hn : n ≤ 100000) (hg : Gl X "range" := by rfl)
    (hs : starEach [a, b, c] X.env = (false, eval a X.env) :: starEach [b, c] X.env := by rfl) (hpl : (backTo pos (starEach [b, c] X.env)).any (·.1) = false := by rfl) :
    DI X M env tg (.Call (.Name "range" p) [a, b, c] [] pos) (fun _ => True) (dwnD n) M1 := fun σ H F A S L R k => by
  refine sI (pi_range3 hg hm (semA X _) hs hpl) ?_
  refine ha σ H F A S L _ fun vs H1 A1 t1 S1 r1 => ?_
  cases r1 with
  | cons r0 r1 =>
    cases r1 with
    | cons r1 r2 =>
      cases r2 with
      | cons r2 r3 =>
      cases r3
      cases r0
      cases r1
      cases r2
      have e : ((n : Int) - 1 - -1).toNat = n := by omega
      refine ⟨_, _, _, _, rfl, RgC.neg (by omega) (by omega) (by omega) (by omega), k _ H1 A1 t1 S1 ?_⟩
      rw [e]
      exact ⟨fun i A M H _ _ _ hi => by rw [dwnD_len] at hi; exact hi, fun i A M H x H' _ _ _ hy hi => by
        obtain ⟨e, rfl⟩ := hy
        rw [dwnD_len] at hi
        refine ⟨e, .int ((n : Int) - 1 - (i : Nat)), dwnD_get hi, ?_⟩
        have : (n : Int) - 1 + (i : Nat) * -1 = (n : Int) - 1 - (i : Nat) := by omega
        rw [this]
        exact .int _, fun i A M H _ _ _ hi => by rw [dwnD_len] at hi; exact hi, fun i H H0 x H' _ hy => ⟨rfl, hy.2⟩⟩
theorem db_forDn (t : Nat) {tx : Str} {tp p : Pos} {c : Expr} {body : List Stmt} {n : Nat} (ha : DA X M env [a, b, c] [.int ((n : Int) - 1), .int (-1), .int (-1)] M1) (hm : X.mg "range" = none) (hn : n ≤ 100000) (hN : X.N.Nodup) (J : Nat → List C → EnvD → Prop) (h0 : J 0 M1 env)
    (hs : ∀ i M' env', i < n → J i M' env' → DB X M' (env'.set t (some (.int ((n : Int) - 1 - (i : Nat))))) body ⟨J (i + 1), Fi.rt, fun M2 e2 => DB X M2 e2 rest Fi, J (i + 1), Fi.ex⟩) (hd : ∀ M' env', J n M' env' → DB X M' env' rest Fi)
    (hp : PassesOwn (model X.prog X.w) X.A X.env X.xe) (hi : X.N[t]? = some tx := by rfl) (hx : Loc X.env.scope tx := by first | exact Or.inl rfl | exact Or.inr rfl) (hf : X.fn tx = true ∨ X.env.scope.names.lookup tx = some .local := by first | exact .inl rfl | exact .inr rfl)
    (hc : X.calm = true := by rfl) (hfs : ∀ x, foldedSetIterable (.Call (.Name "range" p) [a, b, c] [] pos) X.env x = pure x := by intro _; rfl) (hg : Gl X "range" := by rfl)
    (hse : starEach [a, b, c] X.env = (false, eval a X.env) :: starEach [b, c] X.env := by rfl) (hpl : (backTo pos (starEach [b, c] X.env)).any (·.1) = false := by rfl) :
    DB X M env (.For (.Name tx tp) (.Call (.Name "range" p) [a, b, c] [] pos) body [] cpos :: rest) Fi :=
  db_for (di_dwn ha hm hn hg hse hpl) J h0 (fun _ _ _ _ => trivial) (fun i d M' env' hd' hJ => by
    obtain ⟨h1, rfl⟩ := dwnD_at hd'
    exact ⟨_, dg_name t hN hi hx hf, hs i M' env' h1 hJ⟩) (fun M' env' hJ => hd M' env' (by rw [dwnD_len] at hJ; exact hJ)) hp hc hfs
/-- both ways out of an if meet -/
theorem db_ifK {c : Expr} {u v : List Stmt} {q : Bool} (P : List C → EnvD → Prop) (hc : DT X M env c q M1) (ha : q = true → DB X M1 env u { Fi with nx := P }) (hb : q = false → DB X M1 env v { Fi with nx := P }) (hr : ∀ M' env', P M' env' → DB X M' env' rest Fi) : DB X M env (.If c u v pos :: rest) Fi :=
  db_if hc (fun h => (ha h).imp (fun M' e' z => hr M' e' z) (fun _ _ z => z) (fun _ _ z => z) (fun _ _ z => z) (fun _ _ _ z => z)) (fun h => (hb h).imp (fun M' e' z => hr M' e' z) (fun _ _ z => z) (fun _ _ z => z) (fun _ _ z => z) (fun _ _ _ z => z))
theorem de_lenT {f : Str} {p : Pos} (hm : X.mg f = none) (hv : bootBuiltins f = some (.builtin "len")) (ha : DA X M env [e] [.tup ds] M1) (hg : Gl X f := by rfl) (hn : f ≠ "__name__" := by decide) (hdb : (f == ("__debug__" : Str)) = false := by decide)
    (he : starEach [e] X.env = (false, eval e X.env) :: starEach [] X.env := by rfl) (hpl : (backTo pos (starEach [] X.env)).any (·.1) = false := by rfl) : DE X M env (.Call (.Name f p) [e] [] pos) (.int ds.length) M1 := de_callB call_len_seq rc_lenT hm hv ha hg hn hdb he hpl
theorem dt_neB {u v : Bool} (ha : DE X M env a (.bl u) M1) (hb : DE X M1 env b (.bl v) M2) : DT X M env (.Compare a [.NotEq] [b] pos) (u != v) M2 := (dt_neF ha hb).is (by rw [show (D.bl u).v = V.bl u from rfl, show (D.bl v).v = V.bl v from rfl, dV_bl]; cases u <;> cases v <;> rfl)
theorem names_of {x : Str} {c : Value} (hm : X.mg x = some c) (hg : Gl X x := by rfl) (hdb : (x == ("__debug__" : Str)) = false := by decide) : Names X x c := ⟨hg, hdb, .inl hm⟩
end
end KT
namespace KT
open PySem PySem.Spec PyProof.Rows L2

/-! ### callees that change the callers' cells -/
inductive OutM where
  | ok (d : D) (M : List C) | er (Ca : Addr) (M : List C)
def MeetM (K : PySem.W.Frag) (F : Addr → Prop) (A : Fps) (H : Hp) (o : OutM) (Q : VK) (E : Value → Hp → Prop) : Prop :=
  match o with
  | .ok d M' => ∀ v H' A', Stp A H A' H' → Sto K F A' M' H' → Rp K A' (Vw F A' H') v d → Q v H'
  | .er Ca M' => ∀ H' A', Stp A H A' H' → Sto K F A' M' H' → E (.ref Ca) H'
def spM (K : PySem.W.Frag) (Sg : List D → List C → OutM → Prop) : Sp := fun vs H Q E => ∃ (F : Addr → Prop) (A : Fps) (M : List C) (ds : List D) (o : OutM), Sto K F A M H ∧ Rps K A (Vw F A H) vs ds ∧ Sg ds M o ∧ MeetM K F A H o Q (fun c H' => E c none H')
def FitsM (o : OutM) : Fin where
  nx := fun M' _ => o = .ok .non M'
  rt := fun r M' => o = .ok r M'
  ex := fun Ca M' _ => o = .er Ca M'
theorem slots_startA {K : PySem.W.Frag} {A : Fps} {G : Hp} {N : List Str} {vs : List V} {ds : List D} (r : Rps K A G vs ds) : SlotsN K A G (startE N ds) (L2.start N vs) := by
  have hl := r.length
  refine ⟨by simp [startE, L2.start, hl], fun i d h => ?_⟩
  unfold startE at h
  unfold L2.start
  by_cases hi : i < ds.length
  · rw [List.getElem?_append_left (by simpa using hi), List.getElem?_map] at h
    cases e : ds[i]? with
    | none => rw [e] at h; cases h
    | some d' =>
      rw [e] at h
      cases h
      obtain ⟨v, h1, h2⟩ := r.get e
      refine ⟨v, ?_, h2⟩
      rw [List.getElem?_append_left (by rw [List.length_map, hl]; exact hi), List.getElem?_map, h1]
      rfl
  · rw [List.getElem?_append_right (by simpa using hi), List.getElem?_replicate] at h
    split at h <;> cases h
section
variable {P : Program} {w : World} {K : PySem.W.Frag} {mg : Str → Option Value} {base : Heap}
theorem okM {x qual : Str} {st : Stmt} {f : Addr} {fd : FuncData} {N ps : List Str} {k : Nat} {Sg : List D → List C → OutM → Prop} (F : Fun K x qual st f fd) (S : FnScope N ps (defScope st)) (len : ∀ ds M o, Sg ds M o → ds.length = ps.length)
    (hb : ∀ (cdv : Value) (A : Around) (outer : List PySem.Env) (s : Shared) (H : Hp) (E : XK) (ds : List D) (M : List C) (o : OutM), Room k (A.deeper (envOfC qual (defScope st) s.heap.objs.size f cdv)) → Sg ds M o →
      DB (cxOf (L2.CX P w) P w K mg base N qual (defScope st) f cdv A outer s H E) M (startE N ds) (defBody st) (FitsM o)) : FnOk P w K mg base (L2.CX P w) (k + 1) f fd ps (spM K Sg) := by
  refine F.okX S (fun vs H Q E ⟨Fh, Ah, M, ds, o, _, r, hs, _⟩ => by rw [r.length]; exact len ds M o hs) (fun cdv A outer s H vs Q E hr ⟨Fh, Ah, M, ds, o, hS, r, hs, q⟩ => ?_)
  refine ⟨_, semSs _ _, ?_⟩
  refine hb cdv A outer s H E ds M o hr hs (L2.start N vs) H Fh Ah hS (slots_startA r) _ (fun cls d _ H' => E cls d H') (takes_of rfl rfl rfl rfl) ⟨fun M' env' σ' H' A' h t S' L' => ?_, fun d M' v H' A' h t S' r' => ?_, (fun _ _ _ _ _ h => h.elim), (fun _ _ _ _ _ h => h.elim), fun Ca M' env' σ' H' A' h t S' _ => ?_⟩
  · have h : o = .ok .non M' := h
    subst h
    exact q .non H' A' t S' .non
  · have h : o = .ok d M' := h
    subst h
    exact q v H' A' t S' r'
  · have h : o = .er Ca M' := h
    subst h
    exact q H' A' t S'
end
section
variable {X : Cx} {M M1 M2 M3 : List C} {env : EnvD} {a b o e : Expr} {es : List Expr} {x y z d : D} {ds : List D} {pos p apos cpos : Pos} {rest : List Stmt} {Fi : Fin} {f m : Str} {k : Nat} {ps : List Str} {Sg : List D → List C → OutM → Prop} {Cl : Addr}
theorem de_callM {x : Str} (Df : Dfn X.prog X.w X.K X.mg X.base x k ps (spM X.K Sg)) (hr : Room k X.A) (ha : DA X M env (e :: es) ds M1) (hs : Sg ds M1 (.ok d M2)) (hg : Gl X x := by rfl) (hdb : (x == ("__debug__" : Str)) = false := by decide)
    (he : starEach (e :: es) X.env = (false, eval e X.env) :: starEach es X.env := by rfl) (hpl : (backTo pos (starEach es X.env)).any (·.1) = false := by rfl) : DE X M env (.Call (.Name x p) (e :: es) [] pos) d M2 := fun σ H F A S L Q q => by
  refine s_call Df hr takes0 ?_ hg hdb he hpl
  refine ha σ H F A S L _ fun vs H1 A1 t1 S1 r1 => ?_
  exact ⟨F, A1, M1, ds, .ok d M2, S1, r1, hs, fun v H2 A2 t2 S2 r2 => q v H2 A2 (t1.trans t2) S2 r2⟩
theorem dx_callM {x : Str} {Ca : Addr} (Df : Dfn X.prog X.w X.K X.mg X.base x k ps (spM X.K Sg)) (hr : Room k X.A) (ha : DA X M env (e :: es) ds M1) (hs : Sg ds M1 (.er Ca M2)) (hg : Gl X x := by rfl) (hdb : (x == ("__debug__" : Str)) = false := by decide)
    (he : starEach (e :: es) X.env = (false, eval e X.env) :: starEach es X.env := by rfl) (hpl : (backTo pos (starEach es X.env)).any (·.1) = false := by rfl) : DX X M env (.Call (.Name x p) (e :: es) [] pos) Ca M2 := fun σ H F A S L W tk q Q => by
  refine s_call Df hr tk ?_ hg hdb he hpl
  refine ha σ H F A S L _ fun vs H1 A1 t1 S1 r1 => ?_
  exact ⟨F, A1, M1, ds, .er Ca M2, S1, r1, hs, fun H2 A2 t2 S2 => q H2 A2 (t1.trans t2) S2⟩
theorem s_methG {sp : Sp} {pl : Sem Bool} {σ : L2.St} {H : Hp} {Q : VK} {W : WX} (Mt : Mtd X.prog X.w X.K X.mg X.base Cl m k ps sp) (cl : Cls X.K Cl) (hr : Room k X.A) (tk : Takes X W)
    (h : SemE X o σ H fun x H1 => ∃ a dx fs, x = .ref a ∧ H1 a = some (.ins Cl dx fs) ∧ fs.lookup m = none ∧ SemA X (e :: es) σ H1 fun vs H2 => sp (x :: vs) H2 Q (WE W σ))
    (hst : starEach (e :: es) X.env = (false, eval e X.env) :: starEach es X.env := by rfl) (hpl : (backTo pos (starEach es X.env)).any (·.1) = false := by rfl)
    (ht : eval (.Call (.Attribute o m apos) (e :: es) [] pos) X.env = (do
      let ov ← eval o X.env
      standAt apos.atName
      let (f, first) ← holding [ov] (getMethod ov m pl)
      callWith pos f first (backTo pos (starEach (e :: es) X.env)) (backToKw pos (keywordEach [] X.env))) := by rfl) : SemE X (.Call (.Attribute o m apos) (e :: es) [] pos) σ H Q := fun pins s I => by
  obtain ⟨f, fd, hm, hb, F⟩ := Mt.ex
  refine PySem.W.methodCall_KW (pl := pl) (thn (h pins s I) fun u s1 ⟨x, H1, I1, rx, a, dx, fs, ex, ea, l, q⟩ => ?_) ht
  subst ex
  obtain rfl : u = Value.ref a := rx
  refine getmeth_ok I1 ea cl hm l ?_
  refine PySem.W.callWith_K (first := [.ref a]) (h₀ := X.base) I.ok.mod.kin hm.kp (thn (q pos pins s1 I1) fun us s2 ⟨vs, H2, I2, r, q2⟩ => ⟨I2.kIn, ?_⟩) hst hpl
  exact run_fnS (E := WE W) (us := .ref a :: us) (vs := .ref a :: vs) F hr hb (passAt tk σ) I2 (.cons rfl r) q2
theorem de_methM {pl : Sem Bool} (Mt : Mtd X.prog X.w X.K X.mg X.base Cl m k ps (spM X.K Sg)) (cl : Cls X.K Cl) (hr : Room k X.A) (ho : DE X M env o x M1) (hob : Ob M1 Cl m x) (ha : DA X M1 env (e :: es) ds M2) (hs : Sg (x :: ds) M2 (.ok d M3))
    (hst : starEach (e :: es) X.env = (false, eval e X.env) :: starEach es X.env := by rfl) (hpl : (backTo pos (starEach es X.env)).any (·.1) = false := by rfl)
    (ht : eval (.Call (.Attribute o m apos) (e :: es) [] pos) X.env = (do
      let ov ← eval o X.env
      standAt apos.atName
      let (f, first) ← holding [ov] (getMethod ov m pl)
      callWith pos f first (backTo pos (starEach (e :: es) X.env)) (backToKw pos (keywordEach [] X.env))) := by rfl) : DE X M env (.Call (.Attribute o m apos) (e :: es) [] pos) d M3 := fun σ H F A S L Q q => by
  refine s_methG Mt cl hr takes0 ?_ hst hpl ht
  refine ho σ H F A S L _ fun v H1 A1 t1 S1 r1 => ?_
  obtain ⟨qa, dx, fs, rfl, h1, h2⟩ := hob.at S1 r1
  refine ⟨qa, dx, fs, rfl, h1, h2, ?_⟩
  refine ha σ H1 F A1 S1 (L.stp S t1) _ fun vs H2 A2 t2 S2 r2 => ?_
  exact ⟨F, A2, M2, x :: ds, .ok d M3, S2, .cons (r1.stp S1 t2) r2, hs, fun v H3 A3 t3 S3 r3 => q v H3 A3 ((t1.trans t2).trans t3) S3 r3⟩
theorem dx_methM {pl : Sem Bool} {Ca : Addr} (Mt : Mtd X.prog X.w X.K X.mg X.base Cl m k ps (spM X.K Sg)) (cl : Cls X.K Cl) (hr : Room k X.A) (ho : DE X M env o x M1) (hob : Ob M1 Cl m x) (ha : DA X M1 env (e :: es) ds M2) (hs : Sg (x :: ds) M2 (.er Ca M3))
    (hst : starEach (e :: es) X.env = (false, eval e X.env) :: starEach es X.env := by rfl) (hpl : (backTo pos (starEach es X.env)).any (·.1) = false := by rfl)
    (ht : eval (.Call (.Attribute o m apos) (e :: es) [] pos) X.env = (do
      let ov ← eval o X.env
      standAt apos.atName
      let (f, first) ← holding [ov] (getMethod ov m pl)
      callWith pos f first (backTo pos (starEach (e :: es) X.env)) (backToKw pos (keywordEach [] X.env))) := by rfl) : DX X M env (.Call (.Attribute o m apos) (e :: es) [] pos) Ca M3 := fun σ H F A S L W tk q Q => by
  refine s_methG Mt cl hr tk ?_ hst hpl ht
  refine ho σ H F A S L _ fun v H1 A1 t1 S1 r1 => ?_
  obtain ⟨qa, dx, fs, rfl, h1, h2⟩ := hob.at S1 r1
  refine ⟨qa, dx, fs, rfl, h1, h2, ?_⟩
  refine ha σ H1 F A1 S1 (L.stp S t1) _ fun vs H2 A2 t2 S2 r2 => ?_
  exact ⟨F, A2, M2, x :: ds, .er Ca M3, S2, .cons (r1.stp S1 t2) r2, hs, fun H3 A3 t3 S3 => q H3 A3 ((t1.trans t2).trans t3) S3⟩

/-! ### reading with the cells seen whole -/
inductive Rese (M : List C) : EnvD → EnvD → Prop
  | nil : Rese M [] []
  | no {u : Option D} {env env' : EnvD} : Rese M env env' → Rese M (u :: env) (none :: env')
  | yes {d d' : D} {env env' : EnvD} : Res M d d' → Rese M env env' → Rese M (some d :: env) (some d' :: env')
theorem Rese.get {M : List C} : ∀ {env env' : EnvD} {i : Nat} {d' : D}, Rese M env env' → env'[i]? = some (some d') → ∃ d, env[i]? = some (some d) ∧ Res M d d'
  | _, _, _, _, .nil, h => by simp at h
  | _, _, 0, _, .no _, h => by simp at h
  | _, _, i + 1, _, .no t, h => by
    obtain ⟨d, h1, h2⟩ := Rese.get (i := i) t (by simpa using h)
    exact ⟨d, by simpa using h1, h2⟩
  | _, _, 0, _, .yes r _, h => by simp at h; subst h; exact ⟨_, rfl, r⟩
  | _, _, i + 1, _, .yes _ t, h => by
    obtain ⟨d, h1, h2⟩ := Rese.get (i := i) t (by simpa using h)
    exact ⟨d, by simpa using h1, h2⟩
theorem Rese.slots {K : PySem.W.Frag} {F : Addr → Prop} {A : Fps} {H : Hp} {σ : L2.St} {env' : EnvD} (S : Sto K F A M H) (hR : Rese M env env') (L : Slots K A (Vw F A H) env σ) : Slots K [] (Vw F [] H) env' σ := fun i d' h => by
  obtain ⟨d, h1, h2⟩ := hR.get h
  obtain ⟨v, g1, g2⟩ := L i d h1
  exact ⟨v, g1, Res.rp S h2 g2⟩
theorem sto_end {K : PySem.W.Frag} {F : Addr → Prop} {A : Fps} {H : Hp} (S : Sto K F A [] H) : A = [] := List.length_eq_zero_iff.mp S.len
theorem de_snap {env' : EnvD} (hR : Rese M env env') (hE : DE X [] env' e d []) (hd : d.imm = true := by rfl) : DE X M env e d M := fun σ H F A S L Q q => by
  refine hE σ H F [] (sto_nil S.hid) (hR.slots S L) Q fun v H1 A1 t1 S1 r1 => ?_
  have := sto_end S1
  subst this
  have s1 := t1.nil
  exact q v H1 A (Stp.same s1) (S.same s1) (Rp.imm (S.same s1) _ _ hd r1)
theorem dt_snap {env' : EnvD} {c : Bool} (hR : Rese M env env') (hE : DT X [] env' e c []) : DT X M env e c M := fun σ H F A S L Q q => by
  refine hE σ H F [] (sto_nil S.hid) (hR.slots S L) Q fun H1 A1 t1 S1 => ?_
  have := sto_end S1
  subst this
  have s1 := t1.nil
  exact q H1 A (Stp.same s1) (S.same s1)
theorem dx_snap {env' : EnvD} {Ca : Addr} (hR : Rese M env env') (hE : DX X [] env' e Ca []) : DX X M env e Ca M := fun σ H F A S L W tk q Q => by
  refine hE σ H F [] (sto_nil S.hid) (hR.slots S L) W tk (fun H1 A1 t1 S1 => ?_) Q
  have := sto_end S1
  subst this
  have s1 := t1.nil
  exact q H1 A (Stp.same s1) (S.same s1)
end

/-! ### a cell of many addresses changes -/
theorem Sto.re {K : PySem.W.Frag} {F : Addr → Prop} {A : Fps} {M : List C} {H H2 : Hp} (S : Sto K F A M H) {k : Nat} {fp ps : List Addr} (hk : A[k]? = some fp) (hps : ∀ a ∈ ps, H a = none) (keep : ∀ a o, H a = some o → a ∉ fp → H2 a = some o)
    (all : ∀ a, a ∈ fp ++ ps → H2 a ≠ none) {c : C} (hl : k < M.length) (hc : Stp A H (A.set k (fp ++ ps)) H2 → Cell K (A.set k (fp ++ ps)) (Vw F (A.set k (fp ++ ps)) H2) H2 (fp ++ ps) c) :
    Sto K F (A.set k (fp ++ ps)) (M.set k c) H2 ∧ Stp A H (A.set k (fp ++ ps)) H2 := by
  have hkl : k < A.length := (List.getElem?_eq_some_iff.mp hk).1
  have hm : fp ∈ A := List.mem_of_getElem? hk
  have mem : ∀ (i : Nat) (gp : List Addr), (A.set k (fp ++ ps))[i]? = some gp → (i = k ∧ gp = fp ++ ps) ∨ (i ≠ k ∧ A[i]? = some gp) := fun i gp h => by
    by_cases e : i = k
    · subst e
      rw [List.getElem?_set_self hkl] at h
      exact .inl ⟨rfl, (Option.some.inj h).symm⟩
    · rw [List.getElem?_set_ne (Ne.symm e)] at h
      exact .inr ⟨e, h⟩
  have idx : ∀ gp ∈ A.set k (fp ++ ps), ∃ i, (A.set k (fp ++ ps))[i]? = some gp := fun gp h => List.mem_iff_getElem?.mp h
  have other : ∀ (i : Nat) (gp : List Addr), i ≠ k → A[i]? = some gp → ∀ a ∈ gp, a ∉ fp := fun i gp hi hg a ha hf => hi (S.dis i k gp fp a hg hk ha hf)
  have keep2 : ∀ (i : Nat) (gp : List Addr), i ≠ k → A[i]? = some gp → ∀ a ∈ gp, ∀ o, H a = some o → H2 a = some o := fun i gp hi hg a ha o e => keep a o e (other i gp hi hg a ha)
  have st : Stp A H (A.set k (fp ++ ps)) H2 := ⟨fun a o e hn => keep a o e (hn fp hm), fun i gp hg => by
    by_cases e : i = k
    · subst e
      rw [hk] at hg
      cases hg
      exact ⟨ps, List.getElem?_set_self hkl⟩
    · exact ⟨[], by rw [List.append_nil, List.getElem?_set_ne (Ne.symm e)]; exact hg⟩, fun gp hg a ha => by
    obtain ⟨i, hi⟩ := idx gp hg
    rcases mem i gp hi with ⟨_, rfl⟩ | ⟨_, h⟩
    · rcases List.mem_append.mp ha with ha | ha
      · exact .inl ⟨fp, hm, ha⟩
      · exact .inr (hps a ha)
    · exact .inl ⟨gp, List.mem_of_getElem? h, ha⟩⟩
  refine ⟨⟨fun a ha z => ?_, fun gp hg a ha => ?_, fun i j gp hp a hi hj ha hb => ?_, fun j c' hj => ?_, by rw [List.length_set, List.length_set]; exact S.len⟩, st⟩
  · cases q : H a with
    | none => exact S.hid a ha q
    | some o =>
      have := keep a o q fun hf => (S.trk fp hm a hf).2 ha
      rw [z] at this; cases this
  · obtain ⟨i, hi⟩ := idx gp hg
    rcases mem i gp hi with ⟨_, rfl⟩ | ⟨ne, h⟩
    · refine ⟨all a ha, fun z => ?_⟩
      rcases List.mem_append.mp ha with ha | ha
      · exact (S.trk fp hm a ha).2 z
      · exact S.hid a z (hps a ha)
    · have h1 := S.trk gp (List.mem_of_getElem? h) a ha
      refine ⟨fun z => ?_, h1.2⟩
      cases q : H a with
      | none => exact h1.1 q
      | some o =>
        have := keep2 i gp ne h a ha o q
        rw [z] at this; cases this
  · rcases mem i gp hi with ⟨e1, rfl⟩ | ⟨n1, h1⟩
    · rcases mem j hp hj with ⟨e2, rfl⟩ | ⟨n2, h2⟩
      · rw [e1, e2]
      · rcases List.mem_append.mp ha with ha | ha
        · exact absurd ha (other j hp n2 h2 a hb)
        · exact absurd (hps a ha) (S.trk hp (List.mem_of_getElem? h2) a hb).1
    · rcases mem j hp hj with ⟨e2, rfl⟩ | ⟨n2, h2⟩
      · rcases List.mem_append.mp hb with hb | hb
        · exact absurd hb (other i gp n1 h1 a ha)
        · exact absurd (hps a hb) (S.trk gp (List.mem_of_getElem? h1) a ha).1
      · exact S.dis i j gp hp a h1 h2 ha hb
  · by_cases e : j = k
    · subst e
      rw [List.getElem?_set_self hl] at hj
      cases hj
      exact ⟨fp ++ ps, List.getElem?_set_self hkl, hc st⟩
    · rw [List.getElem?_set_ne (Ne.symm e)] at hj
      obtain ⟨gp, g1, g2⟩ := S.cells j c' hj
      exact ⟨gp, by rw [List.getElem?_set_ne (Ne.symm e)]; exact g1, g2.keep (st.view S.hid) st.pre (keep2 j gp e g1)⟩
end KT
namespace KT
open PySem PySem.Spec PyProof.Rows L2

/-! ### a book's own cells -/
def bkF (s p w y : Addr) : List (Str × V) := [("sexes", .ref s), ("parents", .ref p), ("wedded", .ref w), ("young", .ref y)]
structure BkC (K : PySem.W.Frag) (A : Fps) (G H : Hp) (CB : Addr) (B : Bk) (fp : List Addr) (b dx s p w y : Addr) (was yas : List Addr) (pvs : List V) : Prop where
  hd : ∃ r, fp = b :: r
  mem : ∀ a, a ∈ fp ↔ a = b ∨ a = s ∨ a = p ∨ a = w ∨ a = y ∨ a ∈ was ∨ a ∈ yas
  nd : ([b, s, p, w, y] ++ was ++ yas).Nodup
  hb : H b = some (.ins CB dx (bkF s p w y))
  hs : H s = some (.lst (B.sexes.map V.str))
  hp : H p = some (.lst pvs)
  rp : Rps K A G pvs (B.parents.map parD)
  hw : H w = some (.lst (was.map V.ref))
  iw : Inner H was B.wedded
  hy : H y = some (.lst (yas.map V.ref))
  iy : Inner H yas B.young
theorem BkC.cell {K : PySem.W.Frag} {A : Fps} {G H : Hp} {CB : Addr} {B : Bk} {fp : List Addr} {b dx s p w y : Addr} {was yas : List Addr} {pvs : List V} (c : BkC K A G H CB B fp b dx s p w y was yas pvs) : Cell K A G H fp (.bk CB B) := by
  obtain ⟨r, e⟩ := c.hd
  exact ⟨b, dx, s, p, w, y, was, yas, pvs, r, e, c.mem, c.nd, c.hb, c.hs, c.hp, c.rp, c.hw, c.iw, c.hy, c.iy⟩
section
variable {K : PySem.W.Frag} {F : Addr → Prop} {A : Fps} {M : List C} {H : Hp}
theorem Sto.bkAt (S : Sto K F A M H) {k : Nat} {CB : Addr} {B : Bk} (hm : M[k]? = some (.bk CB B)) {v : V} (rv : Rp K A (Vw F A H) v (.loc k)) :
    ∃ fp b dx s p w y was yas pvs, v = .ref b ∧ A[k]? = some fp ∧ BkC K A (Vw F A H) H CB B fp b dx s p w y was yas pvs := by
  cases rv with
  | @loc _ q r' hA =>
    obtain ⟨b, dx, s, p', w, y, was, yas, pvs, r, h1, h2, h3, h4, h5, h6, h7, h8, h9, h10, h11⟩ := S.cell hm hA
    cases h1
    exact ⟨_, q, dx, s, p', w, y, was, yas, pvs, rfl, hA, ⟨_, rfl⟩, h2, h3, h4, h5, h6, h7, h8, h9, h10, h11⟩
structure BkN (b s p w y : Addr) (was yas : List Addr) : Prop where
  bs : b ≠ s
  bp : b ≠ p
  bw : b ≠ w
  by' : b ≠ y
  sp : s ≠ p
  sw : s ≠ w
  sy : s ≠ y
  pw : p ≠ w
  py : p ≠ y
  wy : w ≠ y
  ow : ∀ a ∈ was, a ≠ b ∧ a ≠ s ∧ a ≠ p ∧ a ≠ w ∧ a ≠ y ∧ a ∉ yas
  oy : ∀ a ∈ yas, a ≠ b ∧ a ≠ s ∧ a ≠ p ∧ a ≠ w ∧ a ≠ y ∧ a ∉ was
  nw : was.Nodup
  ny : yas.Nodup
theorem bkN {b s p w y : Addr} {was yas : List Addr} (h : ([b, s, p, w, y] ++ was ++ yas).Nodup) : BkN b s p w y was yas := by
  rw [List.nodup_append] at h
  obtain ⟨h1, h2, h3⟩ := h
  rw [List.nodup_append] at h1
  obtain ⟨h4, h5, h6⟩ := h1
  simp only [List.nodup_cons, List.mem_cons, List.not_mem_nil, or_false, not_or] at h4
  obtain ⟨⟨a1, a2, a3, a4⟩, ⟨a5, a6, a7⟩, ⟨a8, a9⟩, a10, _⟩ := h4
  have q1 : ∀ x ∈ ([b, s, p, w, y] : List Addr), ∀ a ∈ was, a ≠ x := fun x hx a ha e => h6 x hx a ha e.symm
  have q2 : ∀ x ∈ ([b, s, p, w, y] : List Addr), ∀ a ∈ yas, a ≠ x := fun x hx a ha e => h3 x (List.mem_append_left _ hx) a ha e.symm
  have q3 : ∀ a ∈ was, ∀ c ∈ yas, a ≠ c := fun a ha c hc => h3 a (List.mem_append_right _ ha) c hc
  exact ⟨a1, a2, a3, a4, a5, a6, a7, a8, a9, a10, fun a ha => ⟨q1 b (by simp) a ha, q1 s (by simp) a ha, q1 p (by simp) a ha, q1 w (by simp) a ha, q1 y (by simp) a ha, fun z => q3 a ha a z rfl⟩,
    fun a ha => ⟨q2 b (by simp) a ha, q2 s (by simp) a ha, q2 p (by simp) a ha, q2 w (by simp) a ha, q2 y (by simp) a ha, fun z => q3 a z a ha rfl⟩, h5, h2⟩
theorem Inner.snoc {H : Hp} {a : Addr} {xs : List Int} (h : H a = some (.lst (xs.map V.int))) : ∀ {as : List Addr} {xss : List (List Int)}, Inner H as xss → Inner H (as ++ [a]) (xss ++ [xs])
  | [], [], _ => ⟨h, trivial⟩
  | _ :: _, _ :: _, i => ⟨i.1, Inner.snoc h i.2⟩
  | [], _ :: _, i => i.elim
  | _ :: _, [], i => i.elim
theorem Inner.len {H : Hp} : ∀ {as : List Addr} {xss : List (List Int)}, Inner H as xss → as.length = xss.length
  | [], [], _ => rfl
  | _ :: _, _ :: _, i => by rw [List.length_cons, List.length_cons, Inner.len i.2]
  | [], _ :: _, i => i.elim
  | _ :: _, [], i => i.elim
theorem Inner.get {H : Hp} : ∀ {as : List Addr} {xss : List (List Int)} {j : Nat} {xs : List Int}, Inner H as xss → xss[j]? = some xs → ∃ a, as[j]? = some a ∧ H a = some (.lst (xs.map V.int))
  | [], [], _, _, _, h => by simp at h
  | a :: _, _ :: _, 0, _, i, h => by simp at h; subst h; exact ⟨a, rfl, i.1⟩
  | _ :: _, _ :: _, j + 1, _, i, h => by
    obtain ⟨a, h1, h2⟩ := Inner.get (j := j) i.2 (by simpa using h)
    exact ⟨a, by simpa using h1, h2⟩
  | [], _ :: _, _, _, i, _ => i.elim
  | _ :: _, [], _, _, i, _ => i.elim
theorem Inner.set {H : Hp} {a : Addr} {ys : List Int} : ∀ {as : List Addr} {xss : List (List Int)} {j : Nat}, as.Nodup → Inner H as xss → as[j]? = some a → Inner (upd H a (.lst (ys.map V.int))) as (xss.set j ys)
  | [], [], _, _, _, h => by simp at h
  | b :: as, xs :: xss, 0, n, i, h => by
    simp at h
    subst h
    refine ⟨upd_same, i.2.keep fun c hc o e => ?_⟩
    rw [upd_ne (a := b) (b := c) fun z => (List.nodup_cons.mp n).1 (by rw [← z]; exact hc)]
    exact e
  | b :: as, xs :: xss, j + 1, n, i, h => by
    have h' : as[j]? = some a := by simpa using h
    refine ⟨?_, Inner.set (List.nodup_cons.mp n).2 i.2 h'⟩
    rw [upd_ne (a := a) (b := b) fun z => (List.nodup_cons.mp n).1 (by rw [z]; exact List.mem_of_getElem? h')]
    exact i.1
  | [], _ :: _, _, _, i, _ => i.elim
  | _ :: _, [], _, _, i, _ => i.elim
end

/-! ### what reads and changes nothing -/
def DP (X : Cx) (M : List C) (env : EnvD) (e : Expr) (d : D) : Prop := ∀ (σ : L2.St) (H : Hp) (F : Addr → Prop) (A : Fps), Sto X.K F A M H → Slots X.K A (Vw F A H) env σ → ∃ v, Rp X.K A (Vw F A H) v d ∧ ∀ Q : VK, Q v H → SemE X e σ H Q
section
variable {X : Cx} {M M1 M2 M3 : List C} {env : EnvD} {a b o e : Expr} {es : List Expr} {x y z d : D} {ds : List D} {pos p apos cpos fpos : Pos} {rest : List Stmt} {Fi : Fin} {f m : Str} {k : Nat} {Cl : Addr} {B : Bk}
theorem dp_var (i : Nat) {x : Str} {d : D} (he : env[i]? = some (some d) := by rfl) (hN : X.N[i]? = some x := by rfl) (hv : Vis X.env.scope x := by first | exact Or.inl rfl | exact Or.inr (Or.inl rfl) | exact Or.inr (Or.inr rfl)) (hd : (x == ("__debug__" : Str)) = false := by decide)
    (hcd : (x == ("__classdict__" : Str)) = false := by decide) : DP X M env (.Name x pos) d := fun σ H F A S L => by
  obtain ⟨v, h1, h2⟩ := L i d he
  exact ⟨v, h2, fun Q q => sE (pe_var hN hv hd hcd) ⟨v, h1, q⟩⟩
theorem DP.de (h : DP X M env e d) : DE X M env e d M := fun σ H F A S L Q q => by
  obtain ⟨v, h1, h2⟩ := h σ H F A S L
  exact h2 Q (q v H A (Stp.refl A H) S h1)
/-- o.sexes.append(e), o.parents.append(e) -/
theorem de_bkSexes {z : Str} (ho : DP X M env o (.loc k)) (he : DP X M env e (.str z)) (hm : M[k]? = some (.bk Cl B)) (cl : Cls X.K Cl) (na : NoAttr X.K Cl "sexes") (hl : B.sexes.length < 100000)
    (hbf : attributeBase o "sexes" X.env (eval o X.env) = eval o X.env := by rfl) (hbase : attributeBase (.Attribute o "sexes" fpos) "append" X.env (eval (.Attribute o "sexes" fpos) X.env) = eval (.Attribute o "sexes" fpos) X.env := by rfl)
    (hfew : ((backTo cpos (starEach [e] X.env)).all (fun x => !x.1) && (backToKw cpos (keywordEach [] X.env)).all (fun x => x.1.isSome)
      && decide (([e] : List Expr).length + ([] : List Keyword).length + (if ([] : List Keyword).isEmpty then 0 else 1) < 30)) = true := by rfl)
    (hline : (apos.endLine == cpos.line) = true := by rfl) (hs : starEach [e] X.env = (false, eval e X.env) :: starEach [] X.env := by rfl) (hplain : (backTo cpos (starEach [] X.env)).any (·.1) = false := by rfl) :
    DE X M env (.Call (.Attribute (.Attribute o "sexes" fpos) "append" apos) [e] [] cpos) .non (M.set k (.bk Cl { B with sexes := B.sexes ++ [z] })) := fun σ H F A S L Q q => by
  refine sE (pe_bm PySem.F.plainAttrs_list PySem.F.slot_list_append PySem.F.type_list_append mt_append (pe_fld (semE X o) hbf) (semA X [e]) hbase hfew hline hs hplain) ?_
  obtain ⟨v, rv, hv⟩ := ho σ H F A S L
  refine hv _ ?_
  obtain ⟨fp, b, dx, s, p', w, y, was, yas, pvs, rfl, hA, c⟩ := S.bkAt hm rv
  have n := bkN c.nd
  have hkl := (List.getElem?_eq_some_iff.mp hm).1
  have live : ∀ a ∈ fp, H a ≠ none := fun a ha => (S.trk fp (List.mem_of_getElem? hA) a ha).1
  refine ⟨b, Cl, dx, _, .ref s, rfl, c.hb, cl, na, rfl, ?_⟩
  refine ⟨Or.inl ⟨rfl, _, SqL.of c.hs⟩, ?_⟩
  refine sA (pa_cons (semE X e) pa_nil hs) ?_
  obtain ⟨u, ru, hu⟩ := he σ H F A S L
  refine hu _ ?_
  cases ru
  have hsf : s ∈ fp := (c.mem s).mpr (.inr (.inl rfl))
  have R := S.re (ps := []) (H2 := upd H s (.lst (B.sexes.map V.str ++ [.str z]))) (c := .bk Cl { B with sexes := B.sexes ++ [z] }) hA (by simp) (fun a o e hf => by rw [upd_ne (a := s) (b := a) fun q => hf (by rw [q]; exact hsf)]; exact e) (fun a ha => by
    by_cases q : a = s
    · subst q; rw [upd_same]; simp
    · rw [upd_ne q]; exact live a (by simpa using ha)) hkl fun st => BkC.cell (b := b) (dx := dx) (s := s) (p := p') (w := w) (y := y) (was := was) (yas := yas) (pvs := pvs) ⟨by obtain ⟨r, e⟩ := c.hd; exact ⟨r, by simp [e]⟩, fun a => by rw [List.append_nil]; exact c.mem a, c.nd, by rw [upd_ne n.bs]; exact c.hb, by rw [upd_same, List.map_append]; rfl,
      by rw [upd_ne n.sp.symm]; exact c.hp, Rps.mono (st.view S.hid) st.pre _ _ c.rp, by rw [upd_ne n.sw.symm]; exact c.hw, c.iw.keep fun a ha o e => by rw [upd_ne (n.ow a ha).2.1]; exact e, by rw [upd_ne n.sy.symm]; exact c.hy, c.iy.keep fun a ha o e => by rw [upd_ne (n.oy a ha).2.1]; exact e⟩
  exact ⟨s, _, .str z, rfl, rfl, c.hs, by rw [List.length_map]; exact line_lt hl, q .non _ _ R.2 R.1 .non⟩
theorem de_bkParents {z : Option (Int × Int)} (ho : DP X M env o (.loc k)) (he : DP X M env e (parD z)) (hm : M[k]? = some (.bk Cl B)) (cl : Cls X.K Cl) (na : NoAttr X.K Cl "parents") (hl : B.parents.length < 100000)
    (hbf : attributeBase o "parents" X.env (eval o X.env) = eval o X.env := by rfl) (hbase : attributeBase (.Attribute o "parents" fpos) "append" X.env (eval (.Attribute o "parents" fpos) X.env) = eval (.Attribute o "parents" fpos) X.env := by rfl)
    (hfew : ((backTo cpos (starEach [e] X.env)).all (fun x => !x.1) && (backToKw cpos (keywordEach [] X.env)).all (fun x => x.1.isSome)
      && decide (([e] : List Expr).length + ([] : List Keyword).length + (if ([] : List Keyword).isEmpty then 0 else 1) < 30)) = true := by rfl)
    (hline : (apos.endLine == cpos.line) = true := by rfl) (hs : starEach [e] X.env = (false, eval e X.env) :: starEach [] X.env := by rfl) (hplain : (backTo cpos (starEach [] X.env)).any (·.1) = false := by rfl) :
    DE X M env (.Call (.Attribute (.Attribute o "parents" fpos) "append" apos) [e] [] cpos) .non (M.set k (.bk Cl { B with parents := B.parents ++ [z] })) := fun σ H F A S L Q q => by
  refine sE (pe_bm PySem.F.plainAttrs_list PySem.F.slot_list_append PySem.F.type_list_append mt_append (pe_fld (semE X o) hbf) (semA X [e]) hbase hfew hline hs hplain) ?_
  obtain ⟨v, rv, hv⟩ := ho σ H F A S L
  refine hv _ ?_
  obtain ⟨fp, b, dx, s, p', w, y, was, yas, pvs, rfl, hA, c⟩ := S.bkAt hm rv
  have n := bkN c.nd
  have hkl := (List.getElem?_eq_some_iff.mp hm).1
  have live : ∀ a ∈ fp, H a ≠ none := fun a ha => (S.trk fp (List.mem_of_getElem? hA) a ha).1
  refine ⟨b, Cl, dx, _, .ref p', rfl, c.hb, cl, na, rfl, ?_⟩
  refine ⟨Or.inl ⟨rfl, _, SqL.of c.hp⟩, ?_⟩
  refine sA (pa_cons (semE X e) pa_nil hs) ?_
  obtain ⟨u, ru, hu⟩ := he σ H F A S L
  refine hu _ ?_
  have hsf : p' ∈ fp := (c.mem p').mpr (.inr (.inr (.inl rfl)))
  have R := S.re (ps := []) (H2 := upd H p' (.lst (pvs ++ [u]))) (c := .bk Cl { B with parents := B.parents ++ [z] }) hA (by simp) (fun a o e hf => by rw [upd_ne (a := p') (b := a) fun q => hf (by rw [q]; exact hsf)]; exact e) (fun a ha => by
    by_cases q : a = p'
    · subst q; rw [upd_same]; simp
    · rw [upd_ne q]; exact live a (by simpa using ha)) hkl fun st => BkC.cell (b := b) (dx := dx) (s := s) (p := p') (w := w) (y := y) (was := was) (yas := yas) (pvs := pvs ++ [u]) ⟨by obtain ⟨r, e⟩ := c.hd; exact ⟨r, by simp [e]⟩, fun a => by rw [List.append_nil]; exact c.mem a, c.nd, by rw [upd_ne n.bp]; exact c.hb, by rw [upd_ne n.sp]; exact c.hs, upd_same,
      by rw [List.map_append]; exact (Rps.mono (st.view S.hid) st.pre _ _ c.rp).append (.one (ru.stp S st)), by rw [upd_ne n.pw.symm]; exact c.hw, c.iw.keep fun a ha o e => by rw [upd_ne (n.ow a ha).2.2.1]; exact e, by rw [upd_ne n.py.symm]; exact c.hy, c.iy.keep fun a ha o e => by rw [upd_ne (n.oy a ha).2.2.1]; exact e⟩
  exact ⟨p', _, u, rfl, rfl, c.hp, by rw [c.rp.length, List.length_map]; exact line_lt hl, q .non _ _ R.2 R.1 .non⟩
theorem de_bkWedded {lpos : Pos} (ho : DP X M env o (.loc k)) (hm : M[k]? = some (.bk Cl B)) (cl : Cls X.K Cl) (na : NoAttr X.K Cl "wedded") (hl : B.wedded.length < 100000)
    (hbf : attributeBase o "wedded" X.env (eval o X.env) = eval o X.env := by rfl) (hbase : attributeBase (.Attribute o "wedded" fpos) "append" X.env (eval (.Attribute o "wedded" fpos) X.env) = eval (.Attribute o "wedded" fpos) X.env := by rfl)
    (hfew : ((backTo cpos (starEach [.List [] lpos] X.env)).all (fun x => !x.1) && (backToKw cpos (keywordEach [] X.env)).all (fun x => x.1.isSome)
      && decide (([.List [] lpos] : List Expr).length + ([] : List Keyword).length + (if ([] : List Keyword).isEmpty then 0 else 1) < 30)) = true := by rfl)
    (hline : (apos.endLine == cpos.line) = true := by rfl) (hs : starEach [.List [] lpos] X.env = (false, eval (.List [] lpos) X.env) :: starEach [] X.env := by rfl) (hplain : (backTo cpos (starEach [] X.env)).any (·.1) = false := by rfl) :
    DE X M env (.Call (.Attribute (.Attribute o "wedded" fpos) "append" apos) [.List [] lpos] [] cpos) .non (M.set k (.bk Cl { B with wedded := B.wedded ++ [[]] })) := fun σ H F A S L Q q => by
  refine sE (pe_bm PySem.F.plainAttrs_list PySem.F.slot_list_append PySem.F.type_list_append mt_append (pe_fld (semE X o) hbf) (semA X [.List [] lpos]) hbase hfew hline hs hplain) ?_
  obtain ⟨v, rv, hv⟩ := ho σ H F A S L
  refine hv _ ?_
  obtain ⟨fp, b, dx, s, p', w, y, was, yas, pvs, rfl, hA, c⟩ := S.bkAt hm rv
  have n := bkN c.nd
  have hkl := (List.getElem?_eq_some_iff.mp hm).1
  have live : ∀ a ∈ fp, H a ≠ none := fun a ha => (S.trk fp (List.mem_of_getElem? hA) a ha).1
  refine ⟨b, Cl, dx, _, .ref w, rfl, c.hb, cl, na, rfl, ?_⟩
  refine ⟨Or.inl ⟨rfl, _, SqL.of c.hw⟩, ?_⟩
  refine sA (pa_cons (pe_lst pa_nil) pa_nil hs) ⟨Nat.zero_le _, fun pn hpn => ?_⟩
  have hwf : w ∈ fp := (c.mem w).mpr (.inr (.inr (.inr (.inl rfl))))
  have fr : ∀ a ∈ fp, a ≠ pn := fun a ha e => live a ha (e ▸ hpn)
  have neW : w ≠ pn := fr _ hwf
  have R := S.re (ps := [pn]) (H2 := upd (upd H pn (.lst [])) w (.lst (was.map V.ref ++ [.ref pn]))) (c := .bk Cl { B with wedded := B.wedded ++ [[]] }) hA (by intro a ha; rw [List.mem_singleton.mp ha]; exact hpn) (fun a o e hf => by rw [upd_ne (a := w) (b := a) fun q => hf (by rw [q]; exact hwf), upd_ne (ne_of_none e hpn)]; exact e) (fun a ha => by
    by_cases q : a = w
    · subst q; rw [upd_same]; simp
    · rw [upd_ne q]
      by_cases q2 : a = pn
      · subst q2; rw [upd_same]; simp
      · rw [upd_ne q2]
        rcases List.mem_append.mp ha with ha | ha
        · exact live a ha
        · exact absurd (List.mem_singleton.mp ha) q2) hkl fun st => BkC.cell (b := b) (dx := dx) (s := s) (p := p') (w := w) (y := y) (was := was ++ [pn]) (yas := yas) (pvs := pvs) ⟨by obtain ⟨r, e⟩ := c.hd; exact ⟨r ++ [pn], by simp [e]⟩, fun a => by
        rw [List.mem_append, c.mem a, List.mem_append, List.mem_singleton]
        constructor
        · rintro ((h | h | h | h | h | h | h) | h) <;> simp [h]
        · rintro (h | h | h | h | h | h | h) <;> first | (rcases h with h | h <;> simp [h]) | simp [h], by
        have hnd : (pn :: ([b, s, p', w, y] ++ was ++ yas)).Nodup := List.nodup_cons.mpr ⟨fun z => fr pn ((c.mem pn).mpr (by simpa [or_assoc] using z)) rfl, c.nd⟩
        refine (List.Perm.nodup_iff ?_).mpr hnd
        have e : [b, s, p', w, y] ++ (was ++ [pn]) ++ yas = ([b, s, p', w, y] ++ was) ++ pn :: yas := by simp
        rw [e]
        exact List.perm_middle,
      by rw [upd_ne n.bw, upd_ne (fr _ ((c.mem b).mpr (.inl rfl)))]; exact c.hb, by rw [upd_ne n.sw, upd_ne (fr _ ((c.mem s).mpr (.inr (.inl rfl))))]; exact c.hs,
      by rw [upd_ne n.pw, upd_ne (fr _ ((c.mem p').mpr (.inr (.inr (.inl rfl)))))]; exact c.hp, Rps.mono (st.view S.hid) st.pre _ _ c.rp,
      by rw [upd_same, List.map_append]; rfl, Inner.snoc (by rw [upd_ne neW.symm, upd_same]; rfl) (c.iw.keep fun a ha o e => by rw [upd_ne (n.ow a ha).2.2.2.1, upd_ne (ne_of_none e hpn)]; exact e), by rw [upd_ne n.wy.symm, upd_ne (fr _ ((c.mem y).mpr (.inr (.inr (.inr (.inr (.inl rfl)))))))]; exact c.hy, c.iy.keep fun a ha o e => by rw [upd_ne (n.oy a ha).2.2.2.1, upd_ne (ne_of_none e hpn)]; exact e⟩
  refine ⟨w, was.map V.ref, .ref pn, rfl, rfl, by rw [upd_ne neW]; exact c.hw, by rw [List.length_map, c.iw.len]; exact line_lt hl, q .non _ _ R.2 R.1 .non⟩
theorem de_bkYoung {lpos : Pos} (ho : DP X M env o (.loc k)) (hm : M[k]? = some (.bk Cl B)) (cl : Cls X.K Cl) (na : NoAttr X.K Cl "young") (hl : B.young.length < 100000)
    (hbf : attributeBase o "young" X.env (eval o X.env) = eval o X.env := by rfl) (hbase : attributeBase (.Attribute o "young" fpos) "append" X.env (eval (.Attribute o "young" fpos) X.env) = eval (.Attribute o "young" fpos) X.env := by rfl)
    (hfew : ((backTo cpos (starEach [.List [] lpos] X.env)).all (fun x => !x.1) && (backToKw cpos (keywordEach [] X.env)).all (fun x => x.1.isSome)
      && decide (([.List [] lpos] : List Expr).length + ([] : List Keyword).length + (if ([] : List Keyword).isEmpty then 0 else 1) < 30)) = true := by rfl)
    (hline : (apos.endLine == cpos.line) = true := by rfl) (hs : starEach [.List [] lpos] X.env = (false, eval (.List [] lpos) X.env) :: starEach [] X.env := by rfl) (hplain : (backTo cpos (starEach [] X.env)).any (·.1) = false := by rfl) :
    DE X M env (.Call (.Attribute (.Attribute o "young" fpos) "append" apos) [.List [] lpos] [] cpos) .non (M.set k (.bk Cl { B with young := B.young ++ [[]] })) := fun σ H F A S L Q q => by
  refine sE (pe_bm PySem.F.plainAttrs_list PySem.F.slot_list_append PySem.F.type_list_append mt_append (pe_fld (semE X o) hbf) (semA X [.List [] lpos]) hbase hfew hline hs hplain) ?_
  obtain ⟨v, rv, hv⟩ := ho σ H F A S L
  refine hv _ ?_
  obtain ⟨fp, b, dx, s, p', w, y, was, yas, pvs, rfl, hA, c⟩ := S.bkAt hm rv
  have n := bkN c.nd
  have hkl := (List.getElem?_eq_some_iff.mp hm).1
  have live : ∀ a ∈ fp, H a ≠ none := fun a ha => (S.trk fp (List.mem_of_getElem? hA) a ha).1
  refine ⟨b, Cl, dx, _, .ref y, rfl, c.hb, cl, na, rfl, ?_⟩
  refine ⟨Or.inl ⟨rfl, _, SqL.of c.hy⟩, ?_⟩
  refine sA (pa_cons (pe_lst pa_nil) pa_nil hs) ⟨Nat.zero_le _, fun pn hpn => ?_⟩
  have hwf : y ∈ fp := (c.mem y).mpr (.inr (.inr (.inr (.inr (.inl rfl)))))
  have fr : ∀ a ∈ fp, a ≠ pn := fun a ha e => live a ha (e ▸ hpn)
  have neW : y ≠ pn := fr _ hwf
  have R := S.re (ps := [pn]) (H2 := upd (upd H pn (.lst [])) y (.lst (yas.map V.ref ++ [.ref pn]))) (c := .bk Cl { B with young := B.young ++ [[]] }) hA (by intro a ha; rw [List.mem_singleton.mp ha]; exact hpn) (fun a o e hf => by rw [upd_ne (a := y) (b := a) fun q => hf (by rw [q]; exact hwf), upd_ne (ne_of_none e hpn)]; exact e) (fun a ha => by
    by_cases q : a = y
    · subst q; rw [upd_same]; simp
    · rw [upd_ne q]
      by_cases q2 : a = pn
      · subst q2; rw [upd_same]; simp
      · rw [upd_ne q2]
        rcases List.mem_append.mp ha with ha | ha
        · exact live a ha
        · exact absurd (List.mem_singleton.mp ha) q2) hkl fun st => BkC.cell (b := b) (dx := dx) (s := s) (p := p') (w := w) (y := y) (was := was) (yas := yas ++ [pn]) (pvs := pvs) ⟨by obtain ⟨r, e⟩ := c.hd; exact ⟨r ++ [pn], by simp [e]⟩, fun a => by
        rw [List.mem_append, c.mem a, List.mem_append, List.mem_singleton]
        constructor
        · rintro ((h | h | h | h | h | h | h) | h) <;> simp [h]
        · rintro (h | h | h | h | h | h | h) <;> first | (rcases h with h | h <;> simp [h]) | simp [h], by
        have hnd : (pn :: ([b, s, p', w, y] ++ was ++ yas)).Nodup := List.nodup_cons.mpr ⟨fun z => fr pn ((c.mem pn).mpr (by simpa [or_assoc] using z)) rfl, c.nd⟩
        refine (List.Perm.nodup_iff ?_).mpr hnd
        have e : [b, s, p', w, y] ++ was ++ (yas ++ [pn]) = ([b, s, p', w, y] ++ was ++ yas) ++ pn :: [] := by simp
        rw [e]
        refine List.perm_middle.trans ?_
        rw [List.append_nil],
      by rw [upd_ne n.by', upd_ne (fr _ ((c.mem b).mpr (.inl rfl)))]; exact c.hb, by rw [upd_ne n.sy, upd_ne (fr _ ((c.mem s).mpr (.inr (.inl rfl))))]; exact c.hs,
      by rw [upd_ne n.py, upd_ne (fr _ ((c.mem p').mpr (.inr (.inr (.inl rfl)))))]; exact c.hp, Rps.mono (st.view S.hid) st.pre _ _ c.rp,
      by rw [upd_ne n.wy, upd_ne (fr _ ((c.mem w).mpr (.inr (.inr (.inr (.inl rfl))))))]; exact c.hw, c.iw.keep fun a ha o e => by rw [upd_ne (n.ow a ha).2.2.2.2.1, upd_ne (ne_of_none e hpn)]; exact e, by rw [upd_same, List.map_append]; rfl, Inner.snoc (by rw [upd_ne neW.symm, upd_same]; rfl) (c.iy.keep fun a ha o e => by rw [upd_ne (n.oy a ha).2.2.2.2.1, upd_ne (ne_of_none e hpn)]; exact e)⟩
  refine ⟨y, yas.map V.ref, .ref pn, rfl, rfl, by rw [upd_ne neW]; exact c.hy, by rw [List.length_map, c.iy.len]; exact line_lt hl, q .non _ _ R.2 R.1 .non⟩
/-- o.wedded[i].append(e) -/
theorem de_bkWedAt {i : Expr} {ipos : Pos} {j : Nat} {v0 : Int} {xs : List Int} (ho : DP X M env o (.loc k)) (hi : DP X M env i (.int (j : Int))) (he : DP X M env e (.int v0)) (hm : M[k]? = some (.bk Cl B)) (hx : B.wedded[j]? = some xs) (cl : Cls X.K Cl) (na : NoAttr X.K Cl "wedded") (hl : xs.length < 100000)
    (hbf : attributeBase o "wedded" X.env (eval o X.env) = eval o X.env := by rfl) (hbase : attributeBase (.Subscript (.Attribute o "wedded" fpos) i ipos) "append" X.env (eval (.Subscript (.Attribute o "wedded" fpos) i ipos) X.env) = eval (.Subscript (.Attribute o "wedded" fpos) i ipos) X.env := by rfl)
    (hfew : ((backTo cpos (starEach [e] X.env)).all (fun x => !x.1) && (backToKw cpos (keywordEach [] X.env)).all (fun x => x.1.isSome)
      && decide (([e] : List Expr).length + ([] : List Keyword).length + (if ([] : List Keyword).isEmpty then 0 else 1) < 30)) = true := by rfl)
    (hline : (apos.endLine == cpos.line) = true := by rfl) (hs : starEach [e] X.env = (false, eval e X.env) :: starEach [] X.env := by rfl) (hplain : (backTo cpos (starEach [] X.env)).any (·.1) = false := by rfl) (hsl : PlainIx i := by exact fun _ _ => rfl) :
    DE X M env (.Call (.Attribute (.Subscript (.Attribute o "wedded" fpos) i ipos) "append" apos) [e] [] cpos) .non (M.set k (.bk Cl { B with wedded := B.wedded.set j (xs ++ [v0]) })) := fun σ H F A S L Q q => by
  refine sE (pe_bm PySem.F.plainAttrs_list PySem.F.slot_list_append PySem.F.type_list_append mt_append (pe_ix ix_list (pe_fld (semE X o) hbf) (semE X i) hsl) (semA X [e]) hbase hfew hline hs hplain) ?_
  obtain ⟨v, rv, hv⟩ := ho σ H F A S L
  refine hv _ ?_
  obtain ⟨fp, b, dx, s, p', w, y, was, yas, pvs, rfl, hA, c⟩ := S.bkAt hm rv
  have n := bkN c.nd
  have hkl := (List.getElem?_eq_some_iff.mp hm).1
  have live : ∀ a ∈ fp, H a ≠ none := fun a ha => (S.trk fp (List.mem_of_getElem? hA) a ha).1
  refine ⟨b, Cl, dx, _, .ref w, rfl, c.hb, cl, na, rfl, ?_⟩
  obtain ⟨vi, rvi, hvi⟩ := hi σ H F A S L
  refine hvi _ ?_
  cases rvi
  obtain ⟨a0, ha0, hH0⟩ := c.iw.get hx
  have hmem : a0 ∈ was := List.mem_of_getElem? ha0
  refine ⟨w, was.map V.ref, _, .ref a0, rfl, rfl, SqL.of c.hw, L2.atI_nat (by rw [List.getElem?_map, ha0]; rfl), ?_⟩
  refine ⟨Or.inl ⟨rfl, _, SqL.of hH0⟩, ?_⟩
  refine sA (pa_cons (semE X e) pa_nil hs) ?_
  obtain ⟨u, ru, hu⟩ := he σ H F A S L
  refine hu _ ?_
  cases ru
  have hsf : a0 ∈ fp := (c.mem a0).mpr (.inr (.inr (.inr (.inr (.inr (.inl hmem))))))
  have no := n.ow a0 hmem
  have eL : (xs.map V.int ++ [V.int v0]) = (xs ++ [v0]).map V.int := by rw [List.map_append]; rfl
  have R := S.re (ps := []) (H2 := upd H a0 (.lst ((xs ++ [v0]).map V.int))) (c := .bk Cl { B with wedded := B.wedded.set j (xs ++ [v0]) }) hA (by simp) (fun a o e hf => by rw [upd_ne (a := a0) (b := a) fun q => hf (by rw [q]; exact hsf)]; exact e) (fun a ha => by
    by_cases q : a = a0
    · subst q; rw [upd_same]; simp
    · rw [upd_ne q]; exact live a (by simpa using ha)) hkl fun st => BkC.cell (b := b) (dx := dx) (s := s) (p := p') (w := w) (y := y) (was := was) (yas := yas) (pvs := pvs) ⟨by obtain ⟨r, e⟩ := c.hd; exact ⟨r, by simp [e]⟩, fun a => by rw [List.append_nil]; exact c.mem a, c.nd, by rw [upd_ne no.1.symm]; exact c.hb, by rw [upd_ne no.2.1.symm]; exact c.hs,
      by rw [upd_ne no.2.2.1.symm]; exact c.hp, Rps.mono (st.view S.hid) st.pre _ _ c.rp, by rw [upd_ne no.2.2.2.1.symm]; exact c.hw, Inner.set n.nw c.iw ha0, by rw [upd_ne no.2.2.2.2.1.symm]; exact c.hy, c.iy.keep fun a ha o e => by rw [upd_ne (a := a0) (b := a) fun q => no.2.2.2.2.2 (by rw [← q]; exact ha)]; exact e⟩
  refine ⟨a0, _, .int v0, rfl, rfl, hH0, by rw [List.length_map]; exact line_lt hl, ?_⟩
  rw [eL]
  exact q .non _ _ R.2 R.1 .non
/-- o.young[i].append(e) -/
theorem de_bkYngAt {i : Expr} {ipos : Pos} {j : Nat} {v0 : Int} {xs : List Int} (ho : DP X M env o (.loc k)) (hi : DP X M env i (.int (j : Int))) (he : DP X M env e (.int v0)) (hm : M[k]? = some (.bk Cl B)) (hx : B.young[j]? = some xs) (cl : Cls X.K Cl) (na : NoAttr X.K Cl "young") (hl : xs.length < 100000)
    (hbf : attributeBase o "young" X.env (eval o X.env) = eval o X.env := by rfl) (hbase : attributeBase (.Subscript (.Attribute o "young" fpos) i ipos) "append" X.env (eval (.Subscript (.Attribute o "young" fpos) i ipos) X.env) = eval (.Subscript (.Attribute o "young" fpos) i ipos) X.env := by rfl)
    (hfew : ((backTo cpos (starEach [e] X.env)).all (fun x => !x.1) && (backToKw cpos (keywordEach [] X.env)).all (fun x => x.1.isSome)
      && decide (([e] : List Expr).length + ([] : List Keyword).length + (if ([] : List Keyword).isEmpty then 0 else 1) < 30)) = true := by rfl)
    (hline : (apos.endLine == cpos.line) = true := by rfl) (hs : starEach [e] X.env = (false, eval e X.env) :: starEach [] X.env := by rfl) (hplain : (backTo cpos (starEach [] X.env)).any (·.1) = false := by rfl) (hsl : PlainIx i := by exact fun _ _ => rfl) :
    DE X M env (.Call (.Attribute (.Subscript (.Attribute o "young" fpos) i ipos) "append" apos) [e] [] cpos) .non (M.set k (.bk Cl { B with young := B.young.set j (xs ++ [v0]) })) := fun σ H F A S L Q q => by
  refine sE (pe_bm PySem.F.plainAttrs_list PySem.F.slot_list_append PySem.F.type_list_append mt_append (pe_ix ix_list (pe_fld (semE X o) hbf) (semE X i) hsl) (semA X [e]) hbase hfew hline hs hplain) ?_
  obtain ⟨v, rv, hv⟩ := ho σ H F A S L
  refine hv _ ?_
  obtain ⟨fp, b, dx, s, p', w, y, was, yas, pvs, rfl, hA, c⟩ := S.bkAt hm rv
  have n := bkN c.nd
  have hkl := (List.getElem?_eq_some_iff.mp hm).1
  have live : ∀ a ∈ fp, H a ≠ none := fun a ha => (S.trk fp (List.mem_of_getElem? hA) a ha).1
  refine ⟨b, Cl, dx, _, .ref y, rfl, c.hb, cl, na, rfl, ?_⟩
  obtain ⟨vi, rvi, hvi⟩ := hi σ H F A S L
  refine hvi _ ?_
  cases rvi
  obtain ⟨a0, ha0, hH0⟩ := c.iy.get hx
  have hmem : a0 ∈ yas := List.mem_of_getElem? ha0
  refine ⟨y, yas.map V.ref, _, .ref a0, rfl, rfl, SqL.of c.hy, L2.atI_nat (by rw [List.getElem?_map, ha0]; rfl), ?_⟩
  refine ⟨Or.inl ⟨rfl, _, SqL.of hH0⟩, ?_⟩
  refine sA (pa_cons (semE X e) pa_nil hs) ?_
  obtain ⟨u, ru, hu⟩ := he σ H F A S L
  refine hu _ ?_
  cases ru
  have hsf : a0 ∈ fp := (c.mem a0).mpr (.inr (.inr (.inr (.inr (.inr (.inr hmem))))))
  have no := n.oy a0 hmem
  have eL : (xs.map V.int ++ [V.int v0]) = (xs ++ [v0]).map V.int := by rw [List.map_append]; rfl
  have R := S.re (ps := []) (H2 := upd H a0 (.lst ((xs ++ [v0]).map V.int))) (c := .bk Cl { B with young := B.young.set j (xs ++ [v0]) }) hA (by simp) (fun a o e hf => by rw [upd_ne (a := a0) (b := a) fun q => hf (by rw [q]; exact hsf)]; exact e) (fun a ha => by
    by_cases q : a = a0
    · subst q; rw [upd_same]; simp
    · rw [upd_ne q]; exact live a (by simpa using ha)) hkl fun st => BkC.cell (b := b) (dx := dx) (s := s) (p := p') (w := w) (y := y) (was := was) (yas := yas) (pvs := pvs) ⟨by obtain ⟨r, e⟩ := c.hd; exact ⟨r, by simp [e]⟩, fun a => by rw [List.append_nil]; exact c.mem a, c.nd, by rw [upd_ne no.1.symm]; exact c.hb, by rw [upd_ne no.2.1.symm]; exact c.hs,
      by rw [upd_ne no.2.2.1.symm]; exact c.hp, Rps.mono (st.view S.hid) st.pre _ _ c.rp, by rw [upd_ne no.2.2.2.1.symm]; exact c.hw, c.iw.keep fun a ha o e => by rw [upd_ne (a := a0) (b := a) fun q => no.2.2.2.2.2 (by rw [← q]; exact ha)]; exact e, by rw [upd_ne no.2.2.2.2.1.symm]; exact c.hy, Inner.set n.ny c.iy ha0⟩
  refine ⟨a0, _, .int v0, rfl, rfl, hH0, by rw [List.length_map]; exact line_lt hl, ?_⟩
  rw [eL]
  exact q .non _ _ R.2 R.1 .non
end
end KT
namespace KT
open PySem PySem.Spec PyProof.Rows L2

/-! ### a new book -/
def bk0 : Bk := ⟨[], [], [], []⟩
theorem Sto.growN {K : PySem.W.Frag} {F : Addr → Prop} {A : Fps} {M : List C} {H H1 : Hp} (S : Sto K F A M H) {fp : List Addr} (hfp : ∀ a ∈ fp, H a = none) (e : Same H H1) (h1 : ∀ a ∈ fp, H1 a ≠ none) {c : C} (hc : Cell K (A ++ [fp]) (Vw F (A ++ [fp]) H1) H1 fp c) :
    Sto K F (A ++ [fp]) (M ++ [c]) H1 ∧ Stp A H (A ++ [fp]) H1 ∧ (A ++ [fp])[M.length]? = some fp := by
  have S1 := S.same e
  have nF : ∀ a ∈ fp, ¬ F a := fun a ha z => S.hid a z (hfp a ha)
  have nA : ∀ gp ∈ A, ∀ a ∈ fp, a ∉ gp := fun gp hg a ha hm => (S.trk gp hg a hm).1 (hfp a ha)
  have st : Stp A H (A ++ [fp]) H1 := ⟨fun a u h _ => e a u h, Pre.app A _, fun gp hf a ha => by
    rcases List.mem_append.mp hf with hf | hf
    · exact .inl ⟨gp, hf, ha⟩
    · rw [List.mem_singleton.mp hf] at ha
      exact .inr (hfp a ha)⟩
  have at_ : (A ++ [fp])[A.length]? = some fp := by simp
  have sp : ∀ (i : Nat) (gp : List Addr), (A ++ [fp])[i]? = some gp → (i < A.length ∧ A[i]? = some gp) ∨ (i = A.length ∧ gp = fp) := fun i gp hi => by
    by_cases hl : i < A.length
    · rw [List.getElem?_append_left hl] at hi
      exact .inl ⟨hl, hi⟩
    · have hlt := (List.getElem?_eq_some_iff.mp hi).1
      rw [List.length_append] at hlt
      have : i = A.length := by simp at hlt; omega
      subst this
      rw [at_] at hi
      cases hi
      exact .inr ⟨rfl, rfl⟩
  refine ⟨⟨S1.hid, fun gp hf a ha => ?_, fun i j gp hp a hi hj ha hb => ?_, fun k c' hk => ?_, by rw [List.length_append, List.length_append, S.len]; rfl⟩, st, by rw [← S.len]; exact at_⟩
  · rcases List.mem_append.mp hf with hf | hf
    · exact S1.trk gp hf a ha
    · rw [List.mem_singleton.mp hf] at ha
      exact ⟨h1 a ha, nF a ha⟩
  · rcases sp i gp hi with ⟨l1, e1⟩ | ⟨l1, e1⟩
    · rcases sp j hp hj with ⟨l2, e2⟩ | ⟨l2, e2⟩
      · exact S.dis i j gp hp a e1 e2 ha hb
      · rw [e2] at hb
        exact absurd ha (nA gp (List.mem_of_getElem? e1) a hb)
    · rcases sp j hp hj with ⟨l2, e2⟩ | ⟨l2, e2⟩
      · rw [e1] at ha
        exact absurd hb (nA hp (List.mem_of_getElem? e2) a ha)
      · rw [l1, l2]
  · by_cases hl : k < M.length
    · rw [List.getElem?_append_left hl] at hk
      obtain ⟨gp, g1, g2⟩ := S.cells k c' hk
      refine ⟨gp, ?_, g2.keep (st.view S.hid) (Pre.app A _) fun a _ u q => e a u q⟩
      rw [List.getElem?_append_left (by rw [S.len]; exact hl)]
      exact g1
    · have hlt := (List.getElem?_eq_some_iff.mp hk).1
      rw [List.length_append] at hlt
      have : k = M.length := by simp at hlt; omega
      subst this
      have : c' = c := by simpa using hk.symm
      subst this
      exact ⟨fp, by rw [← S.len]; exact at_, hc⟩
def spB (CB : Addr) : Sp := fun vs H Q _ => ∃ (q dx : Addr), vs = [.ref q] ∧ H q = some (.ins CB dx []) ∧
  ∀ (H' : Hp) (r : List Addr), (∀ b u, H b = some u → b ≠ q → H' b = some u) → (∀ a ∈ r, H a = none) → (∀ a ∈ q :: r, H' a ≠ none) → (∀ (K : PySem.W.Frag) (A : Fps) (G : Hp), Cell K A G H' (q :: r) (.bk CB bk0)) → Q .non H'
def FitsB (CB : Addr) : Fin where
  nx := fun M' _ => M' = [.ins CB [("sexes", .loc 1), ("parents", .loc 2), ("wedded", .loc 3), ("young", .loc 4)], .lst [], .lst [], .lst [], .lst []]
  rt := fun _ _ => False
section
variable {P : Program} {w : World} {K : PySem.W.Frag} {mg : Str → Option Value} {base : Heap}
theorem okB {x qual : Str} {st : Stmt} {f CB : Addr} {fd : FuncData} {N ps : List Str} {k : Nat} (F : Fun K x qual st f fd) (S : FnScope N ps (defScope st)) (hps : ps.length = 1)
    (hb : ∀ (cdv : Value) (A : Around) (outer : List PySem.Env) (s : Shared) (H : Hp) (E : XK), Room k (A.deeper (envOfC qual (defScope st) s.heap.objs.size f cdv)) →
      DB (cxOf (L2.CX P w) P w K mg base N qual (defScope st) f cdv A outer s H E) [.ins CB []] (startE N [.loc 0]) (defBody st) (FitsB CB)) : FnOk P w K mg base (L2.CX P w) (k + 1) f fd ps (spB CB) := by
  refine F.okX S (fun vs H Q E ⟨q, dx, e, _⟩ => by rw [e, hps]; rfl) (fun cdv A outer s H vs Q E hr ⟨q, dx, e, hq, way⟩ => ?_)
  subst e
  refine ⟨_, semSs _ _, ?_⟩
  have S0 : Sto K (fun _ => False) [[q]] [.ins CB []] H := ⟨fun a z => z.elim, fun fp hf a ha => by
      rw [List.mem_singleton.mp hf] at ha
      rw [List.mem_singleton.mp ha]
      exact ⟨by rw [hq]; simp, id⟩, fun i j fp gp a hi hj _ _ => by
      have h1 := (List.getElem?_eq_some_iff.mp hi).1
      have h2 := (List.getElem?_eq_some_iff.mp hj).1
      simp at h1 h2
      omega, fun j c hj => by
      have h1 := (List.getElem?_eq_some_iff.mp hj).1
      have : j = 0 := by simp at h1; omega
      subst this
      cases hj
      exact ⟨[q], rfl, q, dx, [], rfl, hq, .nil⟩, rfl⟩
  have L0 : SlotsN K [[q]] (Vw (fun _ => False) [[q]] H) (startE N [.loc 0]) (L2.start N [.ref q]) := slots_startA (.one (.loc (r := []) rfl))
  refine hb cdv A outer s H E hr _ H _ [[q]] S0 L0 _ (fun cls d _ H' => E cls d H') (takes_of rfl rfl rfl rfl) ⟨fun M' env' σ' H' A' h t S' L' => ?_, (fun d M' v H' A' h t S' r' => h.elim), (fun _ _ _ _ _ h => h.elim), (fun _ _ _ _ _ h => h.elim), (fun _ _ _ _ _ _ h => h.elim)⟩
  have h : M' = _ := h
  subst h
  obtain ⟨fp0, a0, x0, dx0, fvs, e0, h0, rf⟩ := S'.cells 0 _ rfl
  obtain ⟨r0, p0⟩ := t.pre 0 [q] rfl
  rw [a0] at p0
  cases p0
  have e0' : q = x0 := by
    have := congrArg List.head? e0
    simpa using this
  subst e0'
  obtain ⟨fp1, a1, x1, v1, e1, g1, m1⟩ := S'.cells 1 _ rfl
  obtain ⟨fp2, a2, x2, v2, e2, g2, m2⟩ := S'.cells 2 _ rfl
  obtain ⟨fp3, a3, x3, v3, e3, g3, m3⟩ := S'.cells 3 _ rfl
  obtain ⟨fp4, a4, x4, v4, e4, g4, m4⟩ := S'.cells 4 _ rfl
  subst e1 e2 e3 e4
  cases m1
  cases m2
  cases m3
  cases m4
  have ad : ∀ {i : Nat} {z : Addr} {v : V} {G : Hp}, A'[i]? = some [z] → Rp K A' G v (.loc i) → v = .ref z := fun {i z v G} ha hr => by
    cases hr with
    | loc h1 => rw [ha] at h1; cases h1; rfl
  cases rf with
  | cons r1 rf =>
    cases rf with
    | cons r2 rf =>
      cases rf with
      | cons r3 rf =>
        cases rf with
        | cons r4 rf =>
          cases rf
          have z1 := ad a1 r1
          have z2 := ad a2 r2
          have z3 := ad a3 r3
          have z4 := ad a4 r4
          subst z1 z2 z3 z4
          have ne : ∀ {i j : Nat} {a b : Addr} {fa fb : List Addr}, A'[i]? = some fa → A'[j]? = some fb → a ∈ fa → b ∈ fb → i ≠ j → a ≠ b := fun {i j a b fa fb} ha hb h1 h2 hne e => hne (S'.dis i j _ _ a ha hb h1 (by rw [e]; exact h2))
          have q0 : q ∈ [q] ++ r0 := by simp
          have s1 : x1 ∈ [x1] := by simp
          have s2 : x2 ∈ [x2] := by simp
          have s3 : x3 ∈ [x3] := by simp
          have s4 : x4 ∈ [x4] := by simp
          have n01 := ne a0 a1 q0 s1 (by decide)
          have n02 := ne a0 a2 q0 s2 (by decide)
          have n03 := ne a0 a3 q0 s3 (by decide)
          have n04 := ne a0 a4 q0 s4 (by decide)
          have n12 := ne a1 a2 s1 s2 (by decide)
          have n13 := ne a1 a3 s1 s3 (by decide)
          have n14 := ne a1 a4 s1 s4 (by decide)
          have n23 := ne a2 a3 s2 s3 (by decide)
          have n24 := ne a2 a4 s2 s4 (by decide)
          have n34 := ne a3 a4 s3 s4 (by decide)
          have fr : ∀ {i : Nat} {z : Addr}, A'[i]? = some [z] → q ≠ z → H z = none := fun {i z} ha hz => by
            rcases t.fresh [z] (List.mem_of_getElem? ha) z (by simp) with ⟨gp, k1, k2⟩ | k1
            · rw [List.mem_singleton.mp k1] at k2
              exact absurd (List.mem_singleton.mp k2).symm hz
            · exact k1
          refine way H' [x1, x2, x3, x4] (fun b u hb nb => t.frame b u hb fun fp hf hm => ?_) (fun a ha => ?_) (fun a ha => ?_) fun K A G => ?_
          · rw [List.mem_singleton.mp hf] at hm
            exact nb (List.mem_singleton.mp hm)
          · simp at ha
            rcases ha with rfl | rfl | rfl | rfl
            · exact fr a1 n01
            · exact fr a2 n02
            · exact fr a3 n03
            · exact fr a4 n04
          · simp at ha
            rcases ha with rfl | rfl | rfl | rfl | rfl
            · rw [h0]; simp
            · rw [g1]; simp
            · rw [g2]; simp
            · rw [g3]; simp
            · rw [g4]; simp
          · exact ⟨q, dx0, x1, x2, x3, x4, [], [], [], [x1, x2, x3, x4], rfl, fun a => by simp, by simp [n01, n02, n03, n04, n12, n13, n14, n23, n24, n34], h0, g1, g2, .nil, g3, trivial, g4, trivial⟩
end
section
variable {X : Cx} {M : List C} {env : EnvD} {pos p : Pos} {f : Str} {k : Nat} {ps : List Str} {Cl : Addr}
theorem de_makeB (Mr : Mkr X.prog X.w X.K X.mg X.base f Cl k ps (spB Cl)) (hr : Room k X.A) (hg : Gl X f := by rfl) (hdb : (f == ("__debug__" : Str)) = false := by decide) : DE X M env (.Call (.Name f p) [] [] pos) (.loc M.length) (M ++ [.bk Cl bk0]) := fun σ H F A S L Q q => by
  obtain ⟨g, fd, k0, ek, hm, Mq, hb, Fn⟩ := Mr.ex
  subst ek
  refine sE (pe_make0 Mq Fn hr hg hm hb .nil L2.passL hdb) ?_
  intro x dx hx hd ne
  have s2 : Same H (upd (upd H dx (.own x)) x (.ins Cl dx [])) := fun b o eb => by
    rw [upd_ne (ne_of_none eb hx), upd_ne (ne_of_none eb hd)]
    exact eb
  refine ⟨x, dx, rfl, upd_same, fun H' r fr hfr all cell => ⟨rfl, ?_⟩⟩
  have s3 : Same H H' := fun b o eb => fr b o (s2 b o eb) (ne_of_none eb hx)
  have hf : ∀ a ∈ x :: r, H a = none := fun a ha => by
    rcases List.mem_cons.mp ha with rfl | ha
    · exact hx
    · cases e : H a with
      | none => rfl
      | some u => have := s2 a u e; rw [hfr a ha] at this; cases this
  obtain ⟨g1, g2, g3⟩ := S.growN hf s3 all (cell _ _ _)
  exact q (.ref x) H' _ g2 g1 (.loc g3)
end

/-! ### in: flat items, pairs -/
section
variable {X : Cx} {M M1 M2 : List C} {env : EnvD} {a b : Expr} {x y : D} {ds : List D} {pos : Pos}
theorem Rps.flats {K : PySem.W.Frag} {A : Fps} {G : Hp} : ∀ {vs : List V} {ds : List D}, (∀ d ∈ ds, d.flat = true) → Rps K A G vs ds → vs = ds.map D.v
  | _, _, _, .nil => rfl
  | _, _, h, .cons r t => by rw [r.flat (h _ List.mem_cons_self), Rps.flats (fun d hd => h d (List.mem_cons_of_mem _ hd)) t]; rfl
theorem flatV_v {d : D} (h : d.flat = true) : flatV d.v = true := by cases d <;> first | rfl | cases h
theorem all_v {ds : List D} (h : ∀ d ∈ ds, d.flat = true) : (ds.map D.v).all flatV = true := by
  rw [List.all_eq_true]
  intro v hv
  obtain ⟨d, hd, rfl⟩ := List.mem_map.mp hv
  exact flatV_v (h d hd)
theorem rv_inF {K : PySem.W.Frag} {neg : Bool} (hl : Ls M y ds) (hx : x.flat = true) (hf : ∀ d ∈ ds, d.flat = true) : RV K M (rIn K neg) x y (.bl (if neg then !inV x.v (ds.map D.v) else inV x.v (ds.map D.v))) := fun F A H v u S r1 r2 Q q => by
  obtain ⟨p, vs, rfl, h1, h2⟩ := hl.at S r2
  rw [h2.flats hf] at h1
  rw [r1.flat hx]
  exact ⟨p, _, rfl, .inl h1, flatV_v hx, all_v hf, q _ H (Same.refl H) (.bl _)⟩
theorem rv_inT {K : PySem.W.Frag} {neg : Bool} (hx : x.flat = true) (hf : ∀ d ∈ ds, d.flat = true) : RV K M (rIn K neg) x (.tup ds) (.bl (if neg then !inV x.v (ds.map D.v) else inV x.v (ds.map D.v))) := fun F A H v u S r1 r2 Q q => by
  obtain ⟨p, vs, rfl, h1, h2⟩ := r2.tup_at
  rw [h2.flats hf] at h1
  rw [r1.flat hx]
  exact ⟨p, _, rfl, .inr (SqT.of h1), flatV_v hx, all_v hf, q _ H (Same.refl H) (.bl _)⟩
theorem inV_ints (n : Int) (ns : List Int) : inV (.int n) ((ns.map D.int).map D.v) = decide (n ∈ ns) := by
  unfold inV
  induction ns with
  | nil => simp
  | cons m ns ih =>
    rw [List.map_cons, List.map_cons, List.any_cons, ih]
    show ((m == n) || decide (n ∈ ns)) = decide (n ∈ m :: ns)
    by_cases h : m = n
    · subst h; simp
    · have : (m == n) = false := by simpa using h
      rw [this, Bool.false_or]
      refine decide_eq_decide.mpr ?_
      rw [List.mem_cons]
      exact ⟨.inr, fun z => z.resolve_left fun e => h e.symm⟩
theorem ints_flat (ns : List Int) : ∀ d ∈ ns.map D.int, d.flat = true := fun d hd => by
  obtain ⟨n, _, rfl⟩ := List.mem_map.mp hd
  rfl
theorem dt_inI {n : Int} {ns : List Int} (ha : DE X M env a (.int n) M1) (hb : DE X M1 env b y M2) (hl : Ls M2 y (ns.map D.int)) (hm : behindInMarks .In b = false := by rfl) : DT X M env (.Compare a [.In] [b] pos) (decide (n ∈ ns)) M2 := by
  have := dt_cmp (pos := pos) op_in_seq ha hb (rv_inF (neg := false) hl rfl (ints_flat ns)) hm
  rw [← inV_ints]
  exact this
theorem dt_ninI {n : Int} {ns : List Int} (ha : DE X M env a (.int n) M1) (hb : DE X M1 env b y M2) (hl : Ls M2 y (ns.map D.int)) (hm : behindInMarks .NotIn b = false := by rfl) : DT X M env (.Compare a [.NotIn] [b] pos) (!decide (n ∈ ns)) M2 := by
  have := dt_cmp (pos := pos) op_notIn_seq ha hb (rv_inF (neg := true) hl rfl (ints_flat ns)) hm
  rw [← inV_ints]
  exact this
theorem dt_inT (ha : DE X M env a x M1) (hb : DE X M1 env b (.tup ds) M2) (hx : x.flat = true) (hf : ∀ d ∈ ds, d.flat = true) (hm : behindInMarks .In b = false := by rfl) : DT X M env (.Compare a [.In] [b] pos) (inV x.v (ds.map D.v)) M2 :=
  dt_cmp (pos := pos) op_in_seq ha hb (rv_inT (neg := false) hx hf) hm
/-- deep -/
theorem rv_ninD {K : PySem.W.Frag} {x' : D} {es : List D} (rx : Res M x x') (ry : Res M y (.lst es)) (px : x'.pur = true) (py : purs es = true) (dx : x'.dep ≤ 20) (dy : deps es ≤ 19) : RV K M (rNotInD K) x y (.bl (!(pys es).any fun z => PyData.eqv z x'.py)) := fun F A H v u S r1 r2 Q q => by
  have py' : (D.lst es).pur = true := by rw [D.pur]; exact py
  have dy' : (D.lst es).dep ≤ 20 := by rw [D.dep]; omega
  have h2 := (Res.rp S ry r2).dp (Vw.le _ _ _) _ _ py'
  have s2 := D.shaped py' dy'
  rw [D.py] at h2 s2
  exact ⟨x'.py, pys es, (Res.rp S rx r1).dp (Vw.le _ _ _) _ _ px, h2, D.shaped px dx, s2, q _ H (Same.refl H) (.bl _)⟩
theorem dt_ninD {x' : D} {es : List D} (hu : X.A.units + 65 < cLine) (ha : DE X M env a x M1) (hb : DE X M1 env b y M2) (rx : Res M2 x x') (ry : Res M2 y (.lst es)) (px : x'.pur = true) (py : purs es = true) (dx : x'.dep ≤ 20) (dy : deps es ≤ 19) (hm : behindInMarks .NotIn b = false := by rfl) :
    DT X M env (.Compare a [.NotIn] [b] pos) (!(pys es).any fun z => PyData.eqv z x'.py) M2 := dt_cmp (op_notInD hu) ha hb (rv_ninD rx ry px py dx dy) hm
end
section
variable {X : Cx} {M M1 M2 M3 : List C} {env : EnvD} {a b e : Expr} {x y d : D} {ds : List D} {pos p : Pos} {rest : List Stmt} {Fi : Fin}
/-- try: the body's exceptions all told by P -/
theorem db_tryP {x n : Str} {c : Value} (i : Nat) (P : Addr → List C → EnvD → Prop) {body suite : List Stmt} {b0 : Stmt} {np pos' : Pos} (hN : X.N.Nodup) (hc : Names X x c)
    (hb : ∀ (pn : List (Addr × Obj)) (xe : Value → Shared → Prop), PassesOwn (model X.prog X.w) X.A X.env xe → DB (X.tr pn xe) M env body { Fi with nx := fun M' env' => DB X M' env' rest Fi, ex := P })
    (hs : ∀ Ca M' env', P Ca M' env' → PySem.W.exmOne X.K (.ref Ca) c = some true ∧ ∀ (a : Addr) (oe : Obj) (pn : List (Addr × Obj)), Zc (.ref Ca) none oe → (∃ vs, oe.data = .fields vs) →
        DB (X.suite a ((a, oe) :: pn)) M' (env'.set i (some (.adr a))) (b0 :: suite) ⟨fun M2 env2 => DB X M2 (env2.set i none) rest Fi, Fi.rt, fun _ _ => False, fun _ _ => False, fun _ _ _ => False⟩)
    (hi : X.N[i]? = some n := by rfl) (hln : X.env.kindOf n = some .local := by rfl) (hst : X.stack = X.env :: X.outer := by rfl) (hf : X.env.frame = some X.env.locals := by rfl) :
    DB X M env (.Try body [.ExceptHandler (some (.Name x np)) (some n) (b0 :: suite) pos'] [] [] pos :: rest) Fi :=
  db_tryAs i hN hc (fun pn xe h => (hb pn xe h).imp (fun _ _ z => z) (fun _ _ z => z) (fun _ _ z => z) (fun _ _ z => z) (fun Ca M' env' z => .inl (hs Ca M' env' z))) hi hln hst hf
/-- a tuple cut, not the whole of it -/
theorem de_sliceT {lo hi : Option Expr} {i j : Option Int} {p2 : Pos} (ha : DE X M env a (.tup ds) M1) (hlo : DO X M1 env lo i M2) (hhi : DO X M2 env hi j M3) (hw : ¬ (HT.sIx ds.length 0 i = 0 ∧ HT.sIx ds.length ds.length j = ds.length)) : DE X M env (.Subscript a (.Slice lo hi none p2) pos) (.tup (cutD ds i j)) M3 := fun σ H F A S L Q q => by
  obtain ⟨t1, p1, r1⟩ := hlo.read
  obtain ⟨t2, p2, r2⟩ := hhi.read
  refine sE (pe_slice sl_tup (semE X a) p1 p2) ?_
  refine ha σ H F A S L _ fun v H1 A1 s1 S1 rv => ?_
  refine r1 σ H1 F A1 S1 (L.stp S s1) _ fun H2 A2 s2 S2 => ?_
  refine r2 σ H2 F A2 S2 ((L.stp S s1).stp S1 s2) _ fun H3 A3 s3 S3 => ?_
  obtain ⟨qa, vs, rfl, h1, hr⟩ := ((rv.stp S1 s2).stp S2 s3).tup_at
  refine ⟨qa, vs, rfl, SqT.of h1, by rw [hr.length]; exact hw, fun pn hp => ?_⟩
  exact q (.ref pn) _ A3 (((s1.trans s2).trans s3).trans (Stp.same (same_new hp))) (S3.new hp) (.tup (S3.seen hp) ((hr.cut).stp S3 (Stp.same (same_new hp))))
theorem de_max2 {i j : Int} {p : Pos} (hm : X.mg "max" = none) (ha : DA X M env [a, b] [.int i, .int j] M1) (hc : X.calm = true := by rfl) (hv : bootBuiltins "max" = some (.builtin "max") := by decide +kernel) (hg : Gl X "max" := by rfl)
    (he : starEach [a, b] X.env = (false, eval a X.env) :: starEach [b] X.env := by rfl) (hpl : (backTo pos (starEach [b] X.env)).any (·.1) = false := by rfl) : DE X M env (.Call (.Name "max" p) [a, b] [] pos) (.int (if j > i then j else i)) M1 :=
  de_callB (call_max2 hc) (fun F A H vs S r Q q => by
    cases r with
    | cons r0 r1 =>
      cases r1 with
      | cons r1 r2 =>
        cases r2
        cases r0
        cases r1
        exact ⟨i, j, rfl, q _ H (Same.refl H) (.int _)⟩) hm hv ha hg (by decide) (by decide) he hpl
end
end KT
namespace KT
open PySem PySem.Spec PyProof.Rows L2

/-! ### sorted(set(a list of ints)) -/
/-- a new set's object -/
def set0 (w : World) : Obj := { cls := .type "set", dict := none, data := .set #[] 0 (.fresh 0 0 (!w.params.followText "set-order")) }
section
variable {P : Program} {w : World} {A : Around} {E : Value → Shared → Prop} {s : Shared}
theorem call_set_lstI {l : Addr} {items : Array Value} (ns : List Int) {Q : Value → Shared → Prop} (hh : A.handled = none) (hl : s.heap.IsList l items) (hit : IntsAre items.toList ns) (hb : ns.length + 1 < scanBound)
    (h : ∀ (h' : Heap) (tk c : Nat), SetR w h' s.heap.objs.size (fun j => decide (j ∈ ns)) c → c ≤ ns.length → (∀ b o, s.heap.get? b = some o → h'.get? b = some o) → Q (.ref s.heap.objs.size) { s with heap := h', toks := tk }) :
    wpAny (model P w) A (call (.type "set") [.ref l]) Q E s := by
  have hisz : items.size = ns.length := by
    have q := IntsAre.length hit
    rw [Array.length_toList] at q
    exact q
  obtain ⟨c, tl, hmro⟩ := PySem.F.called_set.mro
  have hmade := PySem.F.called_set.made
  have hsub := PySem.F.called_set.sub
  refine wpAny_call (codeAny_of_tree ?_)
  show wpAny _ _ (callAny (.type "set") _) _ _ _
  refine wpAny_pure ⟨Code.quiet_builtin _ (by decide +kernel), codeAny_builtin PySem.F.entry_type_call ?_⟩
  rw [Around.under_plain (weight_type_call_type "set" [.ref l] []) rfl]
  have h1 := PySem.F.called_set.notType
  have h2 := PySem.F.called_set.canCreate
  have hct := PySem.F.typeCall_set_1 (.ref l)
  repeat (any_goals (first | assumption | wp_step))

  refine codeAny_mono (code_set_led1 (.ref l) (E := E) (Q₁ := fun obj s₁ => obj = .ref s.heap.objs.size ∧ s₁ = { s with heap := (s.heap.push (set0 w)) }) ⟨rfl, rfl⟩) fun r s₁ hr => ?_
  cases r with
  | error e => exact hr
  | ok fl =>
    cases fl with
    | ret obj =>
      obtain ⟨rfl, rfl⟩ := hr
      have hS : ((s.heap.push (set0 w))).get? s.heap.objs.size = some (set0 w) := Heap.get?_push_size _ rfl
      have hT : Shared.TypeIs { s with heap := (s.heap.push (set0 w)) } (.ref s.heap.objs.size) "set" := ⟨_, hS, rfl⟩
      have hli := PySem.F.called_set.init.lookup
      have hbi := PySem.F.called_set.init.bind (.ref s.heap.objs.size)
      repeat (any_goals (first | assumption | wp_step))

      refine codeAny_mono (codeAny_call_builtin (R := wants (fun r s₂ => r = .none ∧ ∃ h' tk c, s₂ = { s with heap := h', toks := tk } ∧ SetR w h' s.heap.objs.size (fun j => decide (j ∈ ns)) c ∧ c ≤ ns.length ∧
          (∀ b o, s.heap.get? b = some o → h'.get? b = some o)) E) PySem.F.called_set.init.plain PySem.F.entry_set_init (check_set_init_1 hT ?_)) fun r₂ s₂ hr₂ => ?_
      · obtain ⟨ol, hol, hcl, nl, hdl⟩ := hl
        obtain ⟨ocls, odict, odata, oslots⟩ := ol
        simp only at hcl hdl
        subst hcl; subst hdl
        have hol' : ((s.heap.push (set0 w))).get? l = some { cls := .type "list", dict := odict, data := .seq items nl, slots := oslots } := Heap.get?_push_of_some _ hol
        have hsls := PySem.F.sub_list_set
        have hslf := PySem.F.sub_list_frozenset
        have hne : (Value.type "list" == Value.type "dict") = false := by decide
        have hl1 : ((s.heap.push (set0 w))).IsList l items := ⟨_, hol', rfl, nl, rfl⟩
        unfold Builtin.«set.__init__» noKeywords Builtin.Frozenset.updateFrom
        generalize hPI : pyIter = PI
        wp_walk
        subst hPI

        refine wpAny_pyIter_list hl1 ?_
        refine wpAny_bind (wpAny_runValue ?_)
        have hlS : l < s.heap.objs.size := Heap.lt_size hol
        have hh3 : A.in1.in1.in1.handled = none := by simp [hh]
        have hz1 : ((s.heap.push (set0 w))).objs.size = s.heap.objs.size + 1 := Heap.size_push ..
        have hneI : l ≠ ((s.heap.push (set0 w))).objs.size := by
          rw [Heap.size_push]; exact Nat.ne_of_lt (Nat.lt_succ_of_lt hlS)
        have hSf : s.heap.objs.size ∉ [((s.heap.push (set0 w))).objs.size, l] := by
          rw [Heap.size_push]; simp only [List.mem_cons, List.mem_singleton, List.not_mem_nil, or_false, not_or]
          exact ⟨Nat.ne_of_lt (Nat.lt_succ_self _), Nat.ne_of_gt hlS⟩
        have hval : ∀ (i : Nat) (v : Value), items[i]? = some v → ∃ k t, ns[i]? = some k ∧ v = .int k t := fun i v hv => by
          have hi : i < ns.length := by rw [← hisz]; exact (Array.getElem?_eq_some_iff.mp hv).1
          obtain ⟨t, e⟩ := PyProof.Rows.IntsAre.int_at hit i v (by rw [Array.getElem?_toList]; exact hv)
          refine ⟨ns[i], t, List.getElem?_eq_getElem hi, ?_⟩
          rw [e, List.getD_eq_getElem?_getD, List.getElem?_eq_getElem hi] <;> rfl
        refine set_update_ints ((Walks.list hh3 _ l hneI items).toS) s.heap.objs.size
          hSf ns hisz hb hval (items.size - 0) 0 _ (by omega) (Nat.zero_le _)
          ⟨⟨_, Heap.get?_push_size _ rfl, rfl, rfl⟩, (hl1.push _)⟩ ?hS0 ?hR
        case hS0 =>
          have hget : (((s.heap.push (set0 w))).push { cls := .type "list_iterator", data := .fields #[.ref l, .int 0 0] }).get? s.heap.objs.size
              = some (set0 w) := Heap.get?_push_of_some _ hS
          exact ⟨0, Nat.le_refl 0, setR_new_at hget⟩
        case hR =>
          intro s' c' hm hc' hS'
          obtain ⟨h', g2, d', tk', os'⟩ := s'
          have eg : g2 = s.gens := hm.gens
          have ed : d' = s.drawn := hm.drawn
          have eo : os' = s.os := hm.os
          subst eg; subst ed; subst eo
          show wpAny _ _ _ _ _ _
          refine wpAny_pure ?_
          show wpAny _ _ (ret Value.none) _ _ _
          rw [hisz] at hc'
          refine wpAny_pure ⟨rfl, h', tk', c', rfl, hS', hc', fun b o e => ?_⟩
          have hb0 : b < s.heap.objs.size := Heap.lt_size e
          have hb1 : b ≠ s.heap.objs.size := Nat.ne_of_lt hb0
          have hb2 : b ≠ ((s.heap.push (set0 w))).objs.size := by
            rw [Heap.size_push]; exact Nat.ne_of_lt (Nat.lt_succ_of_lt hb0)
          exact hm.heap b o (by simp only [List.mem_cons, List.mem_singleton, List.not_mem_nil, or_false, not_or]; exact ⟨hb1, hb2⟩) (Heap.get?_push_of_some _ (Heap.get?_push_of_some _ e))

      · cases r₂ with
        | error e => exact hr₂
        | ok fl₂ =>
          cases fl₂ with
          | ret r =>
            obtain ⟨rfl, h', tk, c', rfl, hS', hc', hk'⟩ := hr₂
            repeat (any_goals (first | assumption | wp_step))
            exact h _ _ _ hS' hc' hk'
          | _ => exact hr₂.elim
    | _ => exact hr.elim
end
section
variable {X : Cx} {M M1 M2 M3 : List C} {env : EnvD} {a b o e : Expr} {x y d : D} {ds : List D} {pos p apos cpos : Pos}
def tSortSet (K : PySem.W.Frag) (te : TE) : TE := fun σ H Q => te σ H fun v H1 => ∃ (l : Addr) (ns out : List Int), v = .ref l ∧ SqL K H1 l (ns.map V.int) ∧ ns.length ≤ 4000 ∧ out.Pairwise (· < ·) ∧ (∀ k, k ∈ out ↔ k ∈ ns) ∧ out.length < 64 ∧ ∀ sa so q, H1 sa = none → upd H1 sa so q = none → Q (.ref q) (upd (upd H1 sa so) q (.lst (out.map V.int)))
theorem boot_srt : bootBuiltins "sorted" = some (.builtin "sorted") := by decide +kernel
theorem pw_uniq : ∀ {xs ys : List Int}, xs.Pairwise (· < ·) → ys.Pairwise (· < ·) → (∀ k, k ∈ xs ↔ k ∈ ys) → xs = ys := fun {xs ys} hx hy h => by
  have nx : xs.Nodup := hx.imp fun h => by omega
  have ny : ys.Nodup := hy.imp fun h => by omega
  exact List.Perm.eq_of_pairwise (le := (· ≤ ·)) (fun a b _ _ h1 h2 => by omega) (hx.imp fun h => by omega) (hy.imp fun h => by omega) ((List.perm_ext_iff_of_nodup nx ny).mpr h)
theorem pe_sortSet {te : TE} {p p2 pos pos2 : Pos} (hc : X.calm = true) (hg : Gl X "sorted") (hm : X.mg "sorted" = none) (hg2 : Gl X "set") (hm2 : X.mg "set" = none) (he : PE X e te)
    (hs : starEach [e] X.env = (false, eval e X.env) :: starEach [] X.env := by rfl)
    (hs2 : starEach [.Call (.Name "set" p2) [e] [] pos2] X.env = (false, eval (.Call (.Name "set" p2) [e] [] pos2) X.env) :: starEach [] X.env := by rfl) :
    PE X (.Call (.Name "sorted" p) [.Call (.Name "set" p2) [e] [] pos2] [] pos) (tSortSet X.K te) := by
  refine ⟨fun pins s σ H Q I h => ?_⟩
  refine Call_ (ld_blt I hg hm boot_srt ?_)
  refine PyProof.Rows.callWith_builtin1 (PyProof.Rows.args_cons (Call_ (ld_blt I hg2 hm2 PyProof.Rows.boot_set (PyProof.Rows.callWith_type1 (PyProof.Rows.args_cons (thn (he.run pins s σ H _ I h) fun u s1 ⟨v, H1, I1, r1, q1⟩ => PyProof.Rows.args_nil ?_) hs) hs rfl))) hs2) hs2 rfl
  obtain ⟨l, ns, out, ev, hq, hn, h1, h2, h3, q⟩ := q1
  subst ev
  obtain rfl : u = Value.ref l := r1
  obtain ⟨its, rv, pl, hz⟩ := I1.list hq
  have hd := I1.ok.hd hc
  refine call_set_lstI ns hd pl.isList (ints_of_vals rv) (by unfold scanBound; omega) fun h' tk c R1 hcn k => PyProof.Rows.args_nil ?_
  have hcl : c = out.length := by
    obtain ⟨o, es, ep, t, ho, hex, hdt, g, nd, hm2, hb, hf, hsz, hr, hl2⟩ := R1
    have hp : (es.toList.map keyOf).Perm out := (List.perm_ext_iff_of_nodup nd (h1.imp fun h => by omega)).mpr fun j => by rw [← hm2 j, decide_eq_true_eq, h2]
    have := hp.length_eq
    rw [List.length_map, Array.length_toList] at this
    omega
  have I2 : Inv X pins σ (upd H1 s1.heap.objs.size (SetO X.w s1.heap.objs.size (fun j => decide (j ∈ ns)) c)) { s1 with heap := h', toks := tk } := I1.laid (t' := tk) k (Nat.le_refl _) (setO_new R1)
  have hn1 : H1 s1.heap.objs.size = none := I1.hok.fresh (Nat.le_refl _)
  exact cr_sortedSet hc pins _ σ _ [.ref s1.heap.objs.size] [.ref s1.heap.objs.size] Q I2 (.cons rfl .nil) ⟨_, _, c, rfl, upd_same, by omega, fun ms p hp hmem hlen hpn => by
    have : ms = out := pw_uniq hp h1 fun j => by rw [hmem, decide_eq_true_eq, h2]
    rw [this]
    exact q _ _ _ hn1 hpn⟩
theorem df_sortSet {ns out : List Int} {p p2 pos pos2 : Pos} (he : DE X M env e x M1) (hl : Ls M1 x (ns.map D.int)) (hm : X.mg "sorted" = none) (hm2 : X.mg "set" = none) (hn : ns.length ≤ 4000) (h1 : out.Pairwise (· < ·)) (h2 : ∀ k, k ∈ out ↔ k ∈ ns) (h3 : out.length < 64) (hc : X.calm = true := by rfl) (hg : Gl X "sorted" := by rfl) (hg2 : Gl X "set" := by rfl)
    (hs : starEach [e] X.env = (false, eval e X.env) :: starEach [] X.env := by rfl)
    (hs2 : starEach [.Call (.Name "set" p2) [e] [] pos2] X.env = (false, eval (.Call (.Name "set" p2) [e] [] pos2) X.env) :: starEach [] X.env := by rfl) :
    DF X M env (.Call (.Name "sorted" p) [.Call (.Name "set" p2) [e] [] pos2] [] pos) (out.map D.int) M1 := fun σ H F A S L Q q => by
  refine sE (pe_sortSet hc hg hm hg2 hm2 (semE X e) hs hs2) ?_
  refine he σ H F A S L _ fun v H1 A1 t1 S1 rv => ?_
  obtain ⟨qa, vs, rfl, g1, g2⟩ := hl.at S1 rv
  rw [g2.ints] at g1
  refine ⟨qa, ns, out, rfl, g1, hn, h1, h2, h3, fun sa so pn hsa hpn => ?_⟩
  have s1 : Same H1 (upd H1 sa so) := same_new hsa
  exact q pn _ (upd H1 sa so) _ A1 (t1.trans (Stp.same s1)) (S1.same s1) hpn (same_new hpn) upd_same (.of_ints _)
/-- text.index(sign), found -/
theorem de_sindex {c i : Nat} {s : Str} {apos cpos : Pos} {rest : List Nat} (ho : DE X M env o (.str s) M1) (he : DE X M1 env e (.str (S [c])) M2) (h : Builtin.Str.occurrences s (S [c]) 0 s.length 1 = i :: rest)
    (hbase : attributeBase o "index" X.env (eval o X.env) = eval o X.env := by rfl)
    (hfew : ((backTo cpos (starEach [e] X.env)).all (fun x => !x.1) && (backToKw cpos (keywordEach [] X.env)).all (fun x => x.1.isSome)
      && decide (([e] : List Expr).length + ([] : List Keyword).length + (if ([] : List Keyword).isEmpty then 0 else 1) < 30)) = true := by rfl)
    (hline : (apos.endLine == cpos.line) = true := by rfl) (hs : starEach [e] X.env = (false, eval e X.env) :: starEach [] X.env := by rfl) (hplain : (backTo cpos (starEach [] X.env)).any (·.1) = false := by rfl) :
    DE X M env (.Call (.Attribute o "index" apos) [e] [] cpos) (.int (i : Nat)) M2 := fun σ H F A S L Q q => by
  refine sE (pe_bm PySem.F.plainAttrs_str PySem.F.slot_str_index PySem.F.type_str_index mt_sindex (semE X o) (semA X [e]) hbase hfew hline hs hplain) ?_
  refine ho σ H F A S L _ fun v H1 A1 t1 S1 r1 => ?_
  cases r1
  refine ⟨rfl, ?_⟩
  refine sA (pa_cons (semE X e) pa_nil hs) ?_
  refine he σ H1 F A1 S1 (L.stp S t1) _ fun u H2 A2 t2 S2 r2 => ?_
  cases r2
  exact ⟨s, _, i, rest, rfl, rfl, h, q _ H2 A2 (t1.trans t2) S2 (.int _)⟩
end

/-! a new list answered, other new cells forgotten -/
theorem Ls.app {M : List C} {x : D} {ds : List D} (h : Ls M x ds) (R : List C) : Ls (M ++ R) x ds := by
  cases h with
  | d => exact .d
  | o hk => exact .o (by rw [List.getElem?_append_left (List.getElem?_eq_some_iff.mp hk).1]; exact hk)
  | s => exact .s
def FitsG (o : Out) : Fin where
  nx := fun _ _ => o = .ok .non
  rt := fun r M' => match o with
    | .ok d => Res M' r d
    | .er _ => False
    | .own d Ms => ∃ k ds, r = .loc k ∧ M'[k]? = some (.lst ds) ∧ nls ds = true ∧ d = .loc 0 ∧ Ms = [.lst ds]
  ex := fun Ca _ _ => o = .er Ca
section
variable {P : Program} {w : World} {K : PySem.W.Frag} {mg : Str → Option Value} {base : Heap}
theorem okG {x qual : Str} {st : Stmt} {f : Addr} {fd : FuncData} {N ps : List Str} {k : Nat} {Sg : List D → Out → Prop} (F : Fun K x qual st f fd) (S : FnScope N ps (defScope st)) (len : ∀ ds o, Sg ds o → ds.length = ps.length)
    (hb : ∀ (cdv : Value) (A : Around) (outer : List PySem.Env) (s : Shared) (H : Hp) (E : XK) (ds : List D) (o : Out), Room k (A.deeper (envOfC qual (defScope st) s.heap.objs.size f cdv)) → Sg ds o →
      DB (cxOf (L2.CX P w) P w K mg base N qual (defScope st) f cdv A outer s H E) [] (startE N ds) (defBody st) (FitsG o)) : FnOk P w K mg base (L2.CX P w) (k + 1) f fd ps (spX K Sg) := by
  refine F.okX S (fun vs H Q E ⟨Fh, ds, o, _, r, hs, _⟩ => by rw [r.length]; exact len ds o hs) (fun cdv A outer s H vs Q E hr ⟨Fh, ds, o, hF, r, hs, q⟩ => ?_)
  refine ⟨_, semSs _ _, ?_⟩
  refine hb cdv A outer s H E ds o hr hs (L2.start N vs) H Fh [] (sto_nil hF) (slots_start r) _ (fun cls d _ H' => E cls d H') (takes_of rfl rfl rfl rfl) ⟨fun M' env' σ' H' A' h t S' L' => ?_, fun d M' v H' A' h t S' r' => ?_, (fun _ _ _ _ _ h => h.elim), (fun _ _ _ _ _ h => h.elim), fun Ca M' env' σ' H' A' h t S' _ => ?_⟩
  · have h : o = .ok .non := h
    subst h
    exact q .non H' t.nil .non
  · cases o with
    | ok d' => exact q v H' t.nil (Res.rp S' h r')
    | er _ => exact h.elim
    | own d' Ms =>
      obtain ⟨j, es, rfl, hm, hn, rfl, rfl⟩ := h
      obtain ⟨a, us, rfl, hA, h1, hr2⟩ := S'.lst hm r'
      have ha := S'.trk [a] (List.mem_of_getElem? hA) a (List.mem_singleton.mpr rfl)
      have fr : H a = none := (t.fresh [a] (List.mem_of_getElem? hA) a (List.mem_singleton.mpr rfl)).resolve_left fun ⟨gp, hg, _⟩ => nomatch hg
      have vw : Same (Vw Fh A' H') (Vw Fh [[a]] H') := fun b u e => by
        obtain ⟨e1, e2, e3⟩ := Vw.some_of e
        exact Vw.of e1 e2 fun fp hf hb => by
          rw [List.mem_singleton.mp hf] at hb
          exact e3 [a] (List.mem_of_getElem? hA) hb
      have one : ∀ fp ∈ ([[a]] : Fps), ∀ b ∈ fp, b = a := fun fp hf b hb => by
        rw [List.mem_singleton.mp hf] at hb
        exact List.mem_singleton.mp hb
      refine q (.ref a) H' [[a]] t.nil (fun fp hf b hb => by rw [one fp hf b hb]; exact fr) ⟨S'.hid, fun fp hf b hb => by rw [one fp hf b hb]; exact ha, fun i j2 fp gp b hi hj2 _ _ => ?_, fun i c hc => ?_, rfl⟩ (.loc (r := []) rfl)
      · have h1 := (List.getElem?_eq_some_iff.mp hi).1
        have h2 := (List.getElem?_eq_some_iff.mp hj2).1
        simp at h1 h2
        omega
      · have h1' := (List.getElem?_eq_some_iff.mp hc).1
        have : i = 0 := by simp at h1'; omega
        subst this
        cases hc
        exact ⟨[a], rfl, a, us, rfl, h1, Rps.nl _ _ hn (Rps.mono (A := []) (A' := []) vw (Pre.refl _) _ _ (Rps.nl _ _ hn hr2))⟩
  · have h : o = .er Ca := h
    subst h
    exact q H' t.nil
end
section
variable {X : Cx} {M M1 M2 M3 : List C} {env : EnvD} {a b o e : Expr} {es : List Expr} {x y z d : D} {ds : List D} {pos p apos cpos : Pos} {m : Str} {k : Nat} {ps : List Str} {Sg : List D → Out → Prop} {Cl : Addr}
theorem own_list {K : PySem.W.Frag} {F : Addr → Prop} {A B : Fps} {M : List C} {H H' : Hp} {xs : List Int} {v : V} (S : Sto K F A M H) (e : Same H H') (fr : ∀ fp ∈ B, ∀ a ∈ fp, H a = none) (T : Sto K F B [.lst (xs.map .int)] H') (r : Rp K B (Vw F B H') v (.loc 0)) :
    ∃ q, v = .ref q ∧ Sto K F (A ++ [[q]]) (M ++ [.lst (xs.map .int)]) H' ∧ Stp A H (A ++ [[q]]) H' ∧ ∀ G : Hp, Rp K (A ++ [[q]]) G (.ref q) (.loc M.length) := by
  obtain ⟨q, vs, rfl, hB, h1, hr⟩ := T.lst rfl r
  rw [hr.ints] at h1
  obtain ⟨g1, g2, g3⟩ := S.grow (c := .lst (xs.map .int)) (fr [q] (List.mem_of_getElem? hB) q (List.mem_singleton.mpr rfl)) e (by rw [h1]; simp) ⟨q, _, rfl, h1, .of_ints xs⟩
  exact ⟨q, rfl, g1, g2, g3⟩
/-- the callee sees the cells whole, its answer is a new list of ints -/
theorem de_methRL {pl : Sem Bool} {xs : List Int} {es' : List D} (Mt : Mtd X.prog X.w X.K X.mg X.base Cl m k ps (spX X.K Sg)) (cl : Cls X.K Cl) (hr : Room k X.A) (ho : DE X M env o x M1) (hob : Ob M1 Cl m x) (ha : DA X M1 env (e :: es) ds M2) (hR : Ress M2 (x :: ds) es') (hs : Sg es' (.own (.loc 0) [.lst (xs.map .int)]))
    (hst : starEach (e :: es) X.env = (false, eval e X.env) :: starEach es X.env := by rfl) (hpl : (backTo pos (starEach es X.env)).any (·.1) = false := by rfl)
    (ht : eval (.Call (.Attribute o m apos) (e :: es) [] pos) X.env = (do
      let ov ← eval o X.env
      standAt apos.atName
      let (f, first) ← holding [ov] (getMethod ov m pl)
      callWith pos f first (backTo pos (starEach (e :: es) X.env)) (backToKw pos (keywordEach [] X.env))) := by rfl) : DE X M env (.Call (.Attribute o m apos) (e :: es) [] pos) (.loc M2.length) (M2 ++ [.lst (xs.map .int)]) := fun σ H F A S L Q q => by
  refine s_meth Mt cl hr takes0 ?_ hst hpl ht
  refine ho σ H F A S L _ fun v H1 A1 t1 S1 r1 => ?_
  obtain ⟨qa, dx, fs, rfl, h1, h2⟩ := hob.at S1 r1
  refine ⟨qa, dx, fs, rfl, h1, h2, ?_⟩
  refine ha σ H1 F A1 S1 (L.stp S t1) _ fun vs H2 A2 t2 S2 r2 => ?_
  refine ⟨F, es', .own (.loc 0) [.lst (xs.map .int)], S2.hid, Ress.rp S2 hR (.cons (r1.stp S1 t2) r2), hs, fun v H3 B e3 fr T r3 => ?_⟩
  obtain ⟨qn, rfl, g1, g2, g3⟩ := own_list S2 e3 fr T r3
  exact q _ H3 _ ((t1.trans t2).trans g2) g1 (g3 _)
theorem de_callRL {x : Str} {xs : List Int} {es' : List D} (Df : Dfn X.prog X.w X.K X.mg X.base x k ps (spX X.K Sg)) (hr : Room k X.A) (ha : DA X M env (e :: es) ds M1) (hR : Ress M1 ds es') (hs : Sg es' (.own (.loc 0) [.lst (xs.map .int)])) (hg : Gl X x := by rfl) (hdb : (x == ("__debug__" : Str)) = false := by decide)
    (he : starEach (e :: es) X.env = (false, eval e X.env) :: starEach es X.env := by rfl) (hpl : (backTo pos (starEach es X.env)).any (·.1) = false := by rfl) : DE X M env (.Call (.Name x p) (e :: es) [] pos) (.loc M1.length) (M1 ++ [.lst (xs.map .int)]) := fun σ H F A S L Q q => by
  refine s_call Df hr takes0 ?_ hg hdb he hpl
  refine ha σ H F A S L _ fun vs H1 A1 t1 S1 r1 => ?_
  refine ⟨F, es', .own (.loc 0) [.lst (xs.map .int)], S1.hid, Ress.rp S1 hR r1, hs, fun v H2 B e2 fr T r2 => ?_⟩
  obtain ⟨qn, rfl, g1, g2, g3⟩ := own_list S1 e2 fr T r2
  exact q _ H2 _ (t1.trans g2) g1 (g3 _)
end
end KT
namespace KT
open PySem PySem.Spec PyProof.Rows L2

/-! ### len(set(a list of ints)) -/
section
variable {X : Cx} {M M1 M2 M3 : List C} {env : EnvD} {a b o e : Expr} {x y d : D} {ds : List D} {pos p apos cpos : Pos}
def tLenSetA (K : PySem.W.Frag) (te : TE) : TE := fun σ H Q => te σ H fun v H1 => ∃ (l : Addr) (ns out : List Int), v = .ref l ∧ SqL K H1 l (ns.map V.int) ∧ ns.length ≤ 4000 ∧ out.Nodup ∧ (∀ k, k ∈ out ↔ k ∈ ns) ∧ Q (.int out.length) H1
theorem pe_lenSetA {te : TE} {p p2 pos pos2 : Pos} (hc : X.calm = true) (hg : Gl X "len") (hm : X.mg "len" = none) (hg2 : Gl X "set") (hm2 : X.mg "set" = none) (he : PE X e te)
    (hs : starEach [e] X.env = (false, eval e X.env) :: starEach [] X.env := by rfl)
    (hs2 : starEach [.Call (.Name "set" p2) [e] [] pos2] X.env = (false, eval (.Call (.Name "set" p2) [e] [] pos2) X.env) :: starEach [] X.env := by rfl) :
    PE X (.Call (.Name "len" p) [.Call (.Name "set" p2) [e] [] pos2] [] pos) (tLenSetA X.K te) := by
  refine ⟨fun pins s σ H Q I h => ?_⟩
  refine Call_ (ld_blt I hg hm PySem.boot_len ?_)
  refine PyProof.Rows.callWith_builtin1 (PyProof.Rows.args_cons (Call_ (ld_blt I hg2 hm2 PyProof.Rows.boot_set (PyProof.Rows.callWith_type1 (PyProof.Rows.args_cons (thn (he.run pins s σ H _ I h) fun u s1 ⟨v, H1, I1, r1, q1⟩ => PyProof.Rows.args_nil ?_) hs) hs rfl))) hs2) hs2 rfl
  obtain ⟨l, ns, out, ev, hq, hn, h1, h2, q⟩ := q1
  subst ev
  obtain rfl : u = Value.ref l := r1
  obtain ⟨its, rv, pl, hz⟩ := I1.list hq
  have hd := I1.ok.hd hc
  refine call_set_lstI ns hd pl.isList (ints_of_vals rv) (by unfold scanBound; omega) fun h' tk c R1 hcn k => PyProof.Rows.args_nil ?_
  obtain ⟨o, es, ep, t, ho, hex, hdt, g, nd, hm3, hb, hf, hsz, hr, hl2⟩ := R1
  have hcl : c = out.length := by
    have hp : (es.toList.map keyOf).Perm out := (List.perm_ext_iff_of_nodup nd h1).mpr fun j => by rw [← hm3 j, decide_eq_true_eq, h2]
    have := hp.length_eq
    rw [List.length_map, Array.length_toList] at this
    omega
  have I2 : Inv X pins σ H1 { s1 with heap := h', toks := tk } := I1.kept fun b o e => k b o e
  exact call_len_set ho hex hdt hf (by omega) ⟨.int out.length, H1, I2.tok _, ⟨_, by rw [← hcl, ← hsz]⟩, q⟩
theorem de_lenSet {ns out : List Int} {p p2 pos pos2 : Pos} (he : DE X M env e x M1) (hl : Ls M1 x (ns.map D.int)) (hm : X.mg "len" = none) (hm2 : X.mg "set" = none) (hn : ns.length ≤ 4000) (h1 : out.Nodup) (h2 : ∀ k, k ∈ out ↔ k ∈ ns) (hc : X.calm = true := by rfl) (hg : Gl X "len" := by rfl) (hg2 : Gl X "set" := by rfl)
    (hs : starEach [e] X.env = (false, eval e X.env) :: starEach [] X.env := by rfl)
    (hs2 : starEach [.Call (.Name "set" p2) [e] [] pos2] X.env = (false, eval (.Call (.Name "set" p2) [e] [] pos2) X.env) :: starEach [] X.env := by rfl) :
    DE X M env (.Call (.Name "len" p) [.Call (.Name "set" p2) [e] [] pos2] [] pos) (.int (out.length : Int)) M1 := fun σ H F A S L Q q => by
  refine sE (pe_lenSetA hc hg hm hg2 hm2 (semE X e) hs hs2) ?_
  refine he σ H F A S L _ fun v H1 A1 t1 S1 rv => ?_
  obtain ⟨qa, vs, rfl, g1, g2⟩ := hl.at S1 rv
  rw [g2.ints] at g1
  exact ⟨qa, ns, out, rfl, g1, hn, h1, h2, q _ _ _ t1 S1 (.int _)⟩
end
end KT
namespace KT
open PySem PySem.Spec PyProof.Rows L2

/-! ### new lists of data without addresses, answered -/
def atm : D → Bool
  | .non => true | .bl _ => true | .int _ => true | .str _ => true
  | _ => false
theorem Rp.atm {K : PySem.W.Frag} {A A' : Fps} {G G' : Hp} {v : V} {d : D} (hd : KT.atm d = true) (h : Rp K A G v d) : Rp K A' G' v d := by
  cases d with
  | non => cases h; exact .non
  | bl b => cases h; exact .bl b
  | int i => cases h; exact .int i
  | str s => cases h; exact .str s
  | lst _ => cases hd
  | tup _ => cases hd
  | obj _ _ => cases hd
  | loc _ => cases hd
  | adr _ => cases hd
  | ty _ => cases hd
  | scr _ => cases hd
theorem Rps.atm {K : PySem.W.Frag} {A A' : Fps} {G G' : Hp} (ds : List D) : ∀ (vs : List V), (∀ d ∈ ds, KT.atm d = true) → Rps K A G vs ds → Rps K A' G' vs ds := by
  induction ds with
  | nil => intro vs _ h; cases h; exact .nil
  | cons d ds ih =>
    intro vs hd h
    cases h with
    | cons r rs => exact .cons (Rp.atm (hd _ List.mem_cons_self) r) (ih _ (fun d h => hd d (List.mem_cons_of_mem _ h)) rs)
section
variable {X : Cx} {M M1 M2 M3 : List C} {env : EnvD} {a b o e f : Expr} {es : List Expr} {x y z d : D} {ds : List D} {pos p apos cpos : Pos} {m : Str} {k : Nat} {ps : List Str} {Sg : List D → Out → Prop} {Cl : Addr}
theorem own_listA {K : PySem.W.Frag} {F : Addr → Prop} {A B : Fps} {M : List C} {H H' : Hp} {xs : List D} {v : V} (hx : ∀ d ∈ xs, atm d = true) (S : Sto K F A M H) (e : Same H H') (fr : ∀ fp ∈ B, ∀ a ∈ fp, H a = none) (T : Sto K F B [.lst xs] H') (r : Rp K B (Vw F B H') v (.loc 0)) :
    ∃ q, v = .ref q ∧ Sto K F (A ++ [[q]]) (M ++ [.lst xs]) H' ∧ Stp A H (A ++ [[q]]) H' ∧ ∀ G : Hp, Rp K (A ++ [[q]]) G (.ref q) (.loc M.length) := by
  obtain ⟨q, vs, rfl, hB, h1, hr⟩ := T.lst rfl r
  obtain ⟨g1, g2, g3⟩ := S.grow (c := .lst xs) (fr [q] (List.mem_of_getElem? hB) q (List.mem_singleton.mpr rfl)) e (by rw [h1]; simp) ⟨q, _, rfl, h1, Rps.atm _ _ hx hr⟩
  exact ⟨q, rfl, g1, g2, g3⟩
theorem de_methRA {pl : Sem Bool} {xs : List D} {es' : List D} (hx : ∀ d ∈ xs, atm d = true) (Mt : Mtd X.prog X.w X.K X.mg X.base Cl m k ps (spX X.K Sg)) (cl : Cls X.K Cl) (hr : Room k X.A) (ho : DE X M env o x M1) (hob : Ob M1 Cl m x) (ha : DA X M1 env (e :: es) ds M2) (hR : Ress M2 (x :: ds) es') (hs : Sg es' (.own (.loc 0) [.lst xs]))
    (hst : starEach (e :: es) X.env = (false, eval e X.env) :: starEach es X.env := by rfl) (hpl : (backTo pos (starEach es X.env)).any (·.1) = false := by rfl)
    (ht : eval (.Call (.Attribute o m apos) (e :: es) [] pos) X.env = (do
      let ov ← eval o X.env
      standAt apos.atName
      let (f, first) ← holding [ov] (getMethod ov m pl)
      callWith pos f first (backTo pos (starEach (e :: es) X.env)) (backToKw pos (keywordEach [] X.env))) := by rfl) : DE X M env (.Call (.Attribute o m apos) (e :: es) [] pos) (.loc M2.length) (M2 ++ [.lst xs]) := fun σ H F A S L Q q => by
  refine s_meth Mt cl hr takes0 ?_ hst hpl ht
  refine ho σ H F A S L _ fun v H1 A1 t1 S1 r1 => ?_
  obtain ⟨qa, dx, fs, rfl, h1, h2⟩ := hob.at S1 r1
  refine ⟨qa, dx, fs, rfl, h1, h2, ?_⟩
  refine ha σ H1 F A1 S1 (L.stp S t1) _ fun vs H2 A2 t2 S2 r2 => ?_
  refine ⟨F, es', .own (.loc 0) [.lst xs], S2.hid, Ress.rp S2 hR (.cons (r1.stp S1 t2) r2), hs, fun v H3 B e3 fr T r3 => ?_⟩
  obtain ⟨qn, rfl, g1, g2, g3⟩ := own_listA hx S2 e3 fr T r3
  exact q _ H3 _ ((t1.trans t2).trans g2) g1 (g3 _)
theorem de_callRA {x : Str} {xs : List D} {es' : List D} (hx : ∀ d ∈ xs, atm d = true) (Df : Dfn X.prog X.w X.K X.mg X.base x k ps (spX X.K Sg)) (hr : Room k X.A) (ha : DA X M env (e :: es) ds M1) (hR : Ress M1 ds es') (hs : Sg es' (.own (.loc 0) [.lst xs])) (hg : Gl X x := by rfl) (hdb : (x == ("__debug__" : Str)) = false := by decide)
    (he : starEach (e :: es) X.env = (false, eval e X.env) :: starEach es X.env := by rfl) (hpl : (backTo pos (starEach es X.env)).any (·.1) = false := by rfl) : DE X M env (.Call (.Name x p) (e :: es) [] pos) (.loc M1.length) (M1 ++ [.lst xs]) := fun σ H F A S L Q q => by
  refine s_call Df hr takes0 ?_ hg hdb he hpl
  refine ha σ H F A S L _ fun vs H1 A1 t1 S1 r1 => ?_
  refine ⟨F, es', .own (.loc 0) [.lst xs], S1.hid, Ress.rp S1 hR r1, hs, fun v H2 B e2 fr T r2 => ?_⟩
  obtain ⟨qn, rfl, g1, g2, g3⟩ := own_listA hx S1 e2 fr T r2
  exact q _ H2 _ (t1.trans g2) g1 (g3 _)
/-! ### {k: v}, d.get(k, x) -/
theorem de_disp1 {ky : Key} (hk : DE X (M ++ [.dk []]) env e (keyD ky) (M ++ [.dk []])) (hv : DE X (M ++ [.dk []]) env f d (M ++ [.dk []])) : DE X M env (.Dict [some e] [f] pos) (.loc M.length) (M ++ [.dk [(ky, d)]]) := fun σ H F A S L Q q => by
  refine sE (pe_disp (pps_cons (semE X e) (semE X f) pps_nil) rfl rfl (by simp) (by simp)) ?_
  intro qa hq
  obtain ⟨g1, g2, g3⟩ := S.grow (c := .dk []) (H1 := upd H qa (.dK [])) hq (same_new hq) (by rw [upd_same]; simp) ⟨qa, [], rfl, upd_same, .nil⟩
  refine hk σ _ F _ g1 (L.stp S g2) _ fun v H1 A1 t1 S1 r1 => ?_
  refine hv σ H1 F A1 S1 ((L.stp S g2).stp g1 t1) _ fun u H2 A2 t2 S2 r2 => ?_
  have r3 := ((g3 _).stp g1 t1).stp S1 t2
  obtain ⟨qb, kws, e1, hA, h1, hr⟩ := S2.dk (k := M.length) (kvs := []) (by simp) r3
  cases e1
  cases hr
  refine ⟨h1, [(ky, u)], ?_, by simp, ?_⟩
  · rw [r1.key]; rfl
  have hm : mergeK [] [(ky, u)] = [(ky, u)] := rfl
  rw [hm]
  obtain ⟨k1, k2⟩ := S2.put (k := M.length) (c := .dk [(ky, d)]) (o := .dK [(ky, u)]) hA (by simp) ⟨qa, _, rfl, upd_same, .cons r2 .nil⟩
  have e2 : (M ++ [C.dk []]).set M.length (C.dk [(ky, d)]) = M ++ [C.dk [(ky, d)]] := by simp
  rw [e2] at k1
  exact q (.ref qa) _ A2 (((g2.trans t1).trans t2).trans k2) k1 (r3.stp S2 k2)
theorem de_getD2 {ky : Key} {kvs : List (Key × D)} {r : D} (hu : X.A.units + 1 < cLine) (ho : DE X M env o (.loc k) M) (he : DE X M env e (keyD ky) M) (hf : DE X M env f d M) (hm : M[k]? = some (.dk kvs)) (hv : (valD kvs ky).getD d = r) (m : L2.M2 X o "get" apos e f cpos := by exact ⟨rfl, rfl, rfl, rfl⟩) : DE X M env (.Call (.Attribute o "get" apos) [e, f] [] cpos) r M := fun σ H F A S L Q q => by
  refine sE (pe_dget2 hu (semE X o) (semE X e) (semE X f) m) ?_
  refine ho σ H F A S L _ fun v H1 A1 t1 S1 r1 => ?_
  obtain ⟨qa, kws, e1, hA, h1, hr1⟩ := S1.dk hm r1
  subst e1
  refine ⟨qa, rfl, .inl ⟨kws, .inl h1⟩, ?_⟩
  refine he σ H1 F A1 S1 (L.stp S t1) _ fun u H2 A2 t2 S2 r2 => ?_
  refine hf σ H2 F A2 S2 ((L.stp S t1).stp S1 t2) _ fun w H3 A3 t3 S3 r3 => ?_
  obtain ⟨qb, kws', e2, hA2, h2, hr2⟩ := S3.dk hm ((r1.stp S1 t2).stp S2 t3)
  cases e2
  rw [r2.key]
  rcases hr2.val (ky := ky) with ⟨g1, g2⟩ | ⟨d', v', g1, g2, g3⟩
  · refine ⟨_, DGet.k h2, ?_⟩
    rw [g2]
    rw [g1] at hv
    subst hv
    exact q w H3 A3 ((t1.trans t2).trans t3) S3 r3
  · refine ⟨_, DGet.k h2, ?_⟩
    rw [g2]
    rw [g1] at hv
    subst hv
    exact q v' H3 A3 ((t1.trans t2).trans t3) S3 g3
/-- i <= j < k -/
theorem dt_range {i j n : Int} {c : Expr} (ha : DE X M env a (.int i) M) (hb : DE X M env b (.int j) M) (hc : DE X M env c (.int n) M)
    (hm : lastMarks [.LtE, .Lt] [b, c] = false := by with_unfolding_all rfl) : DT X M env (.Compare a [.LtE, .Lt] [b, c] pos) (decide (i ≤ j) && decide (j < n)) M := fun σ H F A S L Q q => by
  refine sT (pt_chain op_le op_lt (semE X a) (semE X b) (semE X c) hm) ?_
  refine ha σ H F A S L _ fun v H1 A1 t1 S1 r1 => ?_
  refine hb σ H1 F A1 S1 (L.stp S t1) _ fun u H2 A2 t2 S2 r2 => ?_
  cases r1; cases r2
  refine ⟨i, j, rfl, rfl, decide (i ≤ j), rfl, ?_⟩
  by_cases hij : i ≤ j
  · rw [decide_eq_true hij, if_pos rfl]
    refine hc σ H2 F A2 S2 ((L.stp S t1).stp S1 t2) _ fun w H3 A3 t3 S3 r3 => ?_
    cases r3
    have q := q H3 A3 ((t1.trans t2).trans t3) S3
    rw [decide_eq_true hij, Bool.true_and] at q
    exact ⟨j, n, rfl, rfl, _, rfl, q⟩
  · rw [decide_eq_false hij, if_neg (by simp)]
    have q := q H2 A2 (t1.trans t2) S2
    rw [decide_eq_false hij, Bool.false_and] at q
    exact ⟨false, rfl, q⟩
/-! list(tuple); x in a list, as a value -/
theorem df_listT {f : Str} {p : Pos} (hm : X.mg f = none) (hv : bootBuiltins f = some (.type "list")) (ha : DA X M env [e] [.tup ds] M1) (hg : Gl X f := by rfl) (hn : f ≠ "__name__" := by decide) (hdb : (f == ("__debug__" : Str)) = false := by decide)
    (he : starEach [e] X.env = (false, eval e X.env) :: starEach [] X.env := by rfl) (hpl : (backTo pos (starEach [] X.env)).any (·.1) = false := by rfl) : DF X M env (.Call (.Name f p) [e] [] pos) ds M1 := df_callTy call_list_of rcf_listT hm hv ha hg hn hdb he hpl
theorem de_inI {n : Int} {ns : List Int} (ha : DE X M env a (.int n) M1) (hb : DE X M1 env b y M2) (hl : Ls M2 y (ns.map D.int)) (hm : behindInMarks .In b = false := by rfl) : DE X M env (.Compare a [.In] [b] pos) (.bl (decide (n ∈ ns))) M2 := by
  have := de_cmp (pos := pos) op_in_seq ha hb (rv_inF (neg := false) hl rfl (ints_flat ns)) hm
  rw [← inV_ints]
  exact this
end
theorem set_get {M : List C} {k : Nat} {c : C} (h : M[k]? = some c) (c' : C) : (M.set k c')[k]? = some c' := by
  rw [List.getElem?_set, if_pos rfl, if_pos (List.getElem?_eq_some_iff.mp h).1]
end KT
namespace KT
open PySem PySem.Spec PyProof.Rows L2
section
variable {X : Cx} {M M1 M2 M3 : List C} {env : EnvD} {a b o e f : Expr} {es : List Expr} {x y z d : D} {ds : List D} {pos p apos cpos : Pos} {m : Str} {k : Nat} {ps : List Str} {Sg : List D → Out → Prop} {Cl : Addr}
/-- a new list answered, taken as it is -/
theorem de_callRD {x : Str} {xs : List D} {es' : List D} (hx : ∀ d ∈ xs, atm d = true) (Df : Dfn X.prog X.w X.K X.mg X.base x k ps (spX X.K Sg)) (hr : Room k X.A) (ha : DA X M env (e :: es) ds M1) (hR : Ress M1 ds es') (hs : Sg es' (.own (.loc 0) [.lst xs])) (hg : Gl X x := by rfl) (hdb : (x == ("__debug__" : Str)) = false := by decide)
    (he : starEach (e :: es) X.env = (false, eval e X.env) :: starEach es X.env := by rfl) (hpl : (backTo pos (starEach es X.env)).any (·.1) = false := by rfl) : DE X M env (.Call (.Name x p) (e :: es) [] pos) (.lst xs) M1 := fun σ H F A S L Q q => by
  refine s_call Df hr takes0 ?_ hg hdb he hpl
  refine ha σ H F A S L _ fun vs H1 A1 t1 S1 r1 => ?_
  refine ⟨F, es', .own (.loc 0) [.lst xs], S1.hid, Ress.rp S1 hR r1, hs, fun v H2 B e2 fr T r2 => ?_⟩
  obtain ⟨qn, us, rfl, hB, h1, hr1⟩ := T.lst rfl r2
  have hp : H1 qn = none := fr [qn] (List.mem_of_getElem? hB) qn (List.mem_singleton.mpr rfl)
  exact q (.ref qn) H2 A1 (t1.trans (Stp.same e2)) (S1.same e2) (.lst (Vw.of h1 (fun z => S1.hid qn z hp) fun fp hf hm => (S1.trk fp hf qn hm).1 hp) (Rps.atm _ _ hx hr1))
/-- the whole of a tuple -/
theorem de_sliceTW {lo hi : Option Expr} {i j : Option Int} {p2 : Pos} (ha : DE X M env a (.tup ds) M1) (hlo : DO X M1 env lo i M2) (hhi : DO X M2 env hi j M3) (hw : HT.sIx ds.length 0 i = 0 ∧ HT.sIx ds.length ds.length j = ds.length) : DE X M env (.Subscript a (.Slice lo hi none p2) pos) (.tup ds) M3 := fun σ H F A S L Q q => by
  obtain ⟨t1, p1, r1⟩ := hlo.read
  obtain ⟨t2, p2, r2⟩ := hhi.read
  refine sE (pe_slice sl_tupA (semE X a) p1 p2) ?_
  refine ha σ H F A S L _ fun v H1 A1 s1 S1 rv => ?_
  refine r1 σ H1 F A1 S1 (L.stp S s1) _ fun H2 A2 s2 S2 => ?_
  refine r2 σ H2 F A2 S2 ((L.stp S s1).stp S1 s2) _ fun H3 A3 s3 S3 => ?_
  have r3 := (rv.stp S1 s2).stp S2 s3
  obtain ⟨qa, vs, rfl, h1, hr⟩ := r3.tup_at
  refine ⟨qa, vs, rfl, SqT.of h1, fun _ => q _ _ A3 ((s1.trans s2).trans s3) S3 r3, fun n => absurd ?_ n⟩
  rw [hr.length]
  exact hw
end
end KT
/-! an exception that leaves a list comprehension at its first item -/
namespace KT
open PySem PySem.Spec PyProof.Rows L2
section
variable {X : Cx} {pins : List (Addr × Obj)} {σ : L2.St} {H H1 : Hp} {s : Shared}
theorem tracedZ_same {h h2 base : Heap} {e C : Addr} {Z : Obj → Prop} {fl : Value} {m : Str → Option Value} (t : HandSPX.TracedZ h base e Z fl) (hn : h.Ns C m) (hs : Heap.SameBut C h h2) : HandSPX.TracedZ h2 base e Z fl := by
  obtain ⟨oe, vs, Tb, oT, ts, t1, t2, t3, t4, t5, t6, t7, t8, t9⟩ := t
  obtain ⟨oL, es, ep, hoL, hdL, _⟩ := hn
  have ne : ∀ (b : Addr) (o : Obj) (us : Array Value), h.get? b = some o → o.data = .fields us → b ≠ C := fun b o us hb hf z => by
    rw [z, hoL] at hb
    cases hb
    rw [hdL] at hf
    cases hf
  exact ⟨oe, vs, Tb, oT, ts, (hs.2 e (ne _ _ _ t1 t3)).trans t1, t2, t3, t4, t5, t6, (hs.2 Tb (ne _ _ _ t7 t8)).trans t7, t8, t9⟩
/-- noted by the comprehension, let go, and on in the def -/
theorem comp_out {Wf : XK} {W : WX} (tk : Takes X W) (hW : ∀ cls d H', Wf cls d H' → W cls d σ H') (hst : X.stack = X.env :: X.outer) (hfr : X.env.frame = some X.env.locals) {ce : Env} (hcf : ce.frame = X.env.frame)
    (I : Inv X pins σ H1 s) (fp : FpOk X pins H1 ce.locals) {m : Str → Option Value} (hn : s.heap.Ns ce.locals m) {u : Value} {s' : Shared} (c : CX X.prog X.w X.stack H1 s Wf u s') :
    notedBy (model X.prog X.w) X.A ce (fun e s' => CompFails (model X.prog X.w) X.A X.xe ce e s') u s' := by
  obtain ⟨a, B, H2, cls, d, rfl, fl, hok, ub, na, os, ag, hE⟩ := c
  generalize hC : ce.locals = C at fp hn
  obtain ⟨f0, f1, f2, f3, f4, f5⟩ := fp
  have hCs : C ∉ frs X.stack := fun hm => by
    rw [hst] at hm
    rcases List.mem_filterMap.mp hm with ⟨e, he, hf⟩
    rcases List.mem_cons.mp he with rfl | he
    · rw [hfr] at hf
      exact f1 (Option.some.inj hf).symm
    · exact f2 (List.mem_filterMap.mpr ⟨e, he, hf⟩)
  obtain ⟨oC, hoC⟩ : ∃ o, s.heap.get? C = some o := by obtain ⟨oL, _, _, h1, _⟩ := hn; exact ⟨oL, h1⟩
  have hBC : B.get? C = some oC := ub.keep C oC hoC f0 hCs
  have hH2 : H2 C = none := ub.free C oC hoC f0
  have stB : B.StaysIn s'.heap := fl.1
  -- the ground without the block's names
  have hB' : ∀ b o, (PySem.W.hideAll B [C]).get? b = some o → B.get? b = some o ∧ b ≠ C := fun b o e => ⟨PySem.W.of_hideAll _ e, fun z => by rw [PySem.W.hideAll_none [C] (by rw [z]; simp)] at e; cases e⟩
  have hB2 : ∀ b o, B.get? b = some o → b ≠ C → (PySem.W.hideAll B [C]).get? b = some o := fun b o e z => PySem.W.hideAll_get _ e (by simpa using z)
  have noB : ∀ b, B.get? b = none → (PySem.W.hideAll B [C]).get? b = none := fun b e => by
    cases q : (PySem.W.hideAll B [C]).get? b with
    | none => rfl
    | some o => rw [(hB' b o q).1] at e; cases e
  have hC0 : (PySem.W.hideAll B [C]).get? C = none := PySem.W.hideAll_none _ (by simp)
  have flB : HandSPX.FlyingZ (PySem.W.hideAll B [C]) X.stack a (Zc cls d) s'.heap := by
    obtain ⟨x1, x2, x3, oe, vs, Tb, oT, ts, t1, t2, t3, t4, t5, t6⟩ := fl
    exact ⟨fun b o e => x1 b o (hB' b o e).1, noB _ x2, funFrames_none x3 (fun L hL => by
      cases q : (PySem.W.hideAll B [C]).get? L with
      | none => rfl
      | some o =>
        obtain ⟨_, o', _, hnf⟩ := I.stack.mem hL
        exact absurd ((hB' L o q).1) (by
          obtain ⟨e1, _⟩ := x3.mem hL
          rw [e1]; simp)), oe, vs, Tb, oT, ts, t1, t2, t3, t4, noB _ t5, t6⟩
  generalize hBB : PySem.W.hideAll B [C] = B' at hB' hB2 noB hC0 flB
  obtain ⟨G, g1, g2⟩ := restrict s'.heap fun b => (B'.get? b).isSome || decide (b ∈ frs X.stack)
  have gB : ∀ b o, B'.get? b = some o → G.get? b = some o := fun b o e => by
    rw [g1 b (by simp [e])]
    exact flB.1 b o e
  have og : ∀ b o, G.get? b = some o → s'.heap.get? b = some o ∧ ((B'.get? b).isSome = true ∨ b ∈ frs X.stack) := fun b o e => by
    cases q : ((B'.get? b).isSome || decide (b ∈ frs X.stack)) with
    | false => rw [g2 b q] at e; cases e
    | true => exact ⟨by rw [← g1 b q]; exact e, by simpa [Bool.or_eq_true] using q⟩
  have gC : G.get? C = none := g2 C (by simp [hC0, hCs])
  have hk : ∀ b o, (PySem.W.hideAll s.heap [C]).get? b = some o → s.heap.get? b = some o ∧ b ≠ C := fun b o e => ⟨PySem.W.of_hideAll _ e, fun z => by rw [PySem.W.hideAll_none [C] (by rw [z]; simp)] at e; cases e⟩
  have IH : Inv X pins σ H1 { s with heap := PySem.W.hideAll s.heap [C], toks := s.toks } := I.turned (it := C) (fun b o hb e => PySem.W.hideAll_get _ e (by simpa using hb)) f0 f1 f3 f4 f5
  have hokG : HOk X.prog X.w H2 G := fun b o q => (hok b o q).stay (fun c u hc r => gB c u (hB2 c u r fun z => by
      rcases hc with hc | hc
      · rw [← hc, z, hH2] at q; cases q
      · rw [z, hH2] at hc; cases hc)) (fun _ r => r) fun _ _ r => r
  have IG : Inv X pins σ H2 { s with heap := G, gens := s'.gens, drawn := s'.drawn, toks := s'.toks } := by
    refine IH.call' (ch := []) rfl ⟨fun b o e n hb _ => gB b o (hB2 b o (ub.keep b o (hk b o e).1 n hb) (hk b o e).2), fun b o e n hb _ => ?_, fun b o e n _ => ub.free b o (hk b o e).1 n, fun b o e _ => ?_, ub.tups, ub.frzs, ub.tbls⟩ hokG ag (fun _ z => nomatch z)
    · obtain ⟨sl, q⟩ := ub.slot b o (hk b o e).1 hb
      exact ⟨sl, by rw [g1 b (by simp [hb])]; exact q⟩
    · by_cases hb : b ∈ frs X.stack
      · obtain ⟨sl, q⟩ := ub.slot b o (hk b o e).1 hb
        exact ⟨_, by rw [g1 b (by simp [hb])]; exact q⟩
      · obtain ⟨o', q⟩ := ub.there b o (hk b o e).1 hb
        exact ⟨o', gB b o' (hB2 b o' q (hk b o e).2)⟩
  have nb : ∀ b o, G.get? b = some o → b ∉ frs X.stack → B'.get? b = some o := fun b o e hb => by
    obtain ⟨e', h⟩ := og b o e
    rcases h with h | h
    · obtain ⟨o', q⟩ := Option.isSome_iff_exists.mp h
      have z := flB.1 b o' q
      rw [e'] at z
      cases z
      exact q
    · exact absurd h hb
  have hnC : s'.heap.Ns C m := by
    obtain ⟨oL, es, ep, h1, r⟩ := hn
    rw [hoC] at h1
    cases h1
    exact ⟨oC, es, ep, stB C oC hBC, r⟩
  have hfrA : X.A.frames = some (X.env :: X.outer) := by rw [I.ok.frames, hst]
  show wpAny _ _ (noteFrame (.ref a) ce) _ _ s'
  rw [noteFrame_env _ hcf]
  rw [hst] at flB
  refine HandSPX.looks_onZ Zc.steady hfrA hfr flB fun h1 hh up1 => ?_
  show CompFails _ _ _ _ _ _
  have hn1 : h1.Ns C m := hnC.upToSlots up1
  refine ⟨m, by rw [hC]; exact hn1, fun h2 m2 hn2 hs2 => ?_⟩
  rw [hC] at hn2 hs2
  have hs2 : Heap.SameBut C h1 h2 := hs2
  obtain ⟨y1, y2, y3, y4⟩ := hh
  have z1 : B'.StaysIn h2 := fun b o e => (hs2.2 b fun z => by rw [z, hC0] at e; cases e).trans (y1 b o e)
  have z3 : h2.FunFrames B' (X.env :: X.outer) := Heap.FunFrames.sameBut hs2 hn2 y3
  have z4 := tracedZ_same y4 hn1 hs2
  obtain ⟨oe, vs, Tb, oT, ts, t1, t2, t3, t4, t5, t6, t7, t8, t9⟩ := z4
  unfold PySem.passOn
  refine wpAny_bind (wpAny_field t1 t3 t4 ?_)
  rw [if_neg (by simp)]
  rw [hcf, hfr]
  refine wpAny_bind (HandSPX.setFlight_onZ (base := B') (l := X.env :: X.outer) (Z := Zc cls d) ⟨z1, y2, z3, oe, vs, Tb, oT, ts, t1, t2, t3, t4, t5, t6, t7, t8, t9⟩ fun h3 hh3 up3 => ?_)
  refine wpAny_throw (tk _ _ ⟨a, B', _, pins, σ, H2, cls, d, rfl, IG, nb, ?_, .inr (.inr ?_), na, os, ag, hW _ _ _ hE⟩)
  · have upG : G.UpToSlots h2 := fun b o e hnf => by
      obtain ⟨e', _⟩ := og b o e
      obtain ⟨sl, e1⟩ := up1 b o e' hnf
      exact ⟨sl, (hs2.2 b fun z => by rw [z, gC] at e; cases e).trans e1⟩
    exact upG.trans up3
  · rw [hst]
    exact hh3
end
/-- an expression raises, the wish given by calls alone -/
def DXp (X : Cx) (M : List C) (env : EnvD) (e : Expr) (Ca : Addr) (M' : List C) : Prop := ∀ (σ : L2.St) (H : Hp) (F : Addr → Prop) (A : Fps), Sto X.K F A M H → Slots X.K A (Vw F A H) env σ → ∀ (Wf : XK), (∀ σ, PassesAt (L2.CX X.prog X.w) X σ Wf) →
  (∀ H' A', Stp A H A' H' → Sto X.K F A' M' H' → Wf (.ref Ca) none H') → ∀ Q : VK, SemE X e σ H Q
section
variable {X : Cx} {M M1 M2 M3 : List C} {env : EnvD} {a b e : Expr} {es : List Expr} {d : D} {ds : List D} {pos p apos : Pos} {x : Str} {k : Nat} {ps : List Str} {Sg : List D → Out → Prop} {Cl Ca : Addr}
theorem dxp_call {es' : List D} (Df : Dfn X.prog X.w X.K X.mg X.base x k ps (spX X.K Sg)) (hr : Room k X.A) (ha : DA X M env (e :: es) ds M1) (hR : Ress M1 ds es') (hs : Sg es' (.er Ca)) (hg : Gl X x := by rfl) (hdb : (x == ("__debug__" : Str)) = false := by decide)
    (he : starEach (e :: es) X.env = (false, eval e X.env) :: starEach es X.env := by rfl) (hpl : (backTo pos (starEach es X.env)).any (·.1) = false := by rfl) : DXp X M env (.Call (.Name x p) (e :: es) [] pos) Ca M1 := fun σ H F A S L Wf pa q Q => by
  obtain ⟨f, fd, hm, hk, hb, Fo⟩ := Df.ex
  refine sE (pe_callS (E := fun _ => Wf) Fo hr hg hm hk hb pa (semA X (e :: es)) hdb he hpl) ?_
  refine ha σ H F A S L _ fun vs H1 A1 t1 S1 r1 => ?_
  exact ⟨F, es', .er Ca, S1.hid, Ress.rp S1 hR r1, hs, fun H2 e2 => q H2 A1 (t1.trans (Stp.same e2)) (S1.same e2)⟩
theorem dxp_ix (ha : DXp X M env a Ca M1) : DXp X M env (.Subscript a b pos) Ca M1 := fun σ H F A S L Wf pa q Q pins s I =>
  Subscript_ (thn (ha σ H F A S L Wf pa q (fun _ _ => False) pins s I) fun v s1 ⟨_, _, _, _, z⟩ => z.elim)
/-- [elt for x in iter]: the first item raises -/
theorem dx_lc {elt iter : Expr} {scope : Scope} {own : List (Str × Nat)} {px : Pos} {cond : List C → Prop} {d0 : D} (j : Nat) (hi : DI X M env (.Name x px) iter cond ds M1) (h0 : ds[0]? = some d0) (hcd : cond M1) (ok : BlkOk X.N X.env.scope scope own) (hN : X.N.Nodup)
    (he : ∀ (s : Shared) (H : Hp) (Cc : Addr) (cl : List (Str × Addr)) (fp : List Addr) (E : Value → Shared → Prop), DXp ((X.blk s H scope (compEnvC scope cl Cc X.env) fp).wish E) M1 ((wipeE env (own.map (·.2))).set j (some d0)) elt Ca M1)
    (hst : X.stack = X.env :: X.outer) (hfr : X.env.frame = some X.env.locals)
    (hj : j ∈ own.map (·.2) := by simp) (hjx : X.N[j]? = some x := by rfl) (hx : ∀ (s : Shared) (H : Hp) (Cc : Addr) (cl : List (Str × Addr)) (fp : List Addr), Loc (X.blk s H scope (compEnvC scope cl Cc X.env) fp).env.scope x := by exact fun _ _ _ _ _ => by first | exact Or.inl rfl | exact Or.inr rfl)
    (hf : ∀ (s : Shared) (H : Hp) (Cc : Addr) (cl : List (Str × Addr)) (fp : List Addr), (X.blk s H scope (compEnvC scope cl Cc X.env) fp).fn x = true ∨ (X.blk s H scope (compEnvC scope cl Cc X.env) fp).env.scope.names.lookup x = some .local := by exact fun _ _ _ _ _ => by first | exact .inr rfl | exact .inl rfl)
    (hc : X.calm = true := by rfl) (hs : ∀ x, foldedSetIterable iter X.env x = pure x := by intro _; rfl) : DX X M env (.ListComp elt [⟨.Name x px, iter, [], 0⟩] scope pos) Ca M1 := fun σ H F A S L W tk q Q pins s I => by
  have hlt : 0 < ds.length := (List.getElem?_eq_some_iff.mp h0).1
  have hjl : j < σ.length := by
    rw [I.len]
    exact (List.getElem?_eq_some_iff.mp hjx).1
  have hfree : ∀ y ∈ scope.names, y.2 = .free → ∃ c, X.env.cells.lookup y.1 = some c := fun y hy e => (ok.free y hy e).elim (fun z => I.ok.has _ (.inl z)) fun z => I.ok.has _ (.inr z)
  rw [eval_ListComp]
  refine comprehension_at (use := none) rfl hs (closure_ok hfree) ok.kind (fun y hy e => by rw [ok.uniq y hy, e]) (thn (hi σ H F A S L (fun J H1 => ∃ A1, Stp A H A1 H1 ∧ Sto X.K F A1 M1 H1 ∧ Walks X.K F A1 H1 J cond ds) (fun J H1 A1 t1 S1 wk => ⟨A1, t1, S1, wk⟩) pins s I) fun xv s1 hx1 => thn hx1 fun itv s2 h2 => ?_)
  obtain ⟨it, fp, tn, J, H1, rfl, I2, T, st2, f2, A1, t1, S1, wk⟩ := h2
  refine wpAny_newObj_type (newEnv_comp ?_) (by show 0 ≤ sizeLine; decide)
  generalize hD : s2.heap.objs.size = Dl
  have hDn : H1 Dl = none := I2.hok.fresh (Nat.le_of_eq hD)
  have nF : ¬ F Dl := fun z => S1.hid Dl z hDn
  generalize hs3 : ({ s2 with heap := s2.heap.push { cls := .type "list", data := .seq ([] : List Value).toArray } } : Shared) = s3
  have I3 : Inv X pins σ (upd H1 Dl (.lst [])) s3 := by
    rw [← hs3]
    exact I2.laid (t' := s2.toks) (fun b o z => Heap.get?_push_of_some _ z) (Nat.le_of_eq hD) ⟨Nat.zero_le _, [], 0, .nil, by rw [← hD]; exact Heap.get?_push_size _ rfl⟩
  have h3 : s3.heap = s2.heap.push { cls := .type "list", data := .seq ([] : List Value).toArray } := by rw [← hs3]
  have f3 : ∀ b ∈ fp, FpOk X pins (upd H1 Dl (.lst [])) b ∧ b < s3.heap.objs.size := fun b hb => by
    obtain ⟨o, z, _⟩ := T.obj _ _ st2 b hb
    have hbl := Heap.lt_size z
    exact ⟨⟨by rw [upd_ne (by rw [← hD]; exact Nat.ne_of_lt hbl)]; exact (f2 b hb).1, (f2 b hb).2⟩, by rw [h3, Heap.size_push]; exact Nat.lt_succ_of_lt hbl⟩
  have st3 : tn 0 s3.heap := T.keep _ _ _ st2 fun b _ o z => by rw [h3]; exact Heap.get?_push_of_some _ z
  have I4 := block_start I3 ok hN f3
  have pg : PG (X.blk s3 (upd H1 Dl (.lst [])) scope (compEnvC scope (cellsFrom (s3.heap.objs.size + 1) scope.names (cloFrom X.env.cells scope.names [])) s3.heap.objs.size X.env) fp) (.Name x px) (gName j) := pg_name (i := j) hN hjx (hx s3 (upd H1 Dl (.lst [])) s3.heap.objs.size (cellsFrom (s3.heap.objs.size + 1) scope.names (cloFrom X.env.cells scope.names [])) fp) (hf s3 (upd H1 Dl (.lst [])) s3.heap.objs.size (cellsFrom (s3.heap.objs.size + 1) scope.names (cloFrom X.env.cells scope.names [])) fp)
  have hel := he s3 (upd H1 Dl (.lst [])) s3.heap.objs.size (cellsFrom (s3.heap.objs.size + 1) scope.names (cloFrom X.env.cells scope.names [])) fp
  show codeAny _ _ (.compStart (.ListComp elt [⟨.Name x px, iter, [], 0⟩] scope pos) 0 (.ref it) (.ref Dl) (compEnvC scope (cellsFrom (s3.heap.objs.size + 1) scope.names (cloFrom X.env.cells scope.names [])) s3.heap.objs.size X.env)) (compEnds (model X.prog X.w) X.A X.xe none _ (.ref Dl) (compEnvC scope (cellsFrom (s3.heap.objs.size + 1) scope.names (cloFrom X.env.cells scope.names [])) s3.heap.objs.size X.env)) { s3 with heap := pushCells (s3.heap.push { cls := .type "dict", data := .dict #[] }) scope.names }
  have hcl : (compEnvC scope (cellsFrom (s3.heap.objs.size + 1) scope.names (cloFrom X.env.cells scope.names [])) s3.heap.objs.size X.env).locals = s3.heap.objs.size := rfl
  have hcf : (compEnvC scope (cellsFrom (s3.heap.objs.size + 1) scope.names (cloFrom X.env.cells scope.names [])) s3.heap.objs.size X.env).frame = X.env.frame := rfl
  generalize compEnvC scope (cellsFrom (s3.heap.objs.size + 1) scope.names (cloFrom X.env.cells scope.names [])) s3.heap.objs.size X.env = ce at I4 pg hel hcl hcf ⊢
  have sx : Same H1 (upd H1 Dl (.lst [])) := same_new hDn
  have tD : Stp A1 H1 A1 (upd H1 Dl (.lst [])) := Stp.same sx
  have SD : Sto X.K (fun a => F a ∨ a = Dl) A1 M1 (upd H1 Dl (.lst [])) := S1.hide hDn
  have S0 : Sto X.K F A1 M1 (upd H1 Dl (.lst [])) := S1.same sx
  generalize hs4 : ({ s3 with heap := pushCells (s3.heap.push { cls := .type "dict", data := .dict #[] }) scope.names } : Shared) = s4 at I4 ⊢
  have st4 : tn 0 s4.heap := T.keep _ _ _ st3 fun b _ o z => by rw [← hs4]; exact pushCells_keeps _ _ _ _ (Heap.get?_push_of_some _ z)
  have nfp : ∀ b ∈ fp, (upd H1 Dl (.lst [])) b = none := fun b hb => (f3 b hb).1.1
  have stat : ∀ {σ' : L2.St} {H' : Hp} {s' : Shared}, Inv (X.blk s3 (upd H1 Dl (.lst [])) scope ce fp) [] σ' H' s' → (∀ b ∈ fp, H' b = none) → ∀ b ∈ fp, FpOk (X.blk s3 (upd H1 Dl (.lst [])) scope ce fp) [] H' b := fun I' hn b hb =>
    ⟨hn b hb, (I'.ok.exf b hb).1, I'.ok.exfs b hb, .inl hb, fun x c z => (I'.ok.exf b hb).2 x c z, fun p hp => absurd (show p ∈ ([] : List (Addr × Obj)) ++ [] from hp) (by simp)⟩
  have loop : codeAny (model X.prog X.w) X.A (.compLoop (.ListComp elt [⟨.Name x px, iter, [], 0⟩] scope pos) 0 (.ref it) (.ref Dl) ce) (compEnds (model X.prog X.w) X.A X.xe none (EP X pins σ Q) (.ref Dl) ce) s4 := by
    refine compLoop_any (fun _ s' => s' = s4) ?_ 0 rfl
    rintro n s9 e9
    subst e9
    have go := wk.go 0 A1 M1 (upd H1 Dl (.lst [])) tD S0 hcd hlt
    have ti := T.item (X.blk s3 (upd H1 Dl (.lst [])) scope ce fp) rfl rfl rfl hc 0 [] s9 _ (upd H1 Dl (.lst [])) (fun _ _ => False) I4 (stat I4 nfp) st4 go
    refine thnF ti fun r s6 ⟨u, hr, h6⟩ => ?_
    subst hr
    refine thnF h6 fun _ s7 ⟨xv2, H7, I7, r7, y7, st7, n7⟩ => ?_
    obtain ⟨e7, d, hd, r⟩ := wk.yld 0 A1 M1 _ xv2 H7 tD S0 hcd y7 hlt
    subst e7
    rw [h0] at hd
    cases hd
    have I7' := I7.pinned (stat I7 n7) (T.obj _ _ st7)
    have rx : Rp X.K A1 (Vw (fun a => F a ∨ a = Dl) A1 (upd H1 Dl (.lst []))) xv2 d0 := by
      obtain ⟨_, d2, hd2, r2⟩ := wk.yld 0 A1 M1 (del (upd H1 Dl (.lst [])) Dl) xv2 _ (by
        exact ⟨fun a u h hn => by rw [del_ne (ne_of_none h hDn)]; exact tD.frame a u h hn, tD.pre, tD.fresh⟩) (SD.unhide nF) hcd (wk.low 0 _ _ xv2 _ del_le y7) hlt
      rw [h0] at hd2
      cases hd2
      rw [← del_vw]
      exact r2
    have Lw : Slots X.K A1 (Vw (fun a => F a ∨ a = Dl) A1 (upd H1 Dl (.lst []))) ((wipeE env (own.map (·.2))).set j (some d0)) ((L2.wipe σ (own.map (·.2))).set j (some xv2)) := by
      refine Slots.put ?_ j (by rw [wipe_length]; exact hjl) rx
      refine Slots.wipeE ?_ _
      rw [← del_vw]
      exact (L.stp S t1).stp S1 ⟨fun a u h hn => by rw [del_ne (ne_of_none h hDn)]; exact tD.frame a u h hn, tD.pre, tD.fresh⟩
    refine thnF (pg.run _ s7 _ _ xv2 u (fun σ8 H8 => σ8 = (L2.wipe σ (own.map (·.2))).set j (some xv2) ∧ H8 = upd H1 Dl (.lst [])) I7' r7 ⟨rfl, rfl⟩) fun _ s8 ⟨σ8, H8, I8, e8, e9⟩ => ?_
    subst e8
    subst e9
    refine wpAny_pure ?_
    rw [if_pos rfl]
    have pa : ∀ σ', PassesAt (L2.CX X.prog X.w) ((X.blk s3 (upd H1 Dl (.lst [])) scope ce fp).wish (notedBy (model X.prog X.w) X.A ce fun e s' => compEnds (model X.prog X.w) X.A X.xe none (EP X pins σ Q) (.ref Dl) ce (.error e) s')) σ' (fun c d H' => W c d σ H') := fun σ' pins' H' s9 e s10 I' c => by
      have I6 := I'.unwish
      have I9 : Inv X pins σ H' s9 := I3.call' (ch := fp) I6.os I6.base I6.hok I6.bare fun b hb => ⟨(f3 b hb).1.2.2.2.1, (f3 b hb).1.2.1, (f3 b hb).1.2.2.2.2.1, (f3 b hb).1.2.2.2.2.2⟩
      obtain ⟨m, hn, _⟩ := I6.loc
      have nC : H' ce.locals = none := I6.free
      exact comp_out tk (fun _ _ _ z => z) hst hfr hcf I9 (I3.fpOk (by rw [hcl]; exact Nat.le_refl _) nC) hn c
    exact wpAny_mono (hel _ _ _ _ A1 SD Lw _ pa (fun H' A' t' S' => q H' A' (t1.trans (tD.trans t')) ((S'.unhide nF).same del_le)) (fun _ _ => False) _ s8 (I8.wish _)) (fun _ _ ⟨_, _, _, _, z⟩ => z.elim) fun _ _ z => z
  exact codeAny_compStart_list loop (T.self X.A 0 _ _ _ st4 loop)
end
end KT
/-! a sign, so many times -/
namespace KT
open PySem PySem.Spec PyProof.Rows L2
theorem rep_arr (c : Nat) : ∀ (n : Nat) (a : Array Nat), ((List.replicate n (S [c]).cps).foldl (· ++ ·) a) = a ++ (List.replicate n c).toArray
  | 0, a => by simp
  | n + 1, a => by
    rw [List.replicate_succ, List.foldl_cons, rep_arr c n, List.replicate_succ]
    apply Array.ext'
    simp
def rMulS : R2 := fun x y H Q => ∃ (c n : Nat), x = .str (S [c]) ∧ y = .int (n : Int) ∧ n ≤ 1000 ∧ Q (.str (S (List.replicate n c))) H
theorem op_mulS {X : Cx} : OpR X (binaryOp .Mult) rMulS := by
  intro pins s σ H x y v u Q I rx ry h
  obtain ⟨c, n, rfl, rfl, hn, q⟩ := h
  obtain ⟨t, rfl⟩ := rx
  obtain ⟨t', rfl⟩ := ry
  have hl : (S [c]).length = 1 := by rw [S_len]; rfl
  refine PySem.P.mul_str (by rw [decide_eq_false (by omega), decide_eq_false (by omega)]; rfl) (fun h1 _ => ?_) (fun _ _ => ?_) ?_
  · rw [hl]
    have : (1 : Int) ≤ (2 ^ 63 - 1) / (n : Int) := Int.le_ediv_of_mul_le (by omega) (by omega)
    have e : ((1 : Nat) : Int) = 1 := rfl
    rw [e]
    omega
  · rw [hl, Nat.one_mul]
    have : (1000 : Nat) ≤ sizeLine := by decide
    exact decide_eq_false (by rw [Int.toNat_natCast]; omega)
  · have sz : (1000 : Nat) ≤ sizeLine := by decide
    by_cases h0 : n = 0
    · subst h0
      rw [if_pos (by decide)]
      exact ⟨by decide, .str Str.empty, H, I.tok _, ⟨_, rfl⟩, q⟩
    · rw [if_neg (by omega)]
      by_cases h1 : n = 1
      · subst h1
        rw [if_pos (by rfl)]
        exact ⟨.str (S [c]), H, I, ⟨_, rfl⟩, q⟩
      · rw [if_neg (by rw [hl]; simp; omega)]
        have e : (⟨(List.replicate ((n : Int)).toNat (S [c]).cps).foldl (· ++ ·) #[]⟩ : Str) = S (List.replicate n c) := by
          rw [Int.toNat_natCast, rep_arr]
          simp [S]
        rw [e]
        exact ⟨by rw [S_len, List.length_replicate]; omega, .str (S (List.replicate n c)), H, I.tok _, ⟨_, rfl⟩, q⟩
section
variable {X : Cx} {M M1 M2 : List C} {env : EnvD} {a b : Expr} {pos : Pos}
theorem de_mulS {c n : Nat} (ha : DE X M env a (.str (S [c])) M1) (hb : DE X M1 env b (.int (n : Int)) M2) (hn : n ≤ 1000) : DE X M env (.BinOp a .Mult b pos) (.str (S (List.replicate n c))) M2 := de_op op_mulS ha hb fun F A H v u S0 r1 r2 Q q => by
  cases r1; cases r2
  exact ⟨c, n, rfl, rfl, hn, q _ H (Same.refl H) (.str _)⟩
end
end KT
/-! sum(lists, start=[]) -/
namespace KT
open PySem PySem.Spec PyProof.Rows L2
theorem sub_list_str : isSubtype (.type "list") (.type "str") = pure false := by rw [isSubtype_type]; kernel_rfl
theorem sub_list_bytes : isSubtype (.type "list") (.type "bytes") = pure false := by rw [isSubtype_type]; kernel_rfl
theorem sub_list_bytearray : isSubtype (.type "list") (.type "bytearray") = pure false := by rw [isSubtype_type]; kernel_rfl
theorem args_sum_kw (a b : Value) : argsOk "sum" ⟨[a], [("start", b)]⟩ := by unfold argsOk; kernel_rfl
section
variable {prog : Program} {w : World} {A : Around} {E : Value → Shared → Prop} {s : Shared}
theorem call_tree_kw {id : String} {b : Builtin} {args : List Value} {kw : List (Str × Value)} {Q : Value → Shared → Prop} (hk : builtinKind id = none) (hp : plainId id = true)
    (hb : entryFor table id = some b) (ha : argsOk id ⟨args, kw⟩)
    (hc : wpAny (model prog w) A.in1 (b ⟨args, kw⟩) (fun fin s' => match fin with
      | .done f => (match (Except.ok f : Result) with | .ok (.ret v) => Q v s' | .ok _ => False | .error e => E e s')
      | .again c' => c'.quiet = true ∧ codeAny (model prog w) A c' (fun r s' => match r with | .ok (.ret v) => Q v s' | .ok _ => False | .error e => E e s') s') E s) : wpAny (model prog w) A (call (.builtin id) args kw) Q E s := by
  refine wpAny_call (codeAny_call_builtin hp hb ?_)
  simp only [checkBuiltinCall, hk]
  cases hsig : Manifest.signature? id with
  | none => exact wpAny_pure hc
  | some sig =>
    simp only [argsOk, hsig] at ha
    have h2 : Bind.checkArgs id sig ⟨args, kw⟩ = pure () := ha
    show wpAny _ A.in1 (Bind.checkArgs id sig ⟨args, kw⟩) _ _ s
    rw [h2]
    exact wpAny_pure hc
end
section
variable {prog : Program} {w : World} {A : Around} {R : Result → Shared → Prop} {I l : Addr} {its : Array Value} {rows : List (List Value)} {h0 : Heap}
/-- the loop, the total a list -/
theorem sum_loop_lists (hh : A.in1.handled = none) (hne : l ≠ I) (hI0 : h0.get? I = none) (S : Addr) (hS0 : h0.get? S = none) (hSI : S ≠ I) (hSl : S ≠ l)
    (hrow : ∀ (i : Nat) (v : Value), its[i]? = some v → ∃ (a : Addr) (vs : List Value) (m : Nat), v = .ref a ∧ rows[i]? = some vs ∧ IsL h0 a vs.toArray m)
    (hz : (rows.flatten).length ≤ 100000) (hsz : its.size = rows.length) :
    ∀ (k i : Nat) (s : Shared) (t : Addr) (acc : List Value) (c m : Nat), its.size - i = k → i ≤ its.size → (∀ b o, h0.get? b = some o → s.heap.get? b = some o) → (s.heap.IsListIter I l i ∧ s.heap.IsList l its) →
    s.heap.get? S = some { cls := .type "list", dict := none, data := .seq #[.ref t] c, slots := #[] } → IsL s.heap t acc.toArray m → t ≠ S → t ≠ I → acc = (rows.take i).flatten →
    (∀ h' tk t' m', (∀ b o, h0.get? b = some o → h'.get? b = some o) → IsL h' t' (rows.flatten).toArray m' → (i < its.size → h0.get? t' = none) → (i = its.size → t' = t) → R (.ok (.ret (.ref t'))) { s with heap := h', toks := tk }) →
    codeAny (model prog w) A (.builtin "sum.loop" ⟨[.ref I, .ref S, rawInt 2, rawInt 0], []⟩) R s := by
  have W : PySem.Walks prog w A.in1 I [I, l] [I] its.size (fun i v => its[i]? = some v) (fun i h => h.IsListIter I l i ∧ h.IsList l its) := PySem.Walks.list (A := A.in1) hh I l hne its
  intro k
  induction k with
  | zero =>
    intro i s t acc c m hk hi hkp hst hS ht htS htI hacc hR
    have hin : i = its.size := by omega
    subst hin
    refine codeAny_builtin F.entry_sum_loop ?_
    rw [Around.under_plainId F.plain_sum_loop _]
    show wpAny _ A.in1 (seqItems? (.ref S) >>= _) _ _ s
    refine wpAny_bind (wpAny_seqItems hS rfl ?_)
    show wpAny _ A.in1 (tryCatch (pyNext (.ref I)) _ >>= _) _ _ s
    refine wpAny_bind (wpAny_tryCatch (W.done s _ _ hst fun h' tk hk' => ?_))
    rw [hsz, List.take_length] at hacc
    rw [hacc] at ht
    exact wpAny_pure (hR h' tk t m (fun b o e => hk' b o (fun hm => by rw [List.mem_singleton.mp hm, hI0] at e; cases e) (hkp b o e)) (hk' t _ (by simpa using htI) ht) (fun z => absurd z (Nat.lt_irrefl _)) (fun _ => rfl))
  | succ k ih =>
    intro i s t acc c m hk hi hkp hst hS ht htS htI hacc hR
    have hlt : i < its.size := by omega
    refine codeAny_builtin F.entry_sum_loop ?_
    rw [Around.under_plainId F.plain_sum_loop _]
    show wpAny _ A.in1 (seqItems? (.ref S) >>= _) _ _ s
    refine wpAny_bind (wpAny_seqItems hS rfl ?_)
    show wpAny _ A.in1 (tryCatch (pyNext (.ref I)) _ >>= _) _ _ s
    refine wpAny_bind (wpAny_tryCatch (W.item i s _ _ hlt hst fun v h' tk hP hst' hk' => ?_))
    obtain ⟨a, vs, m2, rfl, hrw, ha0⟩ := hrow i v hP
    have hkp' : ∀ b o, h0.get? b = some o → h'.get? b = some o := fun b o e => hk' b o (fun hm => by rw [List.mem_singleton.mp hm, hI0] at e; cases e) (hkp b o e)
    have ha := hkp' a _ ha0
    have haS : a ≠ S := fun z => by
      have z2 : h0.get? a = some _ := ha0
      rw [z, hS0] at z2
      cases z2
    have hS' := hk' S _ (by simpa using hSI) hS
    have ht' := hk' t _ (by simpa using htI) ht
    have e1 : rows.take (i + 1) = rows.take i ++ [vs] := by rw [List.take_add_one, hrw]; rfl
    have hlen : acc.length + vs.length ≤ 100000 := by
      have h1 : ((rows.take (i + 1)).flatten).length ≤ (rows.flatten).length := by
        conv => rhs; rw [← List.take_append_drop (i + 1) rows]
        rw [List.flatten_append, List.length_append]
        omega
      have e2 : [vs].flatten = vs := by simp
      rw [e1, List.flatten_append, List.length_append, ← hacc, e2] at h1
      omega
    have sl : (100000 : Nat) ≤ sizeLine := by decide
    refine wpAny_bind (wpAny_attempt (wpAny_holding (PySem.P.add_list ht' ha ?_ (by rw [List.size_toArray, List.size_toArray]; omega))))
    have S1 := Heap.get?_push_of_some ({ cls := .type "list", data := .seq (acc.toArray ++ vs.toArray) } : Obj) hS'
    show wpAny _ A.in1 (updateSeq S (fun _ => #[.ref h'.objs.size]) >>= _) _ _ _
    refine wpAny_bind (wpAny_updateSeq S1 rfl ?_)
    have S2 := Heap.get?_update_self (Obj.mapSeq fun _ => #[Value.ref h'.objs.size]) S1 rfl
    refine wpAny_bind (wpAny_letGo ?_)
    have hnS : h'.objs.size ≠ S := fun z => absurd (Heap.lt_size hS') (by rw [← z]; exact Nat.lt_irrefl _)
    have hnI : h'.objs.size ≠ I := fun z => by
      obtain ⟨oI, eI, _⟩ := hst'.1
      exact absurd (Heap.lt_size eI) (by rw [← z]; exact Nat.lt_irrefl _)
    have h0n : h0.get? h'.objs.size = none := by
      cases q : h0.get? h'.objs.size with
      | none => rfl
      | some o => exact absurd (Heap.lt_size (hkp' _ _ q)) (Nat.lt_irrefl _)
    have up : ∀ (b : Addr) (o : Obj), b ≠ S → h'.get? b = some o → (((h'.push { cls := .type "list", data := .seq (acc.toArray ++ vs.toArray) }).update S (Obj.mapSeq fun _ => #[Value.ref h'.objs.size])).update S (Obj.mapSeq fun _ => #[Value.ref h'.objs.size])).get? b = some o := fun b o hb e =>
      (Heap.get?_update_other _ _ (Ne.symm hb)).trans ((Heap.get?_update_other _ _ (Ne.symm hb)).trans (Heap.get?_push_of_some _ e))
    refine wpAny_bind (wpAny_updateSeq S2 rfl (wpAny_pure ⟨plainId_quiet F.plain_sum_loop _, ih (i + 1) _ h'.objs.size (acc ++ vs) _ 0 (by omega) hlt (fun b o e => up b o (fun z => by rw [z, hS0] at e; cases e) (hkp' b o e)) ?_ (Heap.get?_update_self _ S2 rfl) ?_ hnS hnI (by rw [hacc, e1, List.flatten_append]; simp) fun h2 tk2 t2 m3 g1 g2 g3 g4 => ?_⟩))
    · obtain ⟨⟨oI, eI, rI⟩, ⟨oL, eL, rL⟩⟩ := hst'
      exact ⟨⟨oI, up I oI (Ne.symm hSI) eI, rI⟩, ⟨oL, up l oL (Ne.symm hSl) eL, rL⟩⟩
    · have : (((h'.push { cls := .type "list", data := .seq (acc.toArray ++ vs.toArray) }).update S (Obj.mapSeq fun _ => #[Value.ref h'.objs.size])).update S (Obj.mapSeq fun _ => #[Value.ref h'.objs.size])).get? h'.objs.size = some { cls := .type "list", data := .seq (acc.toArray ++ vs.toArray) } :=
        (Heap.get?_update_other _ _ (Ne.symm hnS)).trans ((Heap.get?_update_other _ _ (Ne.symm hnS)).trans (Heap.get?_push_size _ rfl))
      show Heap.get? _ _ = some _
      rw [this]
      simp
    · refine hR h2 tk2 t2 m3 g1 g2 (fun _ => ?_) (fun z => by omega)
      by_cases hl2 : i + 1 < its.size
      · exact g3 hl2
      · rw [g4 (by omega)]
        exact h0n
end
section
variable {prog : Program} {w : World} {A : Around} {E : Value → Shared → Prop} {s : Shared} {l z : Addr} {its : Array Value} {rows : List (List Value)}
theorem sum_lists_raw {n0 : Nat} {Q : Value → Shared → Prop} (hh : A.handled = none) (hl : s.heap.IsList l its) (hstart : IsL s.heap z #[] n0)
    (hrow : ∀ (i : Nat) (v : Value), its[i]? = some v → ∃ (a : Addr) (vs : List Value) (m : Nat), v = .ref a ∧ rows[i]? = some vs ∧ IsL s.heap a vs.toArray m)
    (hz : (rows.flatten).length ≤ 100000) (hsz : its.size = rows.length) (hpos : 0 < its.size)
    (h : ∀ h' tk t' m', (∀ b o, s.heap.get? b = some o → h'.get? b = some o) → IsL h' t' (rows.flatten).toArray m' → s.heap.get? t' = none → Q (.ref t') { s with heap := h', toks := tk }) :
    wpAny (model prog w) A (call (.builtin "sum") [.ref l] [("start", .ref z)]) Q E s := by
  refine call_tree_kw F.kind_sum F.plain_sum F.entry_sum (args_sum_kw _ _) ?_
  unfold Builtin.«sum»
  simp only [List.length_cons, List.length_nil]
  rw [if_neg (by decide)]
  refine wpAny_bind (wpAny_of_eq (show Builtin.Builtins.bindParams "sum" ["start"] 0 ⟨[], [("start", .ref z)]⟩ = pure [some (.ref z)] from rfl) ?_)
  have hlt : l < s.heap.objs.size := by obtain ⟨_, e, _⟩ := hl; exact Heap.lt_size e
  have hzl : z < s.heap.objs.size := Heap.lt_size hstart
  refine wpAny_bind (wpAny_pyIter_list hl ?_)
  have tyz : ∀ {s' : Shared}, s'.heap.get? z = some { cls := .type "list", dict := none, data := .seq #[] n0, slots := #[] } → s'.TypeIs (.ref z) "list" := fun e => ⟨_, e, rfl⟩
  generalize hs2 : ({ s with heap := s.heap.push { cls := .type "list_iterator", data := .fields #[.ref l, .int 0 0] } } : Shared) = s2
  have k2 : ∀ b o, s.heap.get? b = some o → s2.heap.get? b = some o := fun b o e => by rw [← hs2]; exact Heap.get?_push_of_some _ e
  have z2 := k2 z _ hstart
  refine wpAny_bind (wpAny_pure ?_)
  simp only [List.forIn_cons, List.forIn_nil]
  refine wpAny_bind (wpAny_bind (wpAny_bind (wpAny_isInstance (T := "list") (b := false) (tyz z2) sub_list_str ?_)))
  simp only [Bool.false_eq_true, if_false]
  refine wpAny_pure (wpAny_bind (wpAny_bind (wpAny_isInstance (T := "list") (b := false) (tyz z2) sub_list_bytes ?_)))
  simp only [Bool.false_eq_true, if_false]
  refine wpAny_pure (wpAny_bind (wpAny_bind (wpAny_isInstance (T := "list") (b := false) (tyz z2) sub_list_bytearray ?_)))
  simp only [Bool.false_eq_true, if_false]
  refine wpAny_pure (wpAny_pure ?_)
  refine wpAny_bind (wpAny_newObj_type ?_)
  have s2z : s2.heap.objs.size = s.heap.objs.size + 1 := by rw [← hs2]; exact Heap.size_push _ _
  have fresh0 : ∀ b, s.heap.objs.size ≤ b → s.heap.get? b = none := fun b hb => by
    cases q : s.heap.get? b with
    | none => rfl
    | some o => exact absurd (Heap.lt_size q) (Nat.not_lt.mpr hb)
  have iI : s2.heap.IsListIter s.heap.objs.size l 0 := by rw [← hs2]; exact ⟨_, Heap.get?_push_size _ rfl, rfl, rfl⟩
  have iL : s2.heap.IsList l its := by
    obtain ⟨oL, eL, rL⟩ := hl
    exact ⟨oL, k2 l oL eL, rL⟩
  refine wpAny_pure ⟨plainId_quiet F.plain_sum_loop _, sum_loop_lists (A := A) (I := s.heap.objs.size) (l := l) (its := its) (rows := rows) (h0 := s.heap) hh (Nat.ne_of_lt hlt) (fresh0 _ (Nat.le_refl _)) s2.heap.objs.size (fresh0 _ (by rw [s2z]; exact Nat.le_succ _)) (by rw [s2z]; exact Nat.succ_ne_self _) (by rw [s2z]; exact (Nat.ne_of_lt (Nat.lt_succ_of_lt hlt)).symm) hrow hz hsz its.size 0 _ z [] 0 n0 rfl (Nat.zero_le _)
    (fun b o e => Heap.get?_push_of_some _ (k2 b o e)) ?_ (Heap.get?_push_size _ rfl) (Heap.get?_push_of_some _ z2) (by rw [s2z]; exact Nat.ne_of_lt (Nat.lt_succ_of_lt hzl)) (Nat.ne_of_lt hzl) rfl fun h' tk t' m' g1 g2 g3 g4 => ?_⟩
  · obtain ⟨oI, eI, rI⟩ := iI
    obtain ⟨oL, eL, rL⟩ := iL
    exact ⟨⟨oI, Heap.get?_push_of_some _ eI, rI⟩, ⟨oL, Heap.get?_push_of_some _ eL, rL⟩⟩
  · have := h h' tk t' m' g1 g2 (g3 hpos)
    rw [← hs2]
    exact this
end
inductive RowsAt (H : Hp) : List V → List (List V) → Prop
  | nil : RowsAt H [] []
  | cons {b : Addr} {ys : List V} {xs : List V} {rows : List (List V)} : H b = some (.lst ys) → RowsAt H xs rows → RowsAt H (.ref b :: xs) (ys :: rows)
theorem RowsAt.len {H : Hp} {xs : List V} {rows : List (List V)} (h : RowsAt H xs rows) : xs.length = rows.length := by
  induction h with
  | nil => rfl
  | cons _ _ ih => rw [List.length_cons, List.length_cons, ih]
theorem RowsAt.mono {H H' : Hp} (e : Same H H') {xs : List V} {rows : List (List V)} (h : RowsAt H xs rows) : RowsAt H' xs rows := by
  induction h with
  | nil => exact .nil
  | cons h _ ih => exact .cons (e _ _ h) ih
section
variable {X : Cx} {pins : List (Addr × Obj)} {σ : L2.St} {H : Hp} {s : Shared}
theorem rows_vals (I : Inv X pins σ H s) {xs : List V} {rows : List (List V)} (h : RowsAt H xs rows) : ∀ {its : List Value}, Vals xs its → ∃ rv : List (List Value), rv.length = rows.length ∧ Vals rows.flatten rv.flatten ∧
    ∀ (i : Nat) (v : Value), its[i]? = some v → ∃ (a : Addr) (vs : List Value) (m : Nat), v = .ref a ∧ rv[i]? = some vs ∧ IsL s.heap a vs.toArray m := by
  induction h with
  | nil => intro its r; cases r; exact ⟨[], rfl, .nil, fun i v h => by simp at h⟩
  | @cons b ys xs rows hb _ ih =>
    intro its r
    cases r with
    | @cons _ u _ us r0 r1 =>
      obtain ⟨rv, e1, e2, e3⟩ := ih r1
      obtain ⟨_, ys', m, ry, _, ey⟩ := I.lstM hb
      obtain rfl : u = Value.ref b := r0
      refine ⟨ys' :: rv, by rw [List.length_cons, List.length_cons, e1], by rw [List.flatten_cons, List.flatten_cons]; exact ry.append e2, fun i v hv => ?_⟩
      cases i with
      | zero => cases hv; exact ⟨b, ys', m, rfl, rfl, ey⟩
      | succ i => exact e3 i v hv
/-- sum(lists, start=[]) -/
def rSumL (K : PySem.W.Frag) : List V → List V → Hp → VK → Prop := fun vs zs H Q => ∃ (a z : Addr) (xs : List V) (rows : List (List V)), vs = [.ref a] ∧ zs = [.ref z] ∧ SqL K H a xs ∧ H z = some (.lst []) ∧ RowsAt H xs rows ∧ 0 < rows.length ∧ (rows.flatten).length ≤ 100000 ∧
  ∀ p, H p = none → Q (.ref p) (upd H p (.lst rows.flatten))
theorem cr_sumL (hc : X.calm = true) : CallRK X (.builtin "sum") [Str.ofString "start"] (rSumL X.K) := by
  intro pins s σ H xs zs us ws Q I r rz h
  obtain ⟨a, z, xs, rows, rfl, rfl, hs, hz, hR, hpos, hfl, q⟩ := h
  obtain ⟨its, rv, hl, _⟩ := I.list hs
  obtain rfl := Vals.ref1 r
  obtain rfl := Vals.ref1 rz
  obtain ⟨_, itz, nz, rz2, _, ez⟩ := I.lstM hz
  cases rz2
  obtain ⟨rows', e1, e2, e3⟩ := rows_vals I hR rv
  have hlen : its.length = rows.length := by rw [← rv.length, hR.len]
  have hd := I.ok.hd hc
  have sl : (100000 : Nat) ≤ sizeLine := by decide
  refine sum_lists_raw (rows := rows') (n0 := nz) hd hl.isList ez (fun i v hv => e3 i v (by simpa using hv)) (by rw [← e2.length]; exact hfl) (by rw [List.size_toArray, hlen, e1]) (by rw [List.size_toArray, hlen]; exact hpos) fun h' tk t' m' g1 g2 g3 => ?_
  have hn : H t' = none := by
    cases q2 : H t' with
    | none => rfl
    | some o =>
      obtain ⟨u, hu⟩ := objOk_get (I.hok t' o q2)
      rw [g3] at hu
      cases hu
  exact ⟨.ref t', upd H t' (.lst rows.flatten), I.laidN g1 g3 hn ⟨by omega, rows'.flatten, m', e2, g2⟩, rfl, q t' hn⟩
end
section
variable {X : Cx} {M M1 M2 : List C} {env : EnvD} {e1 e2 : Expr} {x : D} {pos p kp : Pos}
theorem rows_of {K : PySem.W.Frag} {A : Fps} {F : Addr → Prop} {H : Hp} : ∀ {rows : List (List D)} {vs : List V}, Rps K A (Vw F A H) vs (rows.map D.lst) → ∃ rv : List (List V), RowsAt H vs rv ∧ rv.length = rows.length ∧ Rps K A (Vw F A H) rv.flatten rows.flatten
  | [], _, r => by cases r; exact ⟨[], .nil, rfl, .nil⟩
  | ds :: rows, _, r => by
    cases r with
    | cons r0 r1 =>
      obtain ⟨rv, k1, k2, k3⟩ := rows_of r1
      cases r0 with
      | @lst b ys _ hb hr => exact ⟨ys :: rv, .cons (Vw.some_of hb).1 k1, by rw [List.length_cons, List.length_cons, k2], by rw [List.flatten_cons, List.flatten_cons]; exact hr.append k3⟩
theorem df_sumL {rows : List (List D)} (hm : X.mg "sum" = none) (ha : DE X M env e1 (.lst (rows.map D.lst)) M1) (hb : DF X M1 env e2 [] M2) (hpos : 0 < rows.length) (hz : (rows.flatten).length ≤ 100000) (hc : X.calm = true := by rfl) (hv : bootBuiltins "sum" = some (.builtin "sum") := by decide +kernel) (hg : Gl X "sum" := by rfl)
    (hse : starEach [e1] X.env = (false, eval e1 X.env) :: starEach [] X.env := by rfl) (he : backTo pos (starEach [e1] X.env) = (false, eval e1 X.env) :: backTo pos (starEach [] X.env) := by rfl) (hpl : (backTo pos (starEach [e1] X.env)).any (·.1) = false := by rfl)
    (hall : (backToKw pos (keywordEach [⟨some "start", e2, kp⟩] X.env)).all (·.1.isSome) = true := by rfl) (hnone : (backToKw pos (keywordEach [⟨some "start", e2, kp⟩] X.env)).any (·.1.isNone) = false := by rfl) (hks : (backToKw pos (keywordEach [⟨some "start", e2, kp⟩] X.env)).filterMap (·.1) = [Str.ofString "start"] := by rfl) :
    DF X M env (.Call (.Name "sum" p) [e1] [⟨some "start", e2, kp⟩] pos) rows.flatten M2 := fun σ H F A S L Q k => by
  refine sE (pe_callBK (cr_sumL hc) hg hm hv (semA X [e1]) (pk_cons (semE X e2) pk_nil) (by decide) (by decide) he hpl hall hnone hks) ?_
  refine da_cons ha da_nil hse σ H F A S L _ fun vs H1 A1 t1 S1 r1 => ?_
  refine hb σ H1 F A1 S1 (L.stp S t1) _ fun z ws H2 H2' A2 t2 S2 hz0 e2' hz1 rz => ?_
  cases r1 with
  | cons r1 r1' =>
    cases r1'
    cases rz
    have r2 := r1.stp S1 t2
    cases r2 with
    | @lst a us _ hq hr =>
      obtain ⟨rv, k1, k2, k3⟩ := rows_of hr
      have hHa := e2' a _ (Vw.some_of hq).1
      have k1' := k1.mono e2'
      refine ⟨a, z, us, rv, rfl, rfl, SqL.of hHa, hz1, k1', by rw [k2]; exact hpos, ?_, fun pn hp => ?_⟩
      · rw [k3.length]; exact hz
      have hp2 : H2 pn = none := by
        cases q2 : H2 pn with
        | none => rfl
        | some o => rw [e2' _ _ q2] at hp; cases hp
      refine k pn rv.flatten H2 (upd H2' pn (.lst rv.flatten)) A2 (t1.trans t2) S2 hp2 (fun b o ho => ?_) upd_same k3
      rw [upd_ne (ne_of_none (e2' b o ho) hp)]
      exact e2' b o ho
end
end KT
/-! a list of new lists, answered: read, or the first of them to be changed -/
namespace KT
open PySem PySem.Spec PyProof.Rows L2
abbrev JR := Nat × List Int
def FitsP (o : Out) : Fin where
  nx := fun _ _ => o = .ok .non
  rt := fun r M' => match o with
    | .ok d => Res M' r d
    | .er _ => False
    | .own d Ms => ∃ (k : Nat) (p0 : JR) (jr : List JR), r = .loc k ∧ M'[k]? = some (.lst ((p0 :: jr).map fun p => .loc p.1)) ∧ (∀ p ∈ p0 :: jr, p.1 ≠ k ∧ M'[p.1]? = some (.lst (p.2.map .int))) ∧ (∀ p ∈ jr, p.1 ≠ p0.1) ∧ d = .loc 0 ∧ Ms = [.lst (.loc 1 :: jr.map fun p => .lst (p.2.map .int)), .lst (p0.2.map .int)]
  ex := fun Ca _ _ => o = .er Ca
theorem jr_vals {K : PySem.W.Frag} {F : Addr → Prop} {A B : Fps} {M : List C} {H : Hp} {a a1 : Addr} (S : Sto K F A M H) (hB : ∀ fp ∈ B, ∀ b ∈ fp, b = a ∨ b = a1) : ∀ {jr : List JR} {us : List V}, Rps K A (Vw F A H) us (jr.map fun p => .loc p.1) →
    (∀ p ∈ jr, M[p.1]? = some (.lst (p.2.map .int)) ∧ A[p.1]? ≠ some [a] ∧ A[p.1]? ≠ some [a1]) → (∀ (b : Addr) (j : Nat), A[j]? = some [b] → (b = a → A[j]? = some [a]) ∧ (b = a1 → A[j]? = some [a1])) → Rps K B (Vw F B H) us (jr.map fun p => .lst (p.2.map .int))
  | [], _, r, _, _ => by cases r; exact .nil
  | p :: jr, _, r, h, hx => by
    cases r with
    | cons r0 r1 =>
      obtain ⟨h1, h2, h3⟩ := h p List.mem_cons_self
      obtain ⟨b, vs, rfl, hA, hb, hr⟩ := S.lst h1 r0
      have tb := S.trk [b] (List.mem_of_getElem? hA) b (List.mem_singleton.mpr rfl)
      obtain ⟨x1, x2⟩ := hx b p.1 hA
      rw [hr.ints] at hb
      refine .cons (.lst (Vw.of hb tb.2 fun fp hf hm => ?_) (.of_ints _)) (jr_vals S hB r1 (fun q hq => h q (List.mem_cons_of_mem _ hq)) hx)
      rcases hB fp hf b hm with e | e
      · exact h2 (x1 e)
      · exact h3 (x2 e)
section
variable {P : Program} {w : World} {K : PySem.W.Frag} {mg : Str → Option Value} {base : Heap}
theorem okP {x qual : Str} {st : Stmt} {f : Addr} {fd : FuncData} {N ps : List Str} {k : Nat} {Sg : List D → Out → Prop} (F : Fun K x qual st f fd) (S : FnScope N ps (defScope st)) (len : ∀ ds o, Sg ds o → ds.length = ps.length)
    (hb : ∀ (cdv : Value) (A : Around) (outer : List PySem.Env) (s : Shared) (H : Hp) (E : XK) (ds : List D) (o : Out), Room k (A.deeper (envOfC qual (defScope st) s.heap.objs.size f cdv)) → Sg ds o →
      DB (cxOf (L2.CX P w) P w K mg base N qual (defScope st) f cdv A outer s H E) [] (startE N ds) (defBody st) (FitsP o)) : FnOk P w K mg base (L2.CX P w) (k + 1) f fd ps (spX K Sg) := by
  refine F.okX S (fun vs H Q E ⟨Fh, ds, o, _, r, hs, _⟩ => by rw [r.length]; exact len ds o hs) (fun cdv A outer s H vs Q E hr ⟨Fh, ds, o, hF, r, hs, q⟩ => ?_)
  refine ⟨_, semSs _ _, ?_⟩
  refine hb cdv A outer s H E ds o hr hs (L2.start N vs) H Fh [] (sto_nil hF) (slots_start r) _ (fun cls d _ H' => E cls d H') (takes_of rfl rfl rfl rfl) ⟨fun M' env' σ' H' A' h t S' L' => ?_, fun d M' v H' A' h t S' r' => ?_, (fun _ _ _ _ _ h => h.elim), (fun _ _ _ _ _ h => h.elim), fun Ca M' env' σ' H' A' h t S' _ => ?_⟩
  · have h : o = .ok .non := h
    subst h
    exact q .non H' t.nil .non
  · cases o with
    | ok d' => exact q v H' t.nil (Res.rp S' h r')
    | er _ => exact h.elim
    | own d' Ms =>
      obtain ⟨j, p0, jr, rfl, hm, hj, hd, rfl, rfl⟩ := h
      obtain ⟨a, us, rfl, hA, h1, hr2⟩ := S'.lst hm r'
      rw [List.map_cons] at hr2
      cases hr2 with
      | cons r0 rr =>
        obtain ⟨hj0, hm0⟩ := hj p0 List.mem_cons_self
        obtain ⟨a1, us1, rfl, hA1, h11, hr11⟩ := S'.lst hm0 r0
        rw [hr11.ints] at h11
        have fr : ∀ b, (∃ i : Nat, A'[i]? = some [b]) → H b = none := fun b ⟨i, hi⟩ => (t.fresh [b] (List.mem_of_getElem? hi) b (List.mem_singleton.mpr rfl)).resolve_left fun ⟨gp, hg, _⟩ => nomatch hg
        have ha := S'.trk [a] (List.mem_of_getElem? hA) a (List.mem_singleton.mpr rfl)
        have ha1 := S'.trk [a1] (List.mem_of_getElem? hA1) a1 (List.mem_singleton.mpr rfl)
        have ds : ∀ (b : Addr) (i i2 : Nat), A'[i]? = some [b] → A'[i2]? = some [b] → i = i2 := fun b i i2 e1 e2 => S'.dis i i2 [b] [b] b e1 e2 (List.mem_singleton.mpr rfl) (List.mem_singleton.mpr rfl)
        have hne : a ≠ a1 := fun e => hj0 (ds a p0.1 j (by rw [e]; exact hA1) hA)
        have inB : ∀ fp ∈ ([[a], [a1]] : Fps), ∀ b ∈ fp, b = a ∨ b = a1 := fun fp hf b hb => by
          rcases List.mem_cons.mp hf with rfl | hf
          · exact .inl (List.mem_singleton.mp hb)
          · rw [List.mem_singleton.mp hf] at hb
            exact .inr (List.mem_singleton.mp hb)
        have tail : Rps K [[a], [a1]] (Vw Fh [[a], [a1]] H') _ (jr.map fun p => .lst (p.2.map .int)) := jr_vals S' inB rr (fun p hp => by
            obtain ⟨x1, x2⟩ := hj p (List.mem_cons_of_mem _ hp)
            exact ⟨x2, fun e => x1 (ds a p.1 j e hA), fun e => hd p hp (ds a1 p.1 p0.1 e hA1)⟩) (fun b i e => ⟨fun z => by rw [← z]; exact e, fun z => by rw [← z]; exact e⟩)
        refine q (.ref a) H' [[a], [a1]] t.nil (fun fp hf b hb => ?_) ⟨S'.hid, fun fp hf b hb => ?_, fun i j2 fp gp b hi hj2 hb1 hb2 => ?_, fun i c hc => ?_, rfl⟩ (.loc (r := []) rfl)
        · rcases inB fp hf b hb with rfl | rfl
          · exact fr _ ⟨j, hA⟩
          · exact fr _ ⟨p0.1, hA1⟩
        · rcases inB fp hf b hb with rfl | rfl
          · exact ha
          · exact ha1
        · have l1 := (List.getElem?_eq_some_iff.mp hi).1
          have l2 := (List.getElem?_eq_some_iff.mp hj2).1
          match i, j2, hi, hj2 with
          | 0, 0, _, _ => rfl
          | 1, 1, _, _ => rfl
          | 0, 1, hi, hj2 =>
            cases hi; cases hj2
            rw [List.mem_singleton.mp hb1] at hb2
            exact absurd (List.mem_singleton.mp hb2) hne
          | 1, 0, hi, hj2 =>
            cases hi; cases hj2
            rw [List.mem_singleton.mp hb2] at hb1
            exact absurd (List.mem_singleton.mp hb1) hne
          | n + 2, _, hi, _ => simp at l1; omega
          | 0, n + 2, _, _ => simp at l2; omega
          | 1, n + 2, _, _ => simp at l2; omega
        · match i, hc with
          | 0, hc =>
            cases hc
            exact ⟨[a], rfl, a, _, rfl, h1, .cons (.loc (r := []) rfl) tail⟩
          | 1, hc =>
            cases hc
            exact ⟨[a1], rfl, a1, _, rfl, h11, .of_ints _⟩
          | n + 2, hc => simp at hc
  · have h : o = .er Ca := h
    subst h
    exact q H' t.nil
end
theorem shs_Ls (n : Nat) (xs : List (List Int)) : shs n (xs.map fun x => D.lst (x.map .int)) = xs.map fun x => D.lst (x.map .int) := by
  induction xs with
  | nil => rfl
  | cons x xs ih => rw [List.map_cons, shs, D.sh, shs_ints, ih]
section
variable {X : Cx} {M M1 M2 M3 : List C} {env : EnvD} {a b o e f : Expr} {es : List Expr} {x y z d : D} {ds : List D} {pos p apos cpos : Pos} {m : Str} {k : Nat} {ps : List Str} {Sg : List D → Out → Prop} {Cl : Addr}
/-- a list of new lists, the first to be changed -/
theorem de_callP {x : Str} {i0 : List Int} {rest : List (List Int)} (Df : Dfn X.prog X.w X.K X.mg X.base x k ps (spX X.K Sg)) (hr : Room k X.A) (ha : DA X M env (e :: es) ds M1) (hs : Sg ds (.own (.loc 0) [.lst (.loc 1 :: rest.map fun p => .lst (p.map .int)), .lst (i0.map .int)])) (hn : nls ds = true := by first | rfl | simp [nls, D.nl, nls_ints, nl_ints, nls_strs, nl_strs]) (hg : Gl X x := by rfl) (hdb : (x == ("__debug__" : Str)) = false := by decide)
    (he : starEach (e :: es) X.env = (false, eval e X.env) :: starEach es X.env := by rfl) (hpl : (backTo pos (starEach es X.env)).any (·.1) = false := by rfl) : DE X M env (.Call (.Name x p) (e :: es) [] pos) (.loc M1.length) (M1 ++ [.lst (.loc (M1.length + 1) :: rest.map fun p => .lst (p.map .int)), .lst (i0.map .int)]) := by
  have h := de_callO (pos := pos) (p := p) Df hr ha hs hn hg hdb he hpl
  have e1 : (D.loc 0).sh M1.length = .loc M1.length := by rw [D.sh]; rfl
  have e2 : ([C.lst (.loc 1 :: rest.map fun p => .lst (p.map .int)), .lst (i0.map .int)] : List C).map (C.sh M1.length) = [.lst (.loc (M1.length + 1) :: rest.map fun p => .lst (p.map .int)), .lst (i0.map .int)] := by
    rw [List.map_cons, List.map_cons, List.map_nil, C.sh, C.sh, shs, shs_Ls, shs_ints, D.sh]
  rw [e1, e2] at h
  exact h
theorem de_minL {ns : List Int} {v : Int} {p : Pos} (hl : Ls M1 x (ns.map D.int)) (h1 : v ∈ ns) (h2 : ∀ y ∈ ns, v ≤ y) (hm : X.mg "min" = none) (ha : DA X M env [e] [x] M1) (hc : X.calm = true := by rfl) (hv : bootBuiltins "min" = some (.builtin "min") := by decide +kernel) (hg : Gl X "min" := by rfl)
    (he : starEach [e] X.env = (false, eval e X.env) :: starEach [] X.env := by rfl) (hpl : (backTo pos (starEach [] X.env)).any (·.1) = false := by rfl) : DE X M env (.Call (.Name "min" p) [e] [] pos) (.int v) M1 :=
  de_callB (cr_min hc) (fun F A H vs S r Q q => by
    cases r with
    | cons r0 r1 =>
      cases r1
      obtain ⟨a, us, rfl, g1, g2⟩ := hl.at S r0
      rw [g2.ints] at g1
      refine ⟨a, ns, rfl, g1, List.length_pos_iff.mpr (fun z => by rw [z] at h1; cases h1), fun u u1 u2 => ?_⟩
      have : u = v := Int.le_antisymm (u2 v h1) (h2 u u1)
      rw [this]
      exact q _ H (Same.refl H) (.int _)) hm hv ha hg (by decide) (by decide) he hpl
end
end KT
/-! an except suite that raises: what is caught has no context -/
namespace KT
open PySem PySem.Spec PyProof.Rows L2
theorem cxN_cx {P : Program} {w : World} {outer : List PySem.Env} {H : Hp} {s : Shared} {E : XK} {u : Value} {s' : Shared} (c : L2N.CX P w outer H s E u s') : L2.CX P w outer H s E u s' := by
  obtain ⟨a, B, H2, cls, d, e, fl, r⟩ := c
  exact ⟨a, B, H2, cls, d, e, L2H.flyingZ_imp (fun o z => z.zc) fl, r⟩
section
variable {P : Program} {w : World} {K : PySem.W.Frag} {mg : Str → Option Value} {base : Heap}
theorem fnN_fn {k : Nat} {f : Addr} {fd : FuncData} {ps : List Str} {sp : Sp} (F : FnOk P w K mg base (L2N.CX P w) k f fd ps sp) : FnOk P w K mg base (L2.CX P w) k f fd ps sp :=
  ⟨F.len, fun A outer s H args us vs Q E hr e0 hb r h => codeAny_mono (F.run A outer s H args us vs Q E hr e0 hb r h) fun r s' hq => by
    cases r with
    | error e => exact cxN_cx hq
    | ok fl => cases fl <;> exact hq⟩
theorem funN_okX {x qual : Str} {st : Stmt} {f : Addr} {fd : FuncData} {N ps : List Str} {k : Nat} {sp : Sp} (F : Fun K x qual st f fd) (S : FnScope N ps (defScope st)) (len : ∀ vs H Q E, sp vs H Q E → vs.length = ps.length)
    (hbody : ∀ (cdv : Value) (A : Around) (outer : List PySem.Env) (s : Shared) (H : Hp) (vs : List V) (Q : VK) (E : XK), Room k (A.deeper (envOfC qual (defScope st) s.heap.objs.size f cdv)) → sp vs H Q E →
      ∃ t, PSs (cxOf (L2N.CX P w) P w K mg base N qual (defScope st) f cdv A outer s H E) (defBody st) t ∧ t { nx := fun _ H' => Q .non H', rt := Q } (L2.start N vs) H) : FnOk P w K mg base (L2N.CX P w) (k + 1) f fd ps sp := by
  obtain ⟨oc, od, kV, doc, pm, an, cdv, ct, osl, rfl, lk, hcd⟩ := F.ex
  exact fn_of lk hcd S len fun A outer s H vs Q E hr hsp => hbody cdv A outer s H vs Q E hr hsp
structure MkrN (P : Program) (w : World) (K : PySem.W.Frag) (mg : Str → Option Value) (base : Heap) (x : Str) (Cl : Addr) (k : Nat) (ps : List Str) (sp : Sp) : Prop where
  ex : ∃ f fd j, j + 1 = k ∧ mg x = some (.ref Cl) ∧ Mk K Cl f ∧ Binds K fd ps [] ∧ FnOk P w K mg base (L2N.CX P w) j f fd ps sp
theorem MkrN.to {x : Str} {Cl : Addr} {k : Nat} {ps : List Str} {sp : Sp} (h : MkrN P w K mg base x Cl k ps sp) : Mkr P w K mg base x Cl k ps sp := by
  obtain ⟨f, fd, j, h1, h2, h3, h4, h5⟩ := h.ex
  exact ⟨f, fd, j, h1, h2, h3, h4, fnN_fn h5⟩
theorem MkrN.mono {x : Str} {Cl : Addr} {j k : Nat} {ps : List Str} {sp : Sp} (h : MkrN P w K mg base x Cl j ps sp) (hk : j ≤ k) : MkrN P w K mg base x Cl k ps sp := by
  obtain ⟨f, fd, i, h1, h2, h3, h4, h5⟩ := h.ex
  exact ⟨f, fd, k - 1, by omega, h2, h3, h4, h5.mono (by omega)⟩
end
/-- a block that raises in the end -/
def DBN (X : Cx) (M : List C) (env : EnvD) (sts : List Stmt) (Ca : Addr) : Prop := ∀ (σ : L2.St) (H : Hp) (F : Addr → Prop) (A : Fps), Sto X.K F A M H → SlotsN X.K A (Vw F A H) env σ → ∀ (W : WX), L2N.Takes X W → (∀ σ' H' A', Stp A H A' H' → Sto X.K F A' M H' → W (.ref Ca) none σ' H') → ∀ Dn, SemSs X sts Dn σ H
section
variable {X : Cx} {M M1 M2 : List C} {env : EnvD} {e : Expr} {es : List Expr} {d : D} {ds : List D} {pos p : Pos} {rest : List Stmt} {Fi : Fin} {st : Stmt} {Ca : Addr} {f : Str} {k : Nat} {ps : List Str} {Sg : List D → Out → Prop} {Cl : Addr}
theorem dbn_ifT {c : Expr} {a b : List Stmt} (hc : DT X M env c true M) (ha : DBN X M env a Ca) : DBN X M env (.If c a b pos :: rest) Ca := fun σ H F A S L W tk q Dn => by
  refine semCons (sS (ps_if (semT X c) (semSs X a) (semSs X b)) ?_)
  refine hc σ H F A S L.2 _ fun H1 A1 t1 S1 => ?_
  rw [if_pos rfl]
  exact ha σ H1 F A1 S1 (L.stp S t1) W tk (fun σ' H' A' t S' => q σ' H' A' (t1.trans t) S') _
theorem dbn_ifF {c : Expr} {a : List Stmt} (hc : DT X M env c false M) (hb : DBN X M env rest Ca) : DBN X M env (.If c a [] pos :: rest) Ca := fun σ H F A S L W tk q Dn => by
  refine semCons (sS (ps_if (semT X c) (semSs X a) (semSs X [])) ?_)
  refine hc σ H F A S L.2 _ fun H1 A1 t1 S1 => ?_
  rw [if_neg Bool.false_ne_true]
  exact sSs pss_nil (hb σ H1 F A1 S1 (L.stp S t1) W tk (fun σ' H' A' t S' => q σ' H' A' (t1.trans t) S') _)
theorem dbn_raise {x msg : Str} {j : Nat} {p2 rpos : Pos} (E : ExA X.K X.mg x Ca) (hg : Gl X x := by rfl) (hc : X.calm = true := by rfl) (hdb : (x == ("__debug__" : Str)) = false := by decide) :
    DBN X M env (.Raise (some (.Call (.Name x p) [.Constant (.str msg) j p2] [] pos)) none rpos :: rest) Ca := fun σ H F A S L W tk q Dn => by
  refine semCons (sS (L2N.ps_raise hc tk (L2N.pmk_own PySem.F.excBase_ValueError E.exc E.mgx E.kp (raises_own E.sub E.ty) hg hdb)) ?_)
  exact q σ H A (Stp.refl A H) S
/-- the maker raises, no context -/
def DXn (X : Cx) (M : List C) (env : EnvD) (e : Expr) (Ca : Addr) (M' : List C) : Prop := ∀ (σ : L2.St) (H : Hp) (F : Addr → Prop) (A : Fps), Sto X.K F A M H → Slots X.K A (Vw F A H) env σ → ∀ (W : WX), L2N.Takes X W →
  (∀ H' A', Stp A H A' H' → Sto X.K F A' M' H' → W (.ref Ca) none σ H') → ∀ Q : VK, SemE X e σ H Q
theorem s_makeN {σ : L2.St} {H : Hp} {Q : VK} {W : WX} {sp : Sp} (Mr : MkrN X.prog X.w X.K X.mg X.base f Cl k ps sp) (hr : Room k X.A) (tk : L2N.Takes X W)
    (h : SemA X (e :: es) σ H fun vs H1 => ∀ x dx, H1 x = none → H1 dx = none → dx ≠ x → sp (.ref x :: vs) (upd (upd H1 dx (.own x)) x (.ins Cl dx [])) (fun v H2 => v = .non ∧ Q (.ref x) H2) (WE W σ))
    (hg : Gl X f := by rfl) (hdb : (f == ("__debug__" : Str)) = false := by decide) (he : starEach (e :: es) X.env = (false, eval e X.env) :: starEach es X.env := by rfl) (hpl : (backTo pos (starEach es X.env)).any (·.1) = false := by rfl) :
    SemE X (.Call (.Name f p) (e :: es) [] pos) σ H Q := fun pins s I => by
  obtain ⟨g, fd, k0, ek, hm, Mq, hb, F⟩ := Mr.ex
  subst ek
  refine wpAny_Call_Name_kw (ld_glob I hg hm ?_ hdb)
  refine PySem.W.callWith_K (h₀ := X.base) I.ok.mod.kin Mq.kp (thn (h pos pins s I) fun us s1 ⟨vs, H1, I1, r, q⟩ => ⟨I1.kIn, ?_⟩) he hpl
  have hq := q (s1.heap.objs.size + 1) s1.heap.objs.size (I1.hok.fresh (Nat.le_succ _)) (I1.hok.fresh (Nat.le_refl _)) (Nat.ne_of_lt (Nat.lt_succ_self _))
  have I2 := Inv.made (C := Cl) I1
  have r2 : Vals (V.ref (s1.heap.objs.size + 1) :: vs) (Value.ref (s1.heap.objs.size + 1) :: us) := .cons rfl r
  have hl : (Value.ref (s1.heap.objs.size + 1) :: us).length = ps.length := by
    have z := r2.length
    rw [F.len _ _ _ _ hq] at z
    exact z.symm
  have hb2 := hb _ (Value.ref (s1.heap.objs.size + 1) :: us) I2.kIn (by rw [List.append_nil]; exact hl)
  rw [List.append_nil] at hb2
  refine wpAny_call (make_map (f := g) I1.kIn Mq.makes Mq.init (beq_iff_eq.mp Mq.fn) (codeAny_mono (F.run _ X.stack _ _ ⟨Value.ref (s1.heap.objs.size + 1) :: us, []⟩ _ _ _ (WE W σ) (hr.make Cl us []) (I2.env0.make Cl us []) hb2 r2 hq) fun r s' hq' => ?_))
  cases r with
  | error e => exact L2N.passAt tk σ pins _ _ e s' I2 hq'
  | ok fl =>
    cases fl with
    | ret u =>
      obtain ⟨v, H', I3, rv, ev, q3⟩ := I2.after hq'
      subst ev
      exact ⟨rv, ⟨V.ref (s1.heap.objs.size + 1), H', I3, rfl, q3⟩⟩
    | next => exact False.elim hq'
    | brk => exact False.elim hq'
    | cont => exact False.elim hq'
theorem dxn_make {es' : List D} (Mr : MkrN X.prog X.w X.K X.mg X.base f Cl k ps (spI X.K Cl Sg)) (hr : Room k X.A) (ha : DA X M env (e :: es) ds M1) (hR : Ress M1 ds es') (hs : Sg es' (.er Ca))
    (hg : Gl X f := by rfl) (hdb : (f == ("__debug__" : Str)) = false := by decide) (he : starEach (e :: es) X.env = (false, eval e X.env) :: starEach es X.env := by rfl) (hpl : (backTo pos (starEach es X.env)).any (·.1) = false := by rfl) :
    DXn X M env (.Call (.Name f p) (e :: es) [] pos) Ca M1 := fun σ H F A S L W tk q Q => by
  refine s_makeN Mr hr tk ?_ hg hdb he hpl
  refine ha σ H F A S L _ fun vs H1 A1 t1 S1 r1 => ?_
  intro xa dx hx hd ne
  have s2 : Same H1 (upd (upd H1 dx (.own xa)) xa (.ins Cl dx [])) := fun b o eb => by
    rw [upd_ne (ne_of_none eb hx), upd_ne (ne_of_none eb hd)]
    exact eb
  refine ⟨F, vs, es', .er Ca, xa, dx, rfl, upd_same, (S1.same s2).hid, fun zz => S1.hid _ zz hx, made_args S1.hid (Ress.rp S1 hR r1) hx hd, hs, fun H3 fr => ?_⟩
  have s3 : Same H1 H3 := fun b o eb => fr b o (s2 b o eb) (ne_of_none eb hx)
  exact q H3 A1 (t1.trans (Stp.same s3)) (S1.same s3)
/-- try: name = what raises; except C: raise another -/
theorem db_tryRaise {x y z msg : Str} {c : Value} {body : List Stmt} {np pos' py spos p3 p4 p5 rpos : Pos} {j : Nat} {Cb : Addr} (hc : Names X x c)
    (hex : PySem.W.exmOne X.K (.ref Ca) c = some true) (E : ExA X.K X.mg z Cb) (h : ∀ M', Fi.ex Cb M' env) (hb : body = [.Assign [.Name y py] e spos]) (hN : X.N.Nodup) (i : Nat) (hi : X.N[i]? = some y) (hx : Loc X.env.scope y)
    (hsw : swapsWith e (some (.Name y py)) spos.line X.env = pure false) (hfy : X.fn y = true ∨ X.env.scope.names.lookup y = some .local)
    (hpa : ∀ hd : Option Value, PassesOwnAt (model X.prog X.w) (X.A.mark hd) X.A X.env X.xe)
    (hcD : ∀ (pn : List (Addr × Obj)) (xe : Value → Shared → Prop), DXn (X.tr pn xe) M env e Ca M1)
    (hg : Gl X z := by rfl) (hdb : (z == ("__debug__" : Str)) = false := by decide) (hs : X.stack = X.env :: X.outer := by rfl) (hf : X.env.frame = some X.env.locals := by rfl) :
    DB X M env (.Try body [.ExceptHandler (some (.Name x np)) none [.Raise (some (.Call (.Name z p3) [.Constant (.str msg) j p4] [] p5)) none rpos] pos'] [] [] pos :: rest) Fi := fun σ H F A S L Dn W tk mt => by
  subst hb
  refine semCons (sS (L2H.ps_try_onlyX (Wout := W) (tb := fun W' D σ H => ∀ (pn : List (Addr × Obj)) (xe : Value → Shared → Prop), L2N.Takes (X.tr pn xe) W' → SemSs (X.tr pn xe) [.Assign [.Name y py] e spos] D σ H)
    (ts := fun a cls d D σ H => W (.ref Cb) none σ H) hs hf hc hpa tk (fun W' pn xe tk1 _ _ => ⟨fun pins s σ H D I h => h pn xe tk1 pins s I⟩) (fun a oe cls d pn _ _ tk2 hot => ⟨fun pins s σ H D I h => ?_⟩)) ?_)
  · refine (pss_cons (L2H.ps_raiseH (X := L2H.suiteX X a ((a, oe) :: pn)) hot tk2 (L2N.pmk_own PySem.F.excBase_ValueError E.exc E.mgx E.kp (raises_own E.sub E.ty) hg hdb)) pss_nil).run pins s σ H D I ?_
    exact h
  · intro pn xe tk1
    refine semCons (sS (ps_set (X := X.tr pn xe) hN hi hx (semE (X.tr pn xe) e) hsw hfy) ?_)
    refine hcD pn xe σ H F A S L.2 _ tk1 (fun H' A' t S' => ?_) _
    exact ⟨true, hex, fun _ a ha => mt.ex Cb _ env σ H' A' (h _) t S' (L.stp S t), fun z => nomatch z⟩
end
section
variable {P : Program} {w : World} {K : PySem.W.Frag} {mg : Str → Option Value} {base : Heap}
theorem init_bad {x qual : Str} {st : Stmt} {f Cl : Addr} {fd : FuncData} {N ps : List Str} {k : Nat} {Sg : List D → Out → Prop} (F : Fun K x qual st f fd) (S : FnScope N ps (defScope st)) (len : ∀ ds o, Sg ds o → ds.length + 1 = ps.length)
    (hb : ∀ (cdv : Value) (A : Around) (outer : List PySem.Env) (s : Shared) (H : Hp) (E : XK) (ds : List D) (Ca : Addr), Room k (A.deeper (envOfC qual (defScope st) s.heap.objs.size f cdv)) → Sg ds (.er Ca) →
      DBN (cxOf (L2N.CX P w) P w K mg base N qual (defScope st) f cdv A outer s H E) [.ins Cl []] (startE N (.loc 0 :: ds)) (defBody st) Ca) : FnOk P w K mg base (L2N.CX P w) (k + 1) f fd ps (spI K Cl fun ds o => Sg ds o ∧ ∃ Ca, o = .er Ca) := by
  refine funN_okX F S (fun vs H Q E ⟨Fh, ws, ds, o, q, dx, e, _, _, _, r, hs, _⟩ => by rw [e, List.length_cons, r.length]; exact len ds o hs.1) (fun cdv A outer s H vs Q E hr ⟨Fh, ws, ds, o, q, dx, e, hq, hF, nq, r, ⟨hs, Ca, ho⟩, way⟩ => ?_)
  subst e
  subst ho
  refine ⟨_, semSs _ _, ?_⟩
  have S0 : Sto K Fh [[q]] [.ins Cl []] H := by
    refine ⟨hF, fun fp hf a ha => ?_, fun i j fp gp a hi hj _ _ => ?_, fun j c hj => ?_, rfl⟩
    · rw [List.mem_singleton.mp hf] at ha
      rw [List.mem_singleton.mp ha]
      exact ⟨by rw [hq]; simp, nq⟩
    · have g1 := (List.getElem?_eq_some_iff.mp hi).1
      have g2 := (List.getElem?_eq_some_iff.mp hj).1
      simp only [List.length_singleton] at g1 g2
      omega
    · have g1 := (List.getElem?_eq_some_iff.mp hj).1
      obtain rfl : j = 0 := by simp only [List.length_singleton] at g1; omega
      cases hj
      exact ⟨[q], rfl, q, dx, [], rfl, hq, .nil⟩
  have r1 : Rps K [[q]] (Vw Fh [[q]] H) (.ref q :: ws) (.loc 0 :: ds) := .cons (.loc (r := []) rfl) (by
    rw [Vw.one]
    exact r.mono (Same.refl _) fun k fp h => by simp at h)
  have L0 : SlotsN K [[q]] (Vw Fh [[q]] H) (startE N (.loc 0 :: ds)) (L2.start N (.ref q :: ws)) := by
    have hl := r1.length
    refine ⟨by simp [startE, L2.start] at hl ⊢; omega, fun i d h => ?_⟩
    unfold startE at h
    unfold L2.start
    by_cases hi : i < (D.loc 0 :: ds).length
    · rw [List.getElem?_append_left (by rw [List.length_map]; exact hi), List.getElem?_map] at h
      cases e : (D.loc 0 :: ds)[i]? with
      | none => rw [e] at h; cases h
      | some d' =>
        rw [e] at h
        cases h
        obtain ⟨v, g1, g2⟩ := r1.get e
        exact ⟨v, by rw [List.getElem?_append_left (by rw [List.length_map, hl]; exact hi), List.getElem?_map, g1]; rfl, g2⟩
    · rw [List.getElem?_append_right (by rw [List.length_map]; omega), List.getElem?_replicate] at h
      split at h <;> cases h
  exact hb cdv A outer s H E ds Ca hr hs _ H Fh [[q]] S0 L0 (fun cls d _ H' => E cls d H') (L2N.takes_of rfl rfl rfl rfl) (fun σ' H' A' t S' => way H' fun b u hb nb => t.frame b u hb fun fp hf hm => by
    rw [List.mem_singleton.mp hf] at hm
    exact nb (List.mem_singleton.mp hm)) _
/-- an __init__, its exceptions without a context -/
theorem okIN {f Cl : Addr} {fd : FuncData} {ps : List Str} {k : Nat} {Sg : List D → Out → Prop} (Fg : FnOk P w K mg base (L2.CX P w) k f fd ps (spI K Cl Sg)) (Fb : FnOk P w K mg base (L2N.CX P w) k f fd ps (spI K Cl fun ds o => Sg ds o ∧ ∃ Ca, o = .er Ca)) :
    FnOk P w K mg base (L2N.CX P w) k f fd ps (spI K Cl Sg) :=
  ⟨Fg.len, fun A outer s H args us vs Q E hr e0 hb r ⟨Fh, ws, ds, o, q, dx, e, hq, hF, nq, rr, hs, way⟩ => by
    cases o with
    | ok z =>
      refine codeAny_mono (Fg.run A outer s H args us vs Q (fun _ _ _ => False) hr e0 hb r ⟨Fh, ws, ds, .ok z, q, dx, e, hq, hF, nq, rr, hs, way⟩) fun r s' hq' => ?_
      cases r with
      | error u =>
        obtain ⟨_, _, _, _, _, _, _, _, _, _, _, _, z⟩ := hq'
        exact z.elim
      | ok fl => cases fl <;> exact hq'
    | er Ca => exact Fb.run A outer s H args us vs Q E hr e0 hb r ⟨Fh, ws, ds, .er Ca, q, dx, e, hq, hF, nq, rr, ⟨hs, Ca, rfl⟩, way⟩
    | own _ _ => exact way.elim⟩
end
end KT
/-! texts joined, split; numbers written and read; a try whose body does not raise -/
namespace KT
open PySem PySem.Spec PyProof.Rows L2
section
variable {X : Cx} {M M1 M2 M3 : List C} {env : EnvD} {a b e o : Expr} {es : List Expr} {x y d : D} {ds : List D} {pos p apos : Pos} {rest : List Stmt} {Fi : Fin} {f : Str}
theorem sum_le (m : Nat) : ∀ (l : List Nat), (∀ x ∈ l, x ≤ m) → l.sum ≤ l.length * m
  | [], _ => by simp
  | x :: l, h => by
    have h1 := h x List.mem_cons_self
    have h2 := sum_le m l fun z hz => h z (List.mem_cons_of_mem _ hz)
    rw [List.sum_cons, List.length_cons, Nat.add_mul]
    omega
theorem de_join {s : List Nat} {ys : List (List Nat)} (ho : DE X M env o (.str (S s)) M1) (he : DE X M1 env e y M2) (hl : Ls M2 y (ys.map fun l => .str (S l))) (hs : s.length ≤ 10) (hy : ys.length ≤ 1000) (hb : ∀ l ∈ ys, l.length ≤ 1000)
    (hst : starEach [e] X.env = [(false, eval e X.env)] := by rfl) (hbase : attributeBase o "join" X.env (eval o X.env) = eval o X.env := by rfl) (hline : (apos.endLine == pos.line) = true := by rfl) :
    DE X M env (.Call (.Attribute o "join" apos) [e] [] pos) (.str (S (TL.joinL s ys))) M2 := fun σ H F A St L Q q => by
  refine sE (pe_join (semE X o) (semE X e) hst hbase hline) ?_
  refine ho σ H F A St L _ fun v H1 A1 t1 S1 r1 => ?_
  cases r1
  refine ⟨⟨_, rfl⟩, ?_⟩
  refine he σ H1 F A1 S1 (L.stp St t1) _ fun u H2 A2 t2 S2 r2 => ?_
  obtain ⟨qa, vs, rfl, h1, h2⟩ := hl.at S2 r2
  have h3 : Rps X.K A2 (Vw F A2 H2) vs ((ys.map S).map .str) := by rw [List.map_map]; exact h2
  rw [h3.strs] at h1
  refine ⟨_, qa, ys.map S, rfl, rfl, .inl h1, ?_, ?_⟩
  · rw [SX.lens, List.length_map, S_len]
    have k1 := sum_le 1000 (ys.map fun x => x.length) fun x hx => by
      obtain ⟨l, hl, rfl⟩ := List.mem_map.mp hx
      exact hb l hl
    rw [List.length_map] at k1
    have k2 : ys.length * s.length ≤ 1000 * 10 := Nat.mul_le_mul hy hs
    have k3 : ys.length * 1000 ≤ 1000 * 1000 := Nat.mul_le_mul_right _ hy
    omega
  · rw [SX.join_S]
    exact q _ H2 A2 (t1.trans t2) S2 (.str _)
theorem df_split {s c : List Nat} (ho : DE X M env o (.str (S s)) M1) (he : DE X M1 env e (.str (S c)) M2) (hc : c ≠ [] := by decide) (hk : c.all (· < 256) = true := by decide) (hl : s.length ≤ 10000)
    (hst : starEach [e] X.env = [(false, eval e X.env)] := by rfl) (hbase : attributeBase o "split" X.env (eval o X.env) = eval o X.env := by rfl) (hline : (apos.endLine == pos.line) = true := by rfl) :
    DF X M env (.Call (.Attribute o "split" apos) [e] [] pos) ((TL.spl c 0 [] s).map fun l => .str (S l)) M2 := fun σ H F A St L Q q => by
  refine sE (pe_split (semE X o) (semE X e) hst hbase hline) ?_
  refine ho σ H F A St L _ fun v H1 A1 t1 S1 r1 => ?_
  cases r1
  refine ⟨⟨_, rfl⟩, ?_⟩
  refine he σ H1 F A1 S1 (L.stp St t1) _ fun u H2 A2 t2 S2 r2 => ?_
  cases r2
  refine ⟨_, _, rfl, rfl, ?_, ?_, fun pn hp => ?_⟩
  · rw [S_len]
    cases c with
    | nil => exact absurd rfl hc
    | cons _ _ => rfl
  · rw [S_len]
    exact line_of (n := s.length + 2) (by omega)
  · rw [SX.split_S hc hk, List.map_map]
    refine q pn _ H2 _ A2 (t1.trans t2) S2 hp (same_new hp) upd_same ?_
    have z := Rps.of_strs (K := X.K) (A := A2) (G := Vw F A2 H2) ((TL.spl c 0 [] s).map S)
    rw [List.map_map, List.map_map] at z
    exact z
theorem toS_dgt : ∀ n : Nat, n < 10 → ((toString (Int.ofNat n) : String) : Str) = S [48 + n] := by
  intro n h
  match n, h with
  | 0, _ => decide +kernel
  | 1, _ => decide +kernel
  | 2, _ => decide +kernel
  | 3, _ => decide +kernel
  | 4, _ => decide +kernel
  | 5, _ => decide +kernel
  | 6, _ => decide +kernel
  | 7, _ => decide +kernel
  | 8, _ => decide +kernel
  | 9, _ => decide +kernel
theorem ofS_dgt : ∀ n : Nat, n < 10 → PySem.intText? (S [48 + n]) = some (n : Int) := by
  intro n h
  match n, h with
  | 0, _ => decide +kernel
  | 1, _ => decide +kernel
  | 2, _ => decide +kernel
  | 3, _ => decide +kernel
  | 4, _ => decide +kernel
  | 5, _ => decide +kernel
  | 6, _ => decide +kernel
  | 7, _ => decide +kernel
  | 8, _ => decide +kernel
  | 9, _ => decide +kernel
/-- str of one figure -/
theorem de_strI {i : Int} (ha : DA X M env [e] [.int i] M1) (hi : 0 ≤ i ∧ i ≤ 9) (hm : X.mg "str" = none) (hv : bootBuiltins "str" = some (.type "str") := by decide +kernel) (hg : Gl X "str" := by rfl)
    (he : starEach [e] X.env = (false, eval e X.env) :: starEach [] X.env := by rfl) (hpl : (backTo pos (starEach [] X.env)).any (·.1) = false := by rfl) : DE X M env (.Call (.Name "str" p) [e] [] pos) (.str (S [48 + i.toNat])) M1 := by
  refine de_callTy call_str_int (fun F A H vs S r Q q => ?_) hm hv ha hg (by decide) (by decide) he hpl
  cases r with
  | cons r0 r1 =>
    cases r1
    cases r0
    have e1 : i = Int.ofNat i.toNat := by show i = ((i.toNat : Nat) : Int); omega
    refine ⟨i, rfl, ?_, ?_⟩
    · have : i.natAbs < 2 ^ 1919 := Nat.lt_of_le_of_lt (m := 9) (by omega) (by decide +kernel)
      by_cases z : i.natAbs = 0
      · rw [z]; decide
      · exact Nat.lt_trans ((Nat.log2_lt z).mpr this) (by decide)
    · have e2 := toS_dgt i.toNat (by omega)
      rw [← e1] at e2
      rw [e2]
      exact q _ H (Same.refl H) (.str _)
/-- int of one figure -/
theorem de_intC {c : Nat} (ha : DA X M env [e] [.str (S [c])] M1) (hi : 48 ≤ c ∧ c ≤ 57) (hm : X.mg "int" = none) (hv : bootBuiltins "int" = some (.type "int") := by decide +kernel) (hg : Gl X "int" := by rfl)
    (he : starEach [e] X.env = (false, eval e X.env) :: starEach [] X.env := by rfl) (hpl : (backTo pos (starEach [] X.env)).any (·.1) = false := by rfl) : DE X M env (.Call (.Name "int" p) [e] [] pos) (.int ((c : Int) - 48)) M1 := by
  refine de_callTy call_int_str (fun F A H vs S r Q q => ?_) hm hv ha hg (by decide) (by decide) he hpl
  cases r with
  | cons r0 r1 =>
    cases r1
    cases r0
    have e2 := ofS_dgt (c - 48) (by omega)
    rw [show 48 + (c - 48) = c by omega] at e2
    refine ⟨_, _, rfl, e2, ?_, ?_⟩
    · rw [S_len]; show 1 ≤ 640; omega
    · rw [show (((c - 48 : Nat) : Nat) : Int) = (c : Int) - 48 by omega]
      exact q _ H (Same.refl H) (.int _)
theorem dt_neC {s t : List Nat} (ha : DE X M env a (.str (S s)) M1) (hb : DE X M1 env b (.str (S t)) M2) : DT X M env (.Compare a [.NotEq] [b] pos) (!decide (s = t)) M2 := (dt_neS ha hb).is (by rw [S_eq])
/-- try: name = what does not raise -/
theorem db_tryOk {x y : Str} {c : Value} {suite : List Stmt} {b0 : Stmt} {np pos' py spos : Pos} (hc : Names X x c) (hN : X.N.Nodup) (i : Nat) (hi : X.N[i]? = some y) (hx : Loc X.env.scope y)
    (hsw : swapsWith e (some (.Name y py)) spos.line X.env = pure false) (hfy : X.fn y = true ∨ X.env.scope.names.lookup y = some .local)
    (hcD : ∀ (pn : List (Addr × Obj)) (xe : Value → Shared → Prop), DE (X.tr pn xe) M env e d M1)
    (hr : DB X M1 (env.set i (some d)) rest Fi)
    (hs : X.stack = X.env :: X.outer := by rfl) (hf : X.env.frame = some X.env.locals := by rfl) :
    DB X M env (.Try [.Assign [.Name y py] e spos] [.ExceptHandler (some (.Name x np)) none (b0 :: suite) pos'] [] [] pos :: rest) Fi := fun σ H F A S L Dn W tk mt => by
  refine semCons (sS (ps_try_only (Wout := W) (tb := fun W' D σ H => ∀ (pn : List (Addr × Obj)) (xe : Value → Shared → Prop), Takes (X.tr pn xe) W' → SemSs (X.tr pn xe) [.Assign [.Name y py] e spos] D σ H)
    (ts := fun a cls d D σ H => ∀ (oe : Obj) (pn : List (Addr × Obj)), SemSs (X.suite a ((a, oe) :: pn)) (b0 :: suite) D σ H) hs hf hc tk (fun W' pn xe tk1 _ => ⟨fun pins s σ H D I h => h pn xe tk1 pins s I⟩) (fun a oe cls d pn _ _ => ⟨fun pins s σ H D I h => h oe pn pins s I⟩)) ?_)
  intro pn xe tk1
  refine semCons (sS (ps_set (X := X.tr pn xe) hN hi hx (semE (X.tr pn xe) e) hsw hfy) ?_)
  refine hcD pn xe σ H F A S L.2 _ fun v H' A' t S' r => ?_
  refine sSs (X := X.tr pn xe) pss_nil ?_
  exact hr _ H' F A' S' ((L.stp S t).set i r) Dn W tk (mt.stp t)
end
end KT
/-! min, max of truth values; <= of nested lists -/
namespace KT
open PySem PySem.Spec PySem.SeqAt PySem.W PyProof.Rows L2
theorem dataLt_bl (c b : Bool) : dataLt (.bool c) (.bool b) = (!c && b) := by cases b <;> cases c <;> decide +kernel
theorem minD_bl : ∀ (bs : List Bool) (b : Bool), minD (.bool b) (bs.map PyData.bool) = .bool (b && bs.all id) := by
  intro bs
  induction bs with
  | nil => intro b; cases b <;> rfl
  | cons c bs ih =>
    intro b
    show minD (if dataLt (.bool c) (.bool b) then .bool c else .bool b) (bs.map PyData.bool) = _
    have : (if dataLt (.bool c) (.bool b) then PyData.bool c else .bool b) = .bool (b && c) := by rw [dataLt_bl]; cases b <;> cases c <;> rfl
    rw [this, ih, List.all_cons, Bool.and_assoc]
    rfl
theorem maxD_bl : ∀ (bs : List Bool) (b : Bool), maxD (.bool b) (bs.map PyData.bool) = .bool (b || bs.any id) := by
  intro bs
  induction bs with
  | nil => intro b; cases b <;> rfl
  | cons c bs ih =>
    intro b
    show maxD (if dataLt (.bool b) (.bool c) then .bool c else .bool b) (bs.map PyData.bool) = _
    have : (if dataLt (.bool b) (.bool c) then PyData.bool c else .bool b) = .bool (b || c) := by rw [dataLt_bl]; cases b <;> cases c <;> rfl
    rw [this, ih, List.any_cons, Bool.or_assoc]
    rfl
theorem reads_bls {h : Heap} : ∀ {bs : List Bool} {us : List Value}, Vals (bs.map V.bl) us → ∃ as, ReadsAll h us (bs.map PyData.bool) as
  | [], _, r => by cases r; exact ⟨_, .nil⟩
  | b :: bs, _, r => by
    cases r with
    | cons r1 r2 =>
      cases r1
      obtain ⟨as, z⟩ := reads_bls (h := h) r2
      exact ⟨_, .cons (.bool b) z⟩
theorem alike_bls (bs : List Bool) : AlikeAll (bs.map PyData.bool) := by
  refine ⟨fun x hx y hy => ?_, fun x hx => ?_⟩
  · obtain ⟨a, _, rfl⟩ := List.mem_map.mp hx
    obtain ⟨b, _, rfl⟩ := List.mem_map.mp hy
    rfl
  · obtain ⟨a, _, rfl⟩ := List.mem_map.mp hx
    exact fun e => nomatch e
theorem depth_bls (bs : List Bool) : PyData.depthAll (bs.map PyData.bool) ≤ 1 := by
  induction bs with
  | nil => simp [PyData.depthAll]
  | cons b bs ih =>
    rw [List.map_cons, PyData.depthAll, PyData.depth]
    omega
section
variable {X : Cx}
def rMinB (K : PySem.W.Frag) : List V → Hp → VK → Prop := fun vs H Q => ∃ (a : Addr) (b : Bool) (bs : List Bool), vs = [V.ref a] ∧ SqL K H a ((b :: bs).map V.bl) ∧ Q (.bl (b && bs.all id)) H
def rMaxB (K : PySem.W.Frag) : List V → Hp → VK → Prop := fun vs H Q => ∃ (a : Addr) (b : Bool) (bs : List Bool), vs = [V.ref a] ∧ SqL K H a ((b :: bs).map V.bl) ∧ Q (.bl (b || bs.any id)) H
theorem cr_minB (hc : X.calm = true) (hu : X.A.units + 64 < cLine) : CallR X (.builtin "min") (rMinB X.K) := by
  intro pins s σ H vs us Q I r h
  obtain ⟨a, b, bs, rfl, hs, q⟩ := h
  obtain ⟨its, rv, hl, _⟩ := I.list hs
  rw [Vals.ref1 r]
  obtain ⟨as, hr⟩ := reads_bls (h := s.heap) rv
  have hd := depth_bls (b :: bs)
  refine min_list_data (x := .bool b) (xs := bs.map .bool) (I.ok.hd hc) hl.isList (by simpa using hr) (alike_bls (b :: bs)) (by show _ + PyData.depthAll ((b :: bs).map PyData.bool) < _; omega) fun i v h' tk bs' _ hv hk => ?_
  rw [minD_bl] at hv
  cases hv
  exact ⟨.bl _, H, I.kept hk, rfl, q⟩
theorem cr_maxB (hc : X.calm = true) (hu : X.A.units + 64 < cLine) : CallR X (.builtin "max") (rMaxB X.K) := by
  intro pins s σ H vs us Q I r h
  obtain ⟨a, b, bs, rfl, hs, q⟩ := h
  obtain ⟨its, rv, hl, _⟩ := I.list hs
  rw [Vals.ref1 r]
  obtain ⟨as, hr⟩ := reads_bls (h := s.heap) rv
  have hd := depth_bls (b :: bs)
  refine max_list_data (x := .bool b) (xs := bs.map .bool) (I.ok.hd hc) hl.isList (by simpa using hr) (alike_bls (b :: bs)) (by show _ + PyData.depthAll ((b :: bs).map PyData.bool) < _; omega) fun i v h' tk bs' _ hv hk => ?_
  rw [maxD_bl] at hv
  cases hv
  exact ⟨.bl _, H, I.kept hk, rfl, q⟩
def rLeD (K : PySem.W.Frag) : R2 := fun x y H Q => ∃ (dx dy : PyData), Dp K H x dx ∧ Dp K H y dy ∧ alike dx dy = true ∧ dx ≠ .none ∧ dx.depth ≤ 50 ∧ Q (.bl (!dataLt dy dx)) H
theorem op_leD (hu : X.A.units + 64 < cLine) : OpR X (compareOp .LtE) (rLeD X.K) := by
  intro pins s σ H x y v u Q I rx ry h
  obtain ⟨dx, dy, hx, hy, ha, hn, hd, q⟩ := h
  obtain ⟨as, r1⟩ := Dp.reads I dx x v hx rx
  obtain ⟨bs, r2⟩ := Dp.reads I dy y u hy ry
  exact le_data r1 r2 ha hn (by omega) ⟨.bl _, H, I, rfl, q⟩
end
section
variable {X : Cx} {M M1 M2 : List C} {env : EnvD} {a b e : Expr} {x y : D} {pos p : Pos}
theorem de_minB {bs : List Bool} (hu : X.A.units + 64 < cLine) (hl : Ls M1 x (bs.map D.bl)) (hne : bs ≠ []) (hm : X.mg "min" = none) (ha : DA X M env [e] [x] M1) (hc : X.calm = true := by rfl) (hv : bootBuiltins "min" = some (.builtin "min") := by decide +kernel) (hg : Gl X "min" := by rfl)
    (he : starEach [e] X.env = (false, eval e X.env) :: starEach [] X.env := by rfl) (hpl : (backTo pos (starEach [] X.env)).any (·.1) = false := by rfl) : DE X M env (.Call (.Name "min" p) [e] [] pos) (.bl (bs.all id)) M1 :=
  de_callB (cr_minB hc hu) (fun F A H vs S r Q q => by
    cases r with
    | cons r0 r1 =>
      cases r1
      obtain ⟨a, us, rfl, g1, g2⟩ := hl.at S r0
      rw [Rps.bls g2] at g1
      cases bs with
      | nil => exact absurd rfl hne
      | cons b bs => exact ⟨a, b, bs, rfl, g1, q _ H (Same.refl H) (.bl _)⟩) hm hv ha hg (by decide) (by decide) he hpl
theorem de_maxB {bs : List Bool} (hu : X.A.units + 64 < cLine) (hl : Ls M1 x (bs.map D.bl)) (hne : bs ≠ []) (hm : X.mg "max" = none) (ha : DA X M env [e] [x] M1) (hc : X.calm = true := by rfl) (hv : bootBuiltins "max" = some (.builtin "max") := by decide +kernel) (hg : Gl X "max" := by rfl)
    (he : starEach [e] X.env = (false, eval e X.env) :: starEach [] X.env := by rfl) (hpl : (backTo pos (starEach [] X.env)).any (·.1) = false := by rfl) : DE X M env (.Call (.Name "max" p) [e] [] pos) (.bl (bs.any id)) M1 :=
  de_callB (cr_maxB hc hu) (fun F A H vs S r Q q => by
    cases r with
    | cons r0 r1 =>
      cases r1
      obtain ⟨a, us, rfl, g1, g2⟩ := hl.at S r0
      rw [Rps.bls g2] at g1
      cases bs with
      | nil => exact absurd rfl hne
      | cons b bs => exact ⟨a, b, bs, rfl, g1, q _ H (Same.refl H) (.bl _)⟩) hm hv ha hg (by decide) (by decide) he hpl
theorem de_leD {x' y' : D} (hu : X.A.units + 64 < cLine) (ha : DE X M env a x M1) (hb : DE X M1 env b y M2) (rx : Res M2 x x') (ry : Res M2 y y') (px : x'.pur = true) (py : y'.pur = true) (dx : x'.dep ≤ 20) (hal : alike x'.py y'.py = true) (hn : x'.py ≠ .none) : DE X M env (.Compare a [.LtE] [b] pos) (.bl (!dataLt y'.py x'.py)) M2 :=
  de_cmp (op_leD hu) ha hb (fun F A H v u S r1 r2 Q q =>
    ⟨x'.py, y'.py, (Res.rp S rx r1).dp (Vw.le _ _ _) _ _ px, (Res.rp S ry r2).dp (Vw.le _ _ _) _ _ py, hal, hn, by have := (D.lay x' px).2; omega, q _ H (Same.refl H) (.bl _)⟩) (nomark _)
theorem de_min2 {i j : Int} {p : Pos} (hm : X.mg "min" = none) (ha : DA X M env [a, b] [.int i, .int j] M1) (hc : X.calm = true := by rfl) (hv : bootBuiltins "min" = some (.builtin "min") := by decide +kernel) (hg : Gl X "min" := by rfl)
    (he : starEach [a, b] X.env = (false, eval a X.env) :: starEach [b] X.env := by rfl) (hpl : (backTo pos (starEach [b] X.env)).any (·.1) = false := by rfl) : DE X M env (.Call (.Name "min" p) [a, b] [] pos) (.int (if j < i then j else i)) M1 :=
  de_callB (call_min2 hc) (fun F A H vs S r Q q => by
    cases r with
    | cons r0 r1 =>
      cases r1 with
      | cons r1 r2 =>
        cases r2
        cases r0
        cases r1
        exact ⟨i, j, rfl, q _ H (Same.refl H) (.int _)⟩) hm hv ha hg (by decide) (by decide) he hpl
end
end KT
/-! dicts whose keys are nested tuples; tuple(list) -/
namespace KT
open PySem PySem.Spec PyProof.Rows L2
mutual
def nkey : D → NestedKey
  | .int i => .num i
  | .str s => .text s
  | .tup ds => .tup (nkeys ds)
  | _ => .none
def nkeys : List D → List NestedKey
  | [] => []
  | d :: ds => nkey d :: nkeys ds
end
mutual
def nok : D → Bool
  | .int _ => true
  | .str _ => true
  | .tup ds => noks ds
  | _ => false
def noks : List D → Bool
  | [] => true
  | d :: ds => nok d && noks ds
end
section
variable {K : PySem.W.Frag} {A : Fps} {G H : Hp} {P : Program} {w : World} {h : Heap}
mutual
theorem Rp.nis (ok : HOk P w H h) (e : Same G H) : ∀ (d : D) (v : V) (u : Value), nok d = true → Rp K A G v d → RelV v u → NestedIs h (nkey d) u
  | .int i, _, u, _, r, rv => by
    cases r
    obtain ⟨t, rfl⟩ := rv
    rw [nkey]
    exact .int i t
  | .str s, _, u, _, r, rv => by
    cases r
    obtain ⟨t, rfl⟩ := rv
    rw [nkey]
    exact .text s t
  | .tup ds, _, u, n, r, rv => by
    cases r with
    | @tup a vs _ h1 h2 =>
      cases (show u = Value.ref a from rv)
      obtain ⟨_, its, rr, o, g1, g2, m, g3⟩ := (show ObjOk P w H h a (.tup vs) from ok a _ (e _ _ h1))
      rw [nkey]
      exact .tup g1 g2 g3 (by simpa using Rps.nis ok e ds vs its (by rw [nok] at n; exact n) h2 rr)
  | .non, _, _, n, _, _ => by simp [nok] at n
  | .bl _, _, _, n, _, _ => by simp [nok] at n
  | .lst _, _, _, n, _, _ => by simp [nok] at n
  | .obj _ _, _, _, n, _, _ => by simp [nok] at n
  | .loc _, _, _, n, _, _ => by simp [nok] at n
  | .adr _, _, _, n, _, _ => by simp [nok] at n
  | .scr _, _, _, n, _, _ => by simp [nok] at n
  | .ty _, _, _, n, _, _ => by simp [nok] at n
theorem Rps.nis (ok : HOk P w H h) (e : Same G H) : ∀ (ds : List D) (vs : List V) (us : List Value), noks ds = true → Rps K A G vs ds → Vals vs us → NestedAll h (nkeys ds) us
  | [], _, _, _, r, rv => by
    cases r
    cases rv
    rw [nkeys]
    exact .nil
  | d :: ds, _, _, n, r, rv => by
    rw [noks, Bool.and_eq_true] at n
    cases r with
    | cons r1 r2 =>
      cases rv with
      | cons v1 v2 =>
        rw [nkeys]
        exact .cons (Rp.nis ok e d _ _ n.1 r1 v1) (Rps.nis ok e ds _ _ n.2 r2 v2)
end
end
/-- entries as they stand -/
def ents (w : World) (kvs : List (D × D)) : List (Int × D × D) := kvs.map fun kv => ((nkey kv.1).hash w, kv.1, kv.2)
def KOk (kvs : List (D × D)) : Prop := (∀ kv ∈ kvs, nok kv.1 = true ∧ (nkey kv.1).depth ≤ 8) ∧ (kvs.map fun kv => nkey kv.1).Nodup
def valN (kvs : List (D × D)) (k : NestedKey) : Option D := (kvs.find? fun kv => decide (nkey kv.1 = k)).map (·.2)
section
variable {K : PySem.W.Frag} {A : Fps} {G H : Hp} {P : Program} {w : World} {h : Heap}
/-- the entries told as the library tells them -/
theorem nes_xs (ok : HOk P w H h) (e : Same G H) : ∀ {kvs : List (D × D)} {es : List DictEntry}, (∀ kv ∈ kvs, nok kv.1 = true ∧ (nkey kv.1).depth ≤ 8) → Nes K A G es (ents w kvs) →
    ∃ xs : List (NestedKey × Addr × Value), es = xs.map (entryOfKey (nestedKind P w)) ∧ (∀ x ∈ xs, (nestedKind P w).is h x.1 x.2.1) ∧ (xs.map (·.1) = kvs.map fun kv => nkey kv.1) ∧
      ∀ k, (valN kvs k = none ∧ atKey xs k = none) ∨ ∃ d v b u, valN kvs k = some d ∧ atKey xs k = some (b, u) ∧ RelV v u ∧ Rp K A G v d
  | [], _, _, r => by
    cases r
    exact ⟨[], rfl, (fun x hx => by cases hx), rfl, fun k => .inl ⟨rfl, rfl⟩⟩
  | (kd, d) :: kvs, _, hk, r => by
    cases r with
    | @cons en b v _ _ _ es _ h1 h2 r1 h3 r2 t =>
      obtain ⟨xs, e1, e2, e3, e4⟩ := nes_xs ok e (fun kv hkv => hk kv (List.mem_cons_of_mem _ hkv)) t
      obtain ⟨k1, k2⟩ := hk _ List.mem_cons_self
      refine ⟨(nkey kd, b, en.val) :: xs, ?_, fun x hx => ?_, ?_, fun k => ?_⟩
      · rw [List.map_cons, ← e1]
        congr 1
        cases en
        simp only at h1 h2
        subst h1
        subst h2
        rfl
      · rcases List.mem_cons.mp hx with rfl | hx
        · exact ⟨Rp.nis ok e kd _ _ k1 r1 rfl, k2⟩
        · exact e2 x hx
      · rw [List.map_cons, List.map_cons, e3]
      · by_cases z : nkey kd = k
        · refine .inr ⟨d, v, b, en.val, ?_, ?_, h3, r2⟩
          · unfold valN
            rw [List.find?_cons_of_pos (by simp [z])]
            rfl
          · unfold atKey
            rw [List.find?_cons_of_pos (by simp [z])]
            rfl
        · have z1 : valN ((kd, d) :: kvs) k = valN kvs k := by
            unfold valN
            rw [List.find?_cons_of_neg (by simp [z])]
          have z2 : atKey ((nkey kd, b, en.val) :: xs) k = atKey xs k := by
            unfold atKey
            rw [List.find?_cons_of_neg (by simp [z])]
          rw [z1, z2]
          exact e4 k
theorem Nes.snoc {e : DictEntry} {b : Addr} {v : V} {i : Int} {kd d : D} (h1 : e.hash = i) (h2 : e.key = .ref b) (r1 : Rp K A G (.ref b) kd) (h3 : RelV v e.val) (r2 : Rp K A G v d) : ∀ {es : List DictEntry} {ks : List (Int × D × D)}, Nes K A G es ks → Nes K A G (es ++ [e]) (ks ++ [(i, kd, d)])
  | _, _, .nil => .cons h1 h2 r1 h3 r2 .nil
  | _, _, .cons a1 a2 a3 a4 a5 t => .cons a1 a2 a3 a4 a5 (Nes.snoc h1 h2 r1 h3 r2 t)
theorem rawO_ok {a : Addr} {es : Array DictEntry} {ep : Nat} {o : Obj} (h1 : h.get? a = some o) (h2 : o.ExactDict) (h3 : o.data = .dict es ep) : ObjOk P w H h a (rawO a es ep) :=
  ⟨⟨o, h1, h2, h3⟩, ⟨o, h1⟩, fun h1' h2' ⟨o', a1, a2, a3⟩ k => ⟨o', k o' a1, a2, a3⟩⟩
end
/-- a dict of nested keys at a, a key at b -/
structure NAt (K : PySem.W.Frag) (w : World) (H : Hp) (A : Fps) (G : Hp) (a b : Addr) (es : Array DictEntry) (ep : Nat) (kvs : List (D × D)) (kd : D) : Prop where
  same : Same G H
  at_ : H a = some (rawO a es ep)
  hd : (a == sysModules) = false
  nes : Nes K A G es.toList (ents w kvs)
  ok : KOk kvs
  key : Rp K A G (.ref b) kd
  nok : nok kd = true
  dep : (nkey kd).depth ≤ 8
  len : kvs.length ≤ 100000
section
variable {X : Cx} {pins : List (Addr × Obj)} {σ : L2.St} {H : Hp} {s : Shared}
theorem NAt.laid {A : Fps} {G : Hp} {a b : Addr} {es : Array DictEntry} {ep : Nat} {kvs : List (D × D)} {kd : D} (I : Inv X pins σ H s) (N : NAt X.K X.w H A G a b es ep kvs kd) :
    ∃ xs : List (NestedKey × Addr × Value), s.heap.DictOfH (nestedKind X.prog X.w) a xs ∧ xs.length = kvs.length ∧ es.toList = xs.map (entryOfKey (nestedKind X.prog X.w)) ∧ (nestedKind X.prog X.w).is s.heap (nkey kd) b ∧
      ∀ k, (valN kvs k = none ∧ atKey xs k = none) ∨ ∃ d v b u, valN kvs k = some d ∧ atKey xs k = some (b, u) ∧ RelV v u ∧ Rp X.K A G v d := by
  obtain ⟨⟨o, h1, h2, h3⟩, _, _⟩ := (show ObjOk X.prog X.w H s.heap a (rawO a es ep) from I.hok a _ N.at_)
  obtain ⟨xs, e1, e2, e3, e4⟩ := nes_xs (K := X.K) (A := A) I.hok N.same N.ok.1 N.nes
  have el : xs.length = kvs.length := by
    have := congrArg List.length e3
    simpa using this
  exact ⟨xs, ⟨o, es, ep, h1, h2, h3, e1, e2, by rw [e3]; exact N.ok.2⟩, el, e1, ⟨Rp.nis I.hok N.same kd _ _ N.nok N.key rfl, N.dep⟩, e4⟩
def rNNot (K : PySem.W.Frag) (w : World) : R2 := fun x y H Q => ∃ (A : Fps) (G : Hp) (a b : Addr) (es : Array DictEntry) (ep : Nat) (kvs : List (D × D)) (kd : D), x = .ref b ∧ y = .ref a ∧ NAt K w H A G a b es ep kvs kd ∧ Q (.bl (!(valN kvs (nkey kd)).isSome)) H
theorem op_nnot (hu : X.A.units + 20 < cLine) : OpR X (compareOp .NotIn) (rNNot X.K X.w) := by
  intro pins s σ H x y v u Q I rx ry h
  obtain ⟨A, G, a, b, es, ep, kvs, kd, rfl, rfl, N, q⟩ := h
  cases rx
  cases ry
  obtain ⟨xs, dd, _, _, hk, hv⟩ := N.laid I
  refine notIn_keyed (knd := nestedKind X.prog X.w) (k := nkey kd) (by show X.A.units + 1 + 8 < cLine; omega) hk N.hd ⟨xs, dd, rfl⟩ ?_
  have e : (valueAt (pairsH xs) (nkey kd)).isSome = (valN kvs (nkey kd)).isSome := by
    rw [valueAt_pairsH]
    rcases hv (nkey kd) with ⟨e1, e2⟩ | ⟨d, v, b, u, e1, e2, _⟩
    · rw [e1, e2]; rfl
    · rw [e1, e2]; rfl
  rw [e]
  exact ⟨.bl _, H, I.tok _, rfl, q⟩
variable {o i e value k v : Expr} {pos pos' : Pos} {td ty tv tk : TE}
def tNGet (K : PySem.W.Frag) (w : World) (td ty : TE) : TE := fun σ H Q => td σ H fun x H1 => ty σ H1 fun y H2 => ∃ (A : Fps) (G : Hp) (a b : Addr) (es : Array DictEntry) (ep : Nat) (kvs : List (D × D)) (kd d : D), x = .ref a ∧ y = .ref b ∧ NAt K w H2 A G a b es ep kvs kd ∧ valN kvs (nkey kd) = some d ∧
  ∀ v, Rp K A G v d → Q v H2
theorem pe_nget (hu : X.A.units + 20 < cLine) (ho : PE X o td) (hi : PE X i ty) (hs : NoSl i) : PE X (.Subscript o i pos) (tNGet X.K X.w td ty) := by
  refine ⟨fun pins s σ H Q I h => ?_⟩
  refine subD_of PySem.F.slot_dict_getitem.lookup hs (thn (ho.run pins s σ H _ I h) fun u s1 ⟨x, H1, I1, rx, q1⟩ => thn (hi.run pins s1 σ H1 _ I1 q1) fun iv s2 ⟨y, H2, I2, ry, A, G, a, b, es, ep, kvs, kd, d, ex, ey, N, hv, q2⟩ => ?_)
  subst ex
  subst ey
  obtain rfl : u = Value.ref a := rx
  obtain rfl : iv = Value.ref b := ry
  obtain ⟨xs, dd, _, _, hk, hval⟩ := N.laid I2
  refine ⟨dd.typeIs, ?_⟩
  rcases hval (nkey kd) with ⟨e1, _⟩ | ⟨d', v', b', u', e1, e2, r1, r2⟩
  · rw [hv] at e1; cases e1
  · rw [hv] at e1
    cases e1
    exact wpAny_getItem_heap (knd := nestedKind X.prog X.w) (k := nkey kd) (by show X.A.units + 1 + 8 < cLine; omega) hk dd e2 ⟨v', H2, I2.tok _, r1, q2 v' r2⟩
def sNPut (K : PySem.W.Frag) (w : World) (td ty tv : TE) : TS := fun Dn σ H => tv σ H fun v H1 => td σ H1 fun x H2 => ty σ H2 fun y H3 => ∃ (A : Fps) (G : Hp) (a b : Addr) (es : Array DictEntry) (ep : Nat) (kvs : List (D × D)) (kd : D), x = .ref a ∧ y = .ref b ∧ NAt K w H3 A G a b es ep kvs kd ∧ valN kvs (nkey kd) = none ∧
  ∀ (es' : Array DictEntry) (ep' : Nat) (e' : DictEntry), es'.toList = es.toList ++ [e'] → e'.hash = (nkey kd).hash w → e'.key = .ref b → RelV v e'.val → Dn.nx σ (upd H3 a (rawO a es' ep'))
theorem ps_nput (hu : X.A.units + 20 < cLine) (ho : PE X o td) (hi : PE X i ty) (hv : PE X value tv) (hs : swapsWith value (some (.Subscript o i pos')) pos.line X.env = pure false) :
    PS X (.Assign [.Subscript o i pos'] value pos) (sNPut X.K X.w td ty tv) := by
  refine ⟨fun pins s σ H D I h => ?_⟩
  refine wpAny_Assign_Subscript (thn (hv.run pins s σ H _ I h) fun r s1 ⟨v, H1, I1, rv, q1⟩ => thn (ho.run pins s1 σ H1 _ I1 q1) fun u s2 ⟨x, H2, I2, rx, q2⟩ => thn (hi.run pins s2 σ H2 _ I2 q2) fun iv s3 ⟨y, H3, I3, ry, A, G, a, b, es, ep, kvs, kd, ex, ey, N, hn, q3⟩ => ?_) hs
  subst ex
  subst ey
  obtain rfl : u = Value.ref a := rx
  obtain rfl : iv = Value.ref b := ry
  obtain ⟨xs, dd, hl, hes, hk, hval⟩ := N.laid I3
  have hat : atKey xs (nkey kd) = none := by
    rcases hval (nkey kd) with ⟨_, e2⟩ | ⟨d', v', b', u', e1, _⟩
    · exact e2
    · rw [hn] at e1; cases e1
  refine wpAny_setItem_heap (hsz := by rw [hl, sizeLine_eq]; have := N.len; omega) (knd := nestedKind X.prog X.w) (k := nkey kd) (by show X.A.units + 1 + 8 < cLine; omega) hk dd fun h' dd' hsb => ?_
  rw [storedH_new hat] at dd'
  obtain ⟨q, es', ep', hq, h2, h3, h4, _, _⟩ := dd'
  rw [List.map_append, ← hes] at h4
  refine ⟨σ, upd H3 a (rawO a es' ep'), d_write I3 (by rw [N.at_]; exact True.intro) hsb ⟨q, hq⟩ (rawO_ok hq h2 h3), q3 es' ep' _ h4 rfl rfl rv⟩
theorem pe_nnew : PE X (.Dict [] [] pos) (fun _ H Q => ∀ p, H p = none → (p == sysModules) = false → ∀ (es : Array DictEntry) (ep : Nat), es.toList = [] → Q (.ref p) (upd H p (rawO p es ep))) := ⟨fun pins s σ H Q I h => by
  obtain ⟨o, es, ep, h1, h2, h3, h4, _, _⟩ := Heap.DictOfH.new (knd := nestedKind X.prog X.w) s.heap
  have hne : (s.heap.objs.size == sysModules) = false := by
    have := I.big
    exact beq_eq_false_iff_ne.mpr (Nat.ne_of_gt this)
  exact wpAny_Dict_empty ⟨.ref s.heap.objs.size, _, I.laid (a := s.heap.objs.size) (o := rawO s.heap.objs.size es ep) (t' := s.toks) (fun _ _ q => Heap.get?_push_of_some _ q) (Nat.le_refl _) (rawO_ok h1 h2 h3), rfl, h _ (I.hok.fresh (Nat.le_refl _)) hne es ep h4⟩⟩
def tNDisp (K : PySem.W.Frag) (w : World) (tk tv : TE) : TE := fun σ H Q => ∀ p, H p = none → (p == sysModules) = false → ∀ (es0 : Array DictEntry) (ep0 : Nat), es0.toList = [] → tk σ (upd H p (rawO p es0 ep0)) fun x H1 => tv σ H1 fun y H2 =>
  ∃ (A : Fps) (G : Hp) (b : Addr) (es1 : Array DictEntry) (ep1 : Nat) (kd : D), x = .ref b ∧ NAt K w H2 A G p b es1 ep1 [] kd ∧ ∀ (es : Array DictEntry) (ep : Nat) (e' : DictEntry), es.toList = [e'] → e'.hash = (nkey kd).hash w → e'.key = .ref b → RelV y e'.val → Q (.ref p) (upd H2 p (rawO p es ep))
theorem pe_ndisp (hu : X.A.units + 20 < cLine) (hk : PE X k tk) (hv : PE X v tv) : PE X (.Dict [some k] [v] pos) (tNDisp X.K X.w tk tv) := ⟨fun pins s σ H Q I h => by
  obtain ⟨o, es, ep, h1, h2, h3, h4, _, _⟩ := Heap.DictOfH.new (knd := nestedKind X.prog X.w) s.heap
  have hne : (s.heap.objs.size == sysModules) = false := beq_eq_false_iff_ne.mpr (Nat.ne_of_gt I.big)
  have hn := I.hok.fresh (Nat.le_refl s.heap.objs.size)
  have I1 := I.laid (a := s.heap.objs.size) (o := rawO s.heap.objs.size es ep) (h' := s.heap.push { cls := .type "dict", data := .dict #[] }) (t' := s.toks) (fun _ _ q => Heap.get?_push_of_some _ q) (Nat.le_refl _) (rawO_ok h1 h2 h3)
  have hw := (pps_cons hk hv pps_nil (pos := pos)).run pins _ σ _ (fun ps H2 => match ps with | [(x, y)] => ∃ (A : Fps) (G : Hp) (b : Addr) (es1 : Array DictEntry) (ep1 : Nat) (kd : D), x = .ref b ∧ NAt X.K X.w H2 A G s.heap.objs.size b es1 ep1 [] kd ∧ ∀ (es : Array DictEntry) (ep : Nat) (e' : DictEntry), es.toList = [e'] → e'.hash = (nkey kd).hash X.w → e'.key = .ref b → RelV y e'.val → Q (.ref s.heap.objs.size) (upd H2 s.heap.objs.size (rawO s.heap.objs.size es ep)) | _ => False) I1 ?_
  · have hlen := pairTrees_length [some k] [v] X.env pos rfl rfl
    rw [arm_eval_Dict, zip_pairTrees [some k] [v] X.env pos rfl rfl, dictDisplay_pairs (pairTrees [some k] [v] X.env pos) (fun z => by rw [z] at hlen; cases hlen) (by rw [hlen]; show 1 < 17; omega)]
    refine wpAny_bind (wpAny_standAt (wpAny_bind (wpAny_subDictH (knd := nestedKind X.prog X.w) (Q := fun d s' => wpAny (model X.prog X.w) X.A (pure (Value.ref d)) (EP X pins σ Q) X.xe s') (by show X.A.units + 8 < cLine; omega) (by rw [hlen]; show 1 ≤ 15; omega) (wpAny_mono hw (fun vs s1 ⟨ps, H2, I2, rel, hq⟩ => ?_) fun _ _ z => z))))
    match ps, rel, hq with
    | [(x, y)], rel, ⟨A, G, b, es1, ep1, kd, ex, N, q⟩ =>
    subst ex
    cases rel with
    | @cons p q' ps qs hr t =>
      cases t
      obtain ⟨ka, va⟩ := q'
      obtain ⟨r1, r2⟩ := hr
      obtain rfl : ka = Value.ref b := r1
      obtain ⟨xs, dd, hl, hes, hkey, _⟩ := N.laid I2
      have hx0 : xs = [] := List.eq_nil_of_length_eq_zero hl
      subst hx0
      refine ⟨[(nkey kd, b, va)], ⟨rfl, rfl, hkey, trivial⟩, dd, fun h' tk dd' hsb => wpAny_pure ?_⟩
      obtain ⟨q', es', ep', hq, g2, g3, g4, _, _⟩ := dd'
      have hst : storedAllH ([] : List (NestedKey × Addr × Value)) [(nkey kd, b, va)] = [(nkey kd, b, va)] := rfl
      rw [hst] at g4
      exact ⟨.ref s.heap.objs.size, _, d_write I2 (by rw [N.at_]; exact True.intro) hsb ⟨q', hq⟩ (rawO_ok hq g2 g3), rfl, q es' ep' _ g4 rfl rfl r2⟩
  · exact h _ hn hne es ep h4⟩
end
end KT
/-! dicts of nested keys as cells -/
namespace KT
open PySem PySem.Spec PyProof.Rows L2
section
variable {K : PySem.W.Frag} {F : Addr → Prop} {A : Fps} {M : List C} {H : Hp}
theorem Sto.nd (S : Sto K F A M H) {k : Nat} {ks : List (Int × D × D)} (h : M[k]? = some (.nd ks)) {v : V} (hv : Rp K A (Vw F A H) v (.loc k)) :
    ∃ q es ep, v = .ref q ∧ A[k]? = some [q] ∧ H q = some (rawO q es ep) ∧ (q == sysModules) = false ∧ Nes K A (Vw F A H) es.toList ks := by
  cases hv with
  | @loc _ q r hA =>
    obtain ⟨x, es, ep, h1, h2, h3, h4⟩ := S.cell h hA
    cases h1
    exact ⟨q, es, ep, rfl, hA, h2, h3, h4⟩
end
/-- a dict's content and a key to be asked for -/
structure NOk (kvs : List (D × D)) (ds : List D) : Prop where
  ok : KOk kvs
  nok : noks ds = true
  dep : (nkey (.tup ds)).depth ≤ 8
  len : kvs.length ≤ 100000
section
variable {X : Cx} {M M1 M2 M3 : List C} {env : EnvD} {a b o e f : Expr} {es : List Expr} {x y d : D} {ds : List D} {kvs : List (D × D)} {pos p p2 pos2 : Pos} {rest : List Stmt} {Fi : Fin} {k : Nat}
theorem NOk.at {F : Addr → Prop} {A : Fps} {H : Hp} {qa b : Addr} {es : Array DictEntry} {ep : Nat} (N : NOk kvs ds) (h1 : H qa = some (rawO qa es ep)) (h2 : (qa == sysModules) = false) (h3 : Nes X.K A (Vw F A H) es.toList (ents X.w kvs)) (r : Rp X.K A (Vw F A H) (.ref b) (.tup ds)) : NAt X.K X.w H A (Vw F A H) qa b es ep kvs (.tup ds) :=
  ⟨Vw.le F A H, h1, h2, h3, N.ok, r, by rw [KT.nok]; exact N.nok, N.dep, N.len⟩
/-- k not in d -/
theorem dt_ninN (hu : X.A.units + 20 < cLine) (N : NOk kvs ds) (ha : DE X M env a (.tup ds) M1) (hb : DE X M1 env b (.loc k) M2) (hm : M2[k]? = some (.nd (ents X.w kvs))) (hk : behindInMarks .NotIn b = false := by rfl) : DT X M env (.Compare a [.NotIn] [b] pos) (!(valN kvs (nkey (.tup ds))).isSome) M2 :=
  dt_cmp (op_nnot hu) ha hb (fun F A H v u S r1 r2 Q q => by
    obtain ⟨qa, es, ep, rfl, hA, h1, h2, h3⟩ := S.nd hm r2
    obtain ⟨qb, vs, rfl, _, _⟩ := r1.tup_at
    exact ⟨A, Vw F A H, qa, qb, es, ep, kvs, .tup ds, rfl, rfl, N.at h1 h2 h3 r1, q _ H (Same.refl H) (.bl _)⟩) hk
/-- d[k] -/
theorem de_getN (hu : X.A.units + 20 < cLine) (N : NOk kvs ds) (ha : DE X M env a (.loc k) M1) (hb : DE X M1 env b (.tup ds) M2) (hm : M2[k]? = some (.nd (ents X.w kvs))) (hv : valN kvs (nkey (.tup ds)) = some d) (hs : NoSl b := by exact fun _ _ => rfl) : DE X M env (.Subscript a b pos) d M2 := fun σ H F A S L Q q => by
  refine sE (pe_nget hu (semE X a) (semE X b) hs) ?_
  refine ha σ H F A S L _ fun v H1 A1 t1 S1 r1 => ?_
  refine hb σ H1 F A1 S1 (L.stp S t1) _ fun u H2 A2 t2 S2 r2 => ?_
  obtain ⟨qa, es, ep, rfl, hA, h1, h2, h3⟩ := S2.nd hm (r1.stp S1 t2)
  obtain ⟨qb, vs, rfl, _, _⟩ := r2.tup_at
  exact ⟨A2, Vw F A2 H2, qa, qb, es, ep, kvs, .tup ds, d, rfl, rfl, N.at h1 h2 h3 r2, hv, fun v rv => q v H2 A2 (t1.trans t2) S2 rv⟩
theorem ents_snoc (w : World) (kvs : List (D × D)) (kd d : D) : ents w (kvs ++ [(kd, d)]) = ents w kvs ++ [((nkey kd).hash w, kd, d)] := by
  unfold ents
  rw [List.map_append]
  rfl
/-- d[k] = v, k new -/
theorem db_putN {i : Expr} {pos' : Pos} (hu : X.A.units + 20 < cLine) (N : NOk kvs ds) (he : DE X M env e d M1) (ho : DE X M1 env o (.loc k) M2) (hi : DE X M2 env i (.tup ds) M3) (hm : M3[k]? = some (.nd (ents X.w kvs))) (hn : valN kvs (nkey (.tup ds)) = none) (hr : DB X (M3.set k (.nd (ents X.w (kvs ++ [(.tup ds, d)])))) env rest Fi)
    (hs : swapsWith e (some (.Subscript o i pos')) pos.line X.env = pure false := by rfl) : DB X M env (.Assign [.Subscript o i pos'] e pos :: rest) Fi := fun σ H F A S L Dn W tk mt => by
  refine semCons (sS (ps_nput hu (semE X o) (semE X i) (semE X e) hs) ?_)
  refine he σ H F A S L.2 _ fun v H1 A1 t1 S1 r1 => ?_
  refine ho σ H1 F A1 S1 (L.stp S t1).2 _ fun u H2 A2 t2 S2 r2 => ?_
  refine hi σ H2 F A2 S2 ((L.stp S t1).stp S1 t2).2 _ fun iv H3 A3 t3 S3 r3 => ?_
  obtain ⟨qa, es, ep, e1, hA, h1, h2, h3⟩ := S3.nd hm (r2.stp S2 t3)
  subst e1
  obtain ⟨qb, vs, rfl, _, _⟩ := r3.tup_at
  refine ⟨A3, Vw F A3 H3, qa, qb, es, ep, kvs, .tup ds, rfl, rfl, N.at h1 h2 h3 r3, hn, fun es' ep' e' q1 q2 q3 q4 => ?_⟩
  have rv := (r1.stp S1 t2).stp S2 t3
  obtain ⟨g1, g2⟩ := S3.put (c := .nd (ents X.w (kvs ++ [(.tup ds, d)]))) (o := rawO qa es' ep') hA (List.getElem?_eq_some_iff.mp hm).1 ⟨qa, es', ep', rfl, upd_same, h2, by
    rw [ents_snoc, q1]
    exact Nes.snoc q2 q3 r3 q4 rv h3⟩
  exact hr σ _ F A3 g1 (((L.stp S t1).stp S1 t2).stp S2 t3 |>.stp S3 g2) Dn W tk (mt.stp (((t1.trans t2).trans t3).trans g2))
/-- {} -/
theorem de_nnew : DE X M env (.Dict [] [] pos) (.loc M.length) (M ++ [.nd (ents X.w [])]) := fun σ H F A S L Q q => by
  refine sE pe_nnew ?_
  intro qa hq hne es ep hes
  obtain ⟨g1, g2, g3⟩ := S.grow (c := .nd (ents X.w [])) (H1 := upd H qa (rawO qa es ep)) hq (same_new hq) (by rw [upd_same]; simp) ⟨qa, es, ep, rfl, upd_same, hne, by rw [hes]; exact .nil⟩
  exact q (.ref qa) _ _ g2 g1 (g3 _)
/-- {k: v} -/
theorem de_ndisp (hu : X.A.units + 20 < cLine) (N : NOk [] ds) (hk : DE X (M ++ [.nd (ents X.w [])]) env e (.tup ds) (M ++ [.nd (ents X.w [])])) (hv : DE X (M ++ [.nd (ents X.w [])]) env f d (M ++ [.nd (ents X.w [])])) : DE X M env (.Dict [some e] [f] pos) (.loc M.length) (M ++ [.nd (ents X.w [(.tup ds, d)])]) := fun σ H F A S L Q q => by
  refine sE (pe_ndisp hu (semE X e) (semE X f)) ?_
  intro qa hq hne es0 ep0 hes0
  obtain ⟨g1, g2, g3⟩ := S.grow (c := .nd (ents X.w [])) (H1 := upd H qa (rawO qa es0 ep0)) hq (same_new hq) (by rw [upd_same]; simp) ⟨qa, es0, ep0, rfl, upd_same, hne, by rw [hes0]; exact .nil⟩
  refine hk σ _ F _ g1 (L.stp S g2) _ fun v H1 A1 t1 S1 r1 => ?_
  refine hv σ H1 F A1 S1 ((L.stp S g2).stp g1 t1) _ fun u H2 A2 t2 S2 r2 => ?_
  have r3 := ((g3 _).stp g1 t1).stp S1 t2
  have r1' := r1.stp S1 t2
  obtain ⟨qb, vs, rfl, _, _⟩ := r1'.tup_at
  obtain ⟨qc, es, ep, e1, hA, h1, h2, h3⟩ := S2.nd (k := M.length) (ks := ents X.w []) (by simp) r3
  cases e1
  have kept : H2 qa = some (rawO qa es ep) := h1
  refine ⟨A2, Vw F A2 H2, qb, es, ep, .tup ds, rfl, N.at h1 h2 h3 r1', fun es' ep' e' q1 q2 q3 q4 => ?_⟩
  · obtain ⟨k1, k2⟩ := S2.put (k := M.length) (c := .nd (ents X.w [(.tup ds, d)])) (o := rawO qa es' ep') hA (by simp) ⟨qa, es', ep', rfl, upd_same, hne, by
      rw [q1]
      exact .cons q2 q3 r1' q4 r2 .nil⟩
    have e2 : (M ++ [C.nd (ents X.w [])]).set M.length (C.nd (ents X.w [(.tup ds, d)])) = M ++ [C.nd (ents X.w [(.tup ds, d)])] := by simp
    rw [e2] at k1
    exact q (.ref qa) _ A2 (((g2.trans t1).trans t2).trans k2) k1 (r3.stp S2 k2)
/-- tuple(xs) -/
theorem de_tuple {T : Str} (hl : Ls M1 x ds) (hm : X.mg T = none) (hv : bootBuiltins T = some (.type "tuple")) (ha : DA X M env [e] [x] M1) (hg : Gl X T := by rfl) (hn : T ≠ "__name__" := by decide) (hdb : (T == ("__debug__" : Str)) = false := by decide)
    (he : starEach [e] X.env = (false, eval e X.env) :: starEach [] X.env := by rfl) (hpl : (backTo pos (starEach [] X.env)).any (·.1) = false := by rfl) : DE X M env (.Call (.Name T p) [e] [] pos) (.tup ds) M1 := fun σ H F A S L Q q => by
  refine sE (pe_callTy call_tuple_of hg hm hv (semA X _) hn hdb he hpl) ?_
  refine ha σ H F A S L _ fun vs H1 A1 t1 S1 r1 => ?_
  cases r1 with
  | cons r0 r1 =>
    cases r1
    obtain ⟨qa, ws, rfl, h1, h2⟩ := hl.at S1 r0
    refine ⟨qa, ws, rfl, .inl ⟨h1, fun l hl => ?_⟩⟩
    exact q (.ref l) _ A1 (t1.trans (Stp.same (same_new hl))) (S1.new hl) (.tup (S1.seen hl) (h2.stp S1 (Stp.same (same_new hl))))
/-- tuple(range(n)) -/
theorem de_tupRg {n : Int} (ha : DE X M env a (.int n) M1) (hn : 0 ≤ n ∧ n ≤ 100000) (hm : X.mg "tuple" = none) (hm2 : X.mg "range" = none) (hg : Gl X "tuple" := by rfl) (hg2 : Gl X "range" := by rfl) (hc : X.calm = true := by rfl)
    (na : starEach [.Call (.Name "range" p2) [a] [] pos2] X.env = (false, eval (.Call (.Name "range" p2) [a] [] pos2) X.env) :: starEach [] X.env := by rfl) (na2 : starEach [a] X.env = (false, eval a X.env) :: starEach [] X.env := by rfl) :
    DE X M env (.Call (.Name "tuple" p) [.Call (.Name "range" p2) [a] [] pos2] [] pos) (.tup (rngD 0 n.toNat)) M1 := fun σ H F A S L Q q => by
  refine sE (pe_tupRg hc hg hm (prg_1 hg2 hm2 (semE X a) na2) na) ?_
  refine ha σ H F A S L _ fun v H1 A1 s1 S1 rv => ?_
  cases rv
  refine ⟨n, rfl, RgOk.of_le (by omega) (by omega) (by omega) (by omega), fun pn hp => ?_⟩
  have := rgV_rps (K := X.K) (A := A1) (G := Vw F A1 H1) 0 n
  rw [Int.sub_zero] at this
  exact q (.ref pn) _ A1 (s1.trans (Stp.same (same_new hp))) (S1.new hp) (.tup (S1.seen hp) (this.stp S1 (Stp.same (same_new hp))))
end
end KT
namespace KT
open PySem L2

abbrev L (xs : List Int) : D := .lst (xs.map .int)
def rng (n : Nat) : List Int := (List.range n).map fun (i : Nat) => (i : Int)
theorem rng_length (n : Nat) : (rng n).length = n := by simp [rng]
theorem rng_get {n i : Nat} (h : i < n) : (rng n)[i]? = some (i : Int) := by simp [rng, h]
theorem mem_rng {n : Nat} {x : Int} : x ∈ rng n ↔ 0 ≤ x ∧ x < n := by
  simp only [rng, List.mem_map, List.mem_range]
  constructor
  · rintro ⟨i, h, rfl⟩; omega
  · rintro ⟨h1, h2⟩; exact ⟨x.toNat, by omega, by omega⟩
theorem rng_nodup (n : Nat) : (rng n).Nodup := by
  unfold rng
  rw [List.nodup_iff_pairwise_ne, List.pairwise_map]
  exact (List.pairwise_lt_range (n := n)).imp fun h => by omega
theorem rngD_rng (n : Nat) : rngD 0 n = (rng n).map .int := by
  simp [rngD, rng, Function.comp_def]

theorem perm_of_sub {α : Type} [DecidableEq α] : ∀ {xs ys : List α}, xs.Nodup → (∀ x ∈ xs, x ∈ ys) → ys.length ≤ xs.length → xs.Perm ys
  | [], ys, _, _, h => by
    have : ys = [] := List.length_eq_zero_iff.mp (by simpa using h)
    rw [this]
  | x :: xs, ys, nd, hs, h => by
    have hx := hs x List.mem_cons_self
    have nd' := List.nodup_cons.mp nd
    have p := List.perm_cons_erase hx
    refine (List.Perm.cons x (perm_of_sub (ys := ys.erase x) nd'.2 (fun z hz => ?_) ?_)).trans p.symm
    · have ne : z ≠ x := fun e => nd'.1 (e ▸ hz)
      exact (List.mem_erase_of_ne ne).mpr (hs z (List.mem_cons_of_mem _ hz))
    · have := p.length_eq
      simp at this h ⊢
      omega
/-! sorted -/
def srt (xs : List Int) : List Int := xs.mergeSort fun a b => decide (a ≤ b)
theorem srt_perm (xs : List Int) : (srt xs).Perm xs := List.mergeSort_perm xs _
theorem srt_pw (xs : List Int) : (srt xs).Pairwise (· ≤ ·) := by
  have := List.pairwise_mergeSort (le := fun (a b : Int) => decide (a ≤ b)) (by intro a b c h1 h2; simp at *; omega) (by intro a b; simp; omega) xs
  exact this.imp fun h => by simpa using h
theorem srt_uniq {xs ys : List Int} (h : ys.Perm xs) (hp : ys.Pairwise (· ≤ ·)) : ys = srt xs :=
  List.Perm.eq_of_pairwise (le := (· ≤ ·)) (fun a b _ _ h1 h2 => by omega) hp (srt_pw xs) (h.trans (srt_perm xs).symm)
theorem rng_pw (n : Nat) : (rng n).Pairwise (· ≤ ·) := by
  unfold rng
  rw [List.pairwise_map]
  exact (List.pairwise_lt_range (n := n)).imp fun h => by omega
theorem srt_rng {xs : List Int} {n : Nat} : srt xs = rng n ↔ xs.Perm (rng n) :=
  ⟨fun h => (srt_perm xs).symm.trans (h ▸ List.Perm.refl _), fun h => (srt_uniq h.symm (rng_pw n)).symm⟩

/-! turns -/
def isT (xs : List Int) : Bool := decide (srt xs = rng xs.length)
theorem isT_iff {xs : List Int} : isT xs = true ↔ xs.Perm (rng xs.length) := by
  unfold isT
  rw [decide_eq_true_iff, srt_rng]
theorem isT_of {xs : List Int} {n : Nat} (h : xs.Perm (rng n)) : isT xs = true := by
  have e : xs.length = n := by rw [h.length_eq, rng_length]
  rw [isT_iff, e]
  exact h
structure Trn (n : Nat) (xs : List Int) : Prop where
  perm : xs.Perm (rng n)
section
variable {n : Nat} {xs : List Int}
theorem Trn.len (h : Trn n xs) : xs.length = n := by rw [h.perm.length_eq, rng_length]
theorem Trn.nodup (h : Trn n xs) : xs.Nodup := h.perm.nodup_iff.mpr (rng_nodup n)
theorem Trn.mem (h : Trn n xs) {x : Int} : x ∈ xs ↔ 0 ≤ x ∧ x < n := by rw [h.perm.mem_iff, mem_rng]
theorem Trn.isT (h : Trn n xs) : isT xs = true := isT_of h.perm
theorem Trn.of (h : KT.isT xs = true) : Trn xs.length xs := ⟨isT_iff.mp h⟩
theorem Trn.get (h : Trn n xs) {i : Nat} (hi : i < n) : ∃ j : Nat, xs[i]? = some (j : Int) ∧ j < n := by
  have hl : i < xs.length := by rw [h.len]; exact hi
  have := h.mem.mp (List.getElem_mem hl)
  exact ⟨xs[i].toNat, by rw [List.getElem?_eq_getElem hl]; congr 1; omega, by omega⟩
theorem Trn.at (h : Trn n xs) {j : Nat} (hj : j < n) : ∃ i : Nat, i < n ∧ xs[i]? = some (j : Int) := by
  have : (j : Int) ∈ xs := h.mem.mpr ⟨by omega, by omega⟩
  obtain ⟨i, hi, e⟩ := List.mem_iff_getElem.mp this
  exact ⟨i, by rw [← h.len]; exact hi, by rw [List.getElem?_eq_getElem hi, e]⟩
theorem Trn.inj (h : Trn n xs) {i j : Nat} {v : Int} (hi : xs[i]? = some v) (hj : xs[j]? = some v) : i = j := by
  obtain ⟨l1, e1⟩ := List.getElem?_eq_some_iff.mp hi
  obtain ⟨l2, e2⟩ := List.getElem?_eq_some_iff.mp hj
  exact (List.getElem_inj h.nodup).mp (e1.trans e2.symm)
end

/-! drawn turns -/
def stepC (c : Int) : Int := (c * 48271 + 29) % 2147483647
def turnGo : Nat → Int → List Int → List Int
  | 0, _, _ => []
  | n + 1, c, rest => match rest[(stepC c / 3 % (rest.length : Int)).toNat]? with
    | some v => v :: turnGo n (stepC c) (rest.eraseIdx (stepC c / 3 % (rest.length : Int)).toNat)
    | none => []
def turnBy (c : Int) (many : Nat) : List Int := turnGo many c (rng many)
theorem turn_ix {c : Int} {rest : List Int} (h : rest ≠ []) : (stepC c / 3 % (rest.length : Int)).toNat < rest.length := by
  have hl : 0 < rest.length := List.length_pos_iff.mpr h
  have h1 := Int.emod_nonneg (stepC c / 3) (b := (rest.length : Int)) (by omega)
  have h2 := Int.emod_lt_of_pos (stepC c / 3) (b := (rest.length : Int)) (by omega)
  omega
theorem erase_perm {α : Type} : ∀ {xs : List α} {i : Nat} (h : i < xs.length), (xs[i] :: xs.eraseIdx i).Perm xs
  | x :: xs, 0, _ => .refl _
  | x :: xs, i + 1, h => by
    have := erase_perm (xs := xs) (i := i) (by simpa using h)
    simp only [List.getElem_cons_succ, List.eraseIdx_cons_succ]
    exact (List.Perm.swap _ _ _).trans (this.cons _)
theorem turnGo_perm : ∀ (n : Nat) (c : Int) (rest : List Int), rest.length = n → (turnGo n c rest).Perm rest
  | 0, _, rest, h => by
    rw [List.length_eq_zero_iff.mp h]
    exact .refl _
  | n + 1, c, rest, h => by
    have hi := turn_ix (c := c) (rest := rest) (by intro e; rw [e] at h; simp at h)
    rw [turnGo, List.getElem?_eq_getElem hi]
    have hl : (rest.eraseIdx (stepC c / 3 % (rest.length : Int)).toNat).length = n := by rw [List.length_eraseIdx, if_pos hi]; omega
    exact ((turnGo_perm n (stepC c) _ hl).cons _).trans (erase_perm hi)
theorem turnBy_trn (c : Int) (n : Nat) : Trn n (turnBy c n) := ⟨turnGo_perm n c (rng n) (rng_length n)⟩

/-! the way back of a turn -/
def backGo (w : List Int) : Nat → List Int
  | 0 => List.replicate w.length 0
  | i + 1 => (backGo w i).set (w[i]?.getD 0).toNat (i : Int)
def backOf (w : List Int) : List Int := backGo w w.length
theorem backGo_length (w : List Int) : ∀ i, (backGo w i).length = w.length
  | 0 => by simp [backGo]
  | i + 1 => by rw [backGo, List.length_set, backGo_length w i]
theorem backOf_length (w : List Int) : (backOf w).length = w.length := backGo_length w _
theorem backGo_get {n : Nat} {w : List Int} (h : Trn n w) : ∀ (m i j : Nat), i < m → m ≤ n → w[i]? = some (j : Int) → (backGo w m)[j]? = some (i : Int)
  | 0, i, j, hi, _, _ => absurd hi (Nat.not_lt_zero i)
  | m + 1, i, j, hi, hm, hw => by
    rw [backGo]
    obtain ⟨j', hj', hl⟩ := h.get (i := m) (by omega)
    rw [hj', Option.getD_some, Int.toNat_natCast]
    by_cases e : i = m
    · subst e
      rw [hw] at hj'
      have : j = j' := by have := Option.some.inj hj'; omega
      subst this
      exact List.getElem?_set_self (by rw [backGo_length, h.len]; exact hl)
    · have : j' ≠ j := fun q => e (by subst q; exact h.inj hw hj')
      rw [List.getElem?_set_ne this]
      exact backGo_get h m i j (by omega) (by omega) hw
theorem backOf_get {n : Nat} {w : List Int} (h : Trn n w) {i j : Nat} (hw : w[i]? = some (j : Int)) : (backOf w)[j]? = some (i : Int) := by
  have hi : i < n := by rw [← h.len]; exact (List.getElem?_eq_some_iff.mp hw).1
  unfold backOf
  rw [h.len]
  exact backGo_get h n i j hi (Nat.le_refl _) hw
theorem backOf_back {n : Nat} {w : List Int} (h : Trn n w) {i j : Nat} (hj : j < n) (hb : (backOf w)[j]? = some (i : Int)) : w[i]? = some (j : Int) := by
  obtain ⟨i', hi', e⟩ := h.at hj
  rw [backOf_get h e] at hb
  have : i' = i := by have := Option.some.inj hb; omega
  rw [← this]
  exact e
theorem backOf_trn {n : Nat} {w : List Int} (h : Trn n w) : Trn n (backOf w) := by
  refine ⟨?_⟩
  have hlen : (backOf w).length = n := by rw [backOf_length, h.len]
  have nd : (backOf w).Nodup := by
    rw [List.nodup_iff_pairwise_ne, List.pairwise_iff_getElem]
    intro a b ha hb hab e
    obtain ⟨i, hi, ei⟩ := h.at (j := a) (by omega)
    obtain ⟨j, hj, ej⟩ := h.at (j := b) (by omega)
    have h1 := backOf_get h ei
    have h2 := backOf_get h ej
    rw [List.getElem?_eq_getElem ha] at h1
    rw [List.getElem?_eq_getElem hb] at h2
    have : i = j := by
      have := Option.some.inj h1
      have := Option.some.inj h2
      omega
    subst this
    rw [ei] at ej
    have : a = b := by have := Option.some.inj ej; omega
    omega
  refine (List.perm_ext_iff_of_nodup nd (rng_nodup n)).mpr fun x => ?_
  rw [mem_rng]
  constructor
  · intro hx
    obtain ⟨a, ha, e⟩ := List.mem_iff_getElem.mp hx
    obtain ⟨i, hi, ei⟩ := h.at (j := a) (by omega)
    have h1 := backOf_get h ei
    rw [List.getElem?_eq_getElem ha, e] at h1
    have := Option.some.inj h1
    omega
  · rintro ⟨h1, h2⟩
    obtain ⟨j, hj, hl⟩ := h.get (i := x.toNat) (by omega)
    have := backOf_get h hj
    have e : ((x.toNat : Nat) : Int) = x := by omega
    rw [e] at this
    exact List.mem_of_getElem? this

/-! tables -/
def tabD (Cl : Addr) (w h : List Int) : D := .obj Cl [("brides", L w), ("lines", L h), ("grooms", L (backOf w)), ("elders", L (backOf h))]
def good (w h : List Int) : Bool := decide (1 ≤ w.length) && (decide (w.length ≤ 8) && (decide (h.length = w.length) && (isT w && isT h)))
theorem good_of {n : Nat} {w h : List Int} (hw : Trn n w) (hh : Trn n h) (h1 : 1 ≤ n) (h8 : n ≤ 8) : good w h = true := by
  unfold good
  rw [hw.isT, hh.isT, hw.len, hh.len]
  simp [h1, h8]
/-- a table of n classes -/
structure Tab (n : Nat) (w h : List Int) : Prop where
  w : Trn n w
  h : Trn n h
  one : 1 ≤ n
  eight : n ≤ 8
theorem Tab.good {n : Nat} {w h : List Int} (T : Tab n w h) : good w h = true := good_of T.w T.h T.one T.eight
theorem Tab.of {w h : List Int} (g : KT.good w h = true) : Tab w.length w h := by
  unfold KT.good at g
  simp only [Bool.and_eq_true, decide_eq_true_eq] at g
  obtain ⟨g1, g2, g3, g4, g5⟩ := g
  have := Trn.of g5
  rw [g3] at this
  exact ⟨Trn.of g4, this, g1, g2⟩
theorem L_nl (xs : List Int) : (L xs).nl = true := nl_ints xs
theorem tabD_nl (Cl : Addr) (w h : List Int) : (tabD Cl w h).nl = true := by
  simp only [tabD, D.nl, nlf, L_nl, Bool.and_true]
  simp [nls_ints]
theorem ints_get {xs : List Int} {i : Nat} {v : Int} (h : xs[i]? = some v) : (xs.map D.int)[i]? = some (D.int v) := by rw [List.getElem?_map, h]; rfl
theorem ixN_nat {n i : Nat} (h : i < n) : ixN n (i : Int) = some i := by
  unfold ixN
  rw [if_pos (by omega), if_pos (by omega)]
  simp
theorem atI_natK {α : Type} {xs : List α} {i : Nat} {v : α} (h : xs[i]? = some v) : atI xs (i : Int) = some v := by
  unfold atI
  rw [ixN_nat (List.getElem?_eq_some_iff.mp h).1]
  exact h
theorem atI_ints {xs : List Int} {i : Nat} {v : Int} (h : xs[i]? = some v) : atI (xs.map D.int) (i : Int) = some (.int v) := atI_natK (ints_get h)
theorem atI_intZ {xs : List Int} {i : Int} {v : Int} (h0 : 0 ≤ i) (h : xs[i.toNat]? = some v) : atI (xs.map D.int) i = some (.int v) := by
  have := atI_ints h
  rwa [Int.toNat_of_nonneg h0] at this
theorem py_ints : ∀ xs : List Int, pys (xs.map D.int) = xs.map PyData.int
  | [] => by simp [pys]
  | x :: xs => by simp [pys, D.py, py_ints xs]
theorem eqv_ints : ∀ xs ys : List Int, PyData.eqv (L xs).py (L ys).py = decide (xs = ys) := by
  intro xs ys
  have all : ∀ xs ys : List Int, PyData.eqvAll (xs.map PyData.int) (ys.map PyData.int) = decide (xs = ys) := by
    intro xs
    induction xs with
    | nil => intro ys; cases ys with
      | nil => simp [PyData.eqvAll]
      | cons y ys => simp [PyData.eqvAll]
    | cons x xs ih => intro ys; cases ys with
      | nil => simp [PyData.eqvAll]
      | cons y ys =>
        simp only [List.map_cons, PyData.eqvAll, ih, PyData.eqv]
        by_cases h : x = y
        · subst h; simp
        · simp [h]
  simp only [L, D.py, py_ints, PyData.eqv, all]
theorem pur_ints (xs : List Int) : (L xs).pur = true := by
  simp only [L, D.pur]
  induction xs with
  | nil => simp [purs]
  | cons x xs ih => simp only [List.map_cons, purs, D.pur, ih, Bool.and_self]
theorem dep_ints (xs : List Int) : (L xs).dep ≤ 20 := by
  have : deps (xs.map D.int) = 0 := by
    induction xs with
    | nil => simp [deps]
    | cons x xs ih => simp [deps, D.dep, ih]
  simp [L, D.dep, this]
theorem good_bad1 {w h : List Int} (hq : (decide ((w.length : Int) < 1) || (decide (8 < (w.length : Int)) || !decide ((h.length : Int) = w.length))) = true) : good w h = false := by
  unfold good
  simp only [Bool.or_eq_true, decide_eq_true_eq, Bool.not_eq_true', decide_eq_false_iff_not] at hq
  rcases hq with q | q | q
  · have : ¬ 1 ≤ w.length := by omega
    simp [this]
  · have : ¬ w.length ≤ 8 := by omega
    simp [this]
  · have : ¬ h.length = w.length := by omega
    simp [this]
theorem good_bad2 {w h : List Int} (hq : (!isT w || !isT h) = true) : good w h = false := by
  unfold good
  cases e1 : isT w <;> cases e2 : isT h <;> simp [e1, e2] at hq ⊢
theorem good_ok {w h : List Int} (hq : (decide ((w.length : Int) < 1) || (decide (8 < (w.length : Int)) || !decide ((h.length : Int) = w.length))) = false) (hp : (!isT w || !isT h) = false) : good w h = true := by
  unfold good
  simp only [Bool.or_eq_false_iff, decide_eq_false_iff_not, Bool.not_eq_false', decide_eq_true_eq] at hq hp
  obtain ⟨q1, q2, q3⟩ := hq
  have h1 : 1 ≤ w.length := by omega
  have h2 : w.length ≤ 8 := by omega
  have h3 : h.length = w.length := by omega
  rw [hp.1, hp.2, decide_eq_true h1, decide_eq_true h2, decide_eq_true h3]
  rfl
theorem nl_pair (a b : List Int) : (D.tup [L a, L b]).nl = true := by simp only [D.nl, nls, nls_ints, Bool.and_self]
theorem tab_nls1 (Cl : Addr) (w h : List Int) (c : Int) : nls [tabD Cl w h, .int c] = true := by simp [nls, tabD_nl, D.nl]
theorem kit_int : kitB "int" "int" = some true := by decide +kernel
theorem kit_intbool : kitB "int" "bool" = some false := by decide +kernel
theorem zeros_of (w : List Int) : (w.map D.int).map (fun _ => D.int 0) = (backGo w 0).map D.int := by
  simp only [backGo, List.map_replicate]
  induction w with
  | nil => rfl
  | cons x xs ih => rw [List.map_cons, List.map_cons, ih, List.length_cons, List.replicate_succ]
theorem kit_tuple : kitB "tuple" "tuple" = some true := by decide +kernel
theorem kit_str : kitB "str" "str" = some true := by decide +kernel
theorem kit_list : kitB "list" "list" = some true := by decide +kernel
theorem map_erase (xs : List Int) (i : Nat) : (xs.eraseIdx i).map D.int = (xs.map D.int).eraseIdx i := by
  induction xs generalizing i with
  | nil => rfl
  | cons x xs ih => cases i with
    | zero => rfl
    | succ i => simp [ih]
theorem good_len {w h : List Int} (e : ¬ (1 ≤ w.length ∧ w.length ≤ 8 ∧ h.length = w.length)) : good w h = false := by
  cases g : good w h with
  | false => rfl
  | true =>
    have T := Tab.of g
    exact absurd ⟨T.one, T.eight, T.h.len⟩ e
theorem ix_pos {n : Nat} (h : 0 < n) (c : Int) : ∃ j : Nat, c % (n : Int) = j ∧ j < n := by
  have h1 := Int.emod_nonneg c (b := (n : Int)) (by omega)
  have h2 := Int.emod_lt_of_pos c (b := (n : Int)) (by omega)
  exact ⟨(c % (n : Int)).toNat, by omega, by omega⟩
end KT
namespace KT
open PySem L2

/-! sexes, letters: f 102, m 109, s 115, d 100, p 112, b 98, z 122 -/
def sx (s : Bool) : Str := if s then Str.ofString "man" else Str.ofString "woman"
abbrev sxD (s : Bool) : D := .str (sx s)
theorem sx_man (s : Bool) : decide (sx s = Str.ofString "man") = s := by cases s <;> decide +kernel
theorem sx_woman (s : Bool) : decide (sx s = Str.ofString "woman") = !s := by cases s <;> decide +kernel
theorem sx_eq (s t : Bool) : decide (sx s = sx t) = (s == t) := by cases s <;> cases t <;> decide +kernel
theorem sx_ok (s : Bool) : PyData.strOk (sx s) = true := by cases s <;> decide +kernel
def lets : List Nat := [102, 109, 115, 100, 112, 98, 122]
theorem c_lets : (Str.ofString "fmsdpbz").cps.toList = lets := by decide +kernel
theorem s_lets : Str.ofString "fmsdpbz" = S lets := by decide +kernel
theorem c_fsb : (Str.ofString "fsb").cps.toList = [102, 115, 98] := by decide +kernel
theorem c_mdz : (Str.ofString "mdz").cps.toList = [109, 100, 122] := by decide +kernel
theorem c_sd : (Str.ofString "sd").cps.toList = [115, 100] := by decide +kernel
theorem c_fm : (Str.ofString "fm").cps.toList = [102, 109] := by decide +kernel
theorem s_f : Str.ofString "f" = S [102] := by decide +kernel
theorem s_m : Str.ofString "m" = S [109] := by decide +kernel
theorem s_s : Str.ofString "s" = S [115] := by decide +kernel
theorem s_d : Str.ofString "d" = S [100] := by decide +kernel
theorem s_p : Str.ofString "p" = S [112] := by decide +kernel
theorem s_b : Str.ofString "b" = S [98] := by decide +kernel
theorem s_z : Str.ofString "z" = S [122] := by decide +kernel
theorem s_nil : Str.ofString "" = S [] := by decide +kernel
def nextS (s : Bool) (l : Nat) : Bool := if l ∈ [102, 115, 98] then true else if l ∈ [109, 100, 122] then false else !s
def ap (xs : List Int) (i : Nat) : Nat := (xs[i]?.getD 0).toNat
theorem Trn.ap {n : Nat} {xs : List Int} (h : Trn n xs) {i : Nat} (hi : i < n) : xs[i]? = some ((KT.ap xs i : Nat) : Int) ∧ KT.ap xs i < n := by
  obtain ⟨j, h1, h2⟩ := h.get hi
  have : KT.ap xs i = j := by unfold KT.ap; rw [h1]; simp
  rw [this]
  exact ⟨h1, h2⟩
def nextC (w h : List Int) (s : Bool) (c l : Nat) : Nat :=
  if l = 102 then ap (backOf h) c
  else if l = 109 then ap w (ap (backOf h) c)
  else if l = 112 ∧ s = true then ap w c
  else if l = 112 then ap (backOf w) c
  else if l ∈ [115, 100] ∧ s = true then ap h c
  else if l ∈ [115, 100] then ap h (ap (backOf w) c)
  else c
theorem Tab.next {n : Nat} {w h : List Int} (T : Tab n w h) {s : Bool} {c l : Nat} (hc : c < n) : nextC w h s c l < n := by
  unfold nextC
  have a1 := fun {c} (hc : c < n) => (T.w.ap hc).2
  have a2 := fun {c} (hc : c < n) => (T.h.ap hc).2
  have a3 := fun {c} (hc : c < n) => ((backOf_trn T.w).ap hc).2
  have a4 := fun {c} (hc : c < n) => ((backOf_trn T.h).ap hc).2
  split
  · exact a4 hc
  split
  · exact a1 (a4 hc)
  split
  · exact a1 hc
  split
  · exact a3 hc
  split
  · exact a2 hc
  split
  · exact a2 (a3 hc)
  · exact hc
def stp (w h : List Int) (st : Bool × Nat) (l : Nat) : Bool × Nat := (nextS st.1 l, nextC w h st.1 st.2 l)
def led (w h : List Int) (ls : List Nat) (st : Bool × Nat) : Bool × Nat := ls.foldl (stp w h) st
def sexAt (s : Bool) (ls : List Nat) : Bool := ls.foldl nextS s
theorem led_app (w h : List Int) (a b : List Nat) (st : Bool × Nat) : led w h (a ++ b) st = led w h b (led w h a st) := List.foldl_append
theorem led_snoc (w h : List Int) (a : List Nat) (l : Nat) (st : Bool × Nat) : led w h (a ++ [l]) st = stp w h (led w h a st) l := by rw [led_app]; rfl
theorem take_snoc {α : Type} {ls : List α} {i : Nat} {l : α} (h : ls[i]? = some l) : ls.take (i + 1) = ls.take i ++ [l] := by rw [List.take_add_one, h]; rfl
theorem Tab.led {n : Nat} {w h : List Int} (T : Tab n w h) : ∀ (ls : List Nat) {s : Bool} {c : Nat}, c < n → (led w h ls (s, c)).2 < n
  | [], _, _, hc => hc
  | l :: ls, s, c, hc => by
    show (KT.led w h ls (nextS s l, nextC w h s c l)).2 < n
    exact T.led ls (T.next hc)
theorem led_sex (w h : List Int) : ∀ (ls : List Nat) (s : Bool) (c : Nat), (led w h ls (s, c)).1 = sexAt s ls
  | [], _, _ => rfl
  | l :: ls, s, c => led_sex w h ls _ _
theorem sexAt_app (s : Bool) (a b : List Nat) : sexAt s (a ++ b) = sexAt (sexAt s a) b := List.foldl_append
def okW (ls : List Nat) : Bool := decide (ls.length ≤ 60) && ls.all fun l => decide (l ∈ lets)
theorem okW_of {ls : List Nat} (h1 : ls.length ≤ 60) (h2 : ∀ l ∈ ls, l ∈ lets) : okW ls = true := by
  unfold okW
  rw [decide_eq_true h1, Bool.true_and, List.all_eq_true]
  exact fun l hl => decide_eq_true (h2 l hl)
theorem okW_iff {ls : List Nat} : okW ls = true ↔ ls.length ≤ 60 ∧ ∀ l ∈ ls, l ∈ lets := by
  constructor
  · intro h
    unfold okW at h
    rw [Bool.and_eq_true, List.all_eq_true] at h
    exact ⟨of_decide_eq_true h.1, fun l hl => of_decide_eq_true (h.2 l hl)⟩
  · exact fun h => okW_of h.1 h.2
/-! the turn of a walk -/
def turnW (w h : List Int) (s : Bool) (ls : List Nat) : List Int := (List.range w.length).map fun c => (((led w h ls (s, c)).2 : Nat) : Int)
theorem turnW_len (w h : List Int) (s : Bool) (ls : List Nat) : (turnW w h s ls).length = w.length := by simp [turnW]
theorem turnW_get {w h : List Int} {s : Bool} {ls : List Nat} {c : Nat} (hc : c < w.length) : (turnW w h s ls)[c]? = some (((led w h ls (s, c)).2 : Nat) : Int) := by simp [turnW, hc]
/-! drawn walks -/
def stepW (c : Int) : Int := (c * 48271 + 17) % 2147483647
def walkGo : Nat → Int → List Nat
  | 0, _ => []
  | n + 1, c => lets[(stepW c / 5 % 7).toNat]?.getD 0 :: walkGo n (stepW c)
def walkBy (c m : Int) : List Nat := walkGo (c % (m + 1)).toNat c
theorem walkGo_len : ∀ (n : Nat) (c : Int), (walkGo n c).length = n
  | 0, _ => rfl
  | n + 1, c => by rw [walkGo, List.length_cons, walkGo_len]
theorem let_ix (c : Int) : ∃ (j : Nat) (l : Nat), c % 7 = j ∧ lets[j]? = some l ∧ l ∈ lets := by
  have h1 := Int.emod_nonneg c (b := 7) (by omega)
  have h2 := Int.emod_lt_of_pos c (b := 7) (by omega)
  have hj : (c % 7).toNat < lets.length := by simp [lets]; omega
  exact ⟨(c % 7).toNat, lets[(c % 7).toNat], by omega, List.getElem?_eq_getElem hj, List.getElem_mem hj⟩
theorem walkGo_lets : ∀ (n : Nat) (c : Int), ∀ l ∈ walkGo n c, l ∈ lets
  | 0, _, l, h => by simp [walkGo] at h
  | n + 1, c, l, h => by
    rw [walkGo, List.mem_cons] at h
    rcases h with rfl | h
    · obtain ⟨j, l, hj, hl, hm⟩ := let_ix (stepW c / 5)
      have : (stepW c / 5 % 7).toNat = j := by omega
      rw [this, hl]
      exact hm
    · exact walkGo_lets n _ l h
theorem walkBy_len {c m : Int} (hm : 0 ≤ m) : (walkBy c m).length ≤ m.toNat := by
  unfold walkBy
  rw [walkGo_len]
  have := Int.emod_nonneg c (b := m + 1) (by omega)
  have := Int.emod_lt_of_pos c (b := m + 1) (by omega)
  omega
theorem walkBy_ok {c m : Int} (hm : 0 ≤ m) (h : m ≤ 60) : okW (walkBy c m) = true := okW_of (by have := walkBy_len (c := c) hm; omega) (walkGo_lets _ _)
/-! deep == of what walks give -/
theorem eqv_sx (s t : Bool) (a b : Int) : PyData.eqv (D.tup [sxD s, .int a]).py (D.tup [sxD t, .int b]).py = (s == t && decide (a = b)) := by
  simp only [D.py, pys, PyData.eqv, PyData.eqvAll, Bool.and_true]
  rw [← sx_eq]
  congr 1
theorem pur_sx (s : Bool) (a : Int) : (D.tup [sxD s, .int a]).pur = true := by simp only [D.pur, purs, sx_ok, Bool.and_self]
theorem dep_sx (s : Bool) (a : Int) : (D.tup [sxD s, .int a]).dep ≤ 20 := by simp [D.dep, deps]
theorem nl_sx (s : Bool) (a : Int) : (D.tup [sxD s, .int a]).nl = true := by simp only [D.nl, nls, Bool.and_self]
/-- the sex drawn -/
theorem sx_draw (c : Int) : ∃ (s : Bool) (j : Nat), c % 2 = j ∧ ([.str (Str.ofString "man"), .str (Str.ofString "woman")] : List D)[j]? = some (sxD s) := by
  have h1 := Int.emod_nonneg c (b := 2) (by omega)
  have h2 := Int.emod_lt_of_pos c (b := 2) (by omega)
  by_cases z : c % 2 = 0
  · exact ⟨true, 0, by omega, rfl⟩
  · exact ⟨false, 1, by omega, rfl⟩
end KT
namespace KT
open PySem L2
/-- the letter that leads back -/
def backL (s : Bool) (l : Nat) : Nat := if l ∈ [102, 109] then (if s = true then 115 else 100) else if l ∈ [115, 100] then (if s = true then 102 else 109) else if l = 112 then 112 else if s = true then 98 else 122
def backW : Bool → List Nat → List Nat
  | _, [] => []
  | s, l :: ls => backW (nextS s l) ls ++ [backL s l]
theorem backW_len : ∀ (ls : List Nat) (s : Bool), (backW s ls).length = ls.length
  | [], _ => rfl
  | l :: ls, s => by rw [backW, List.length_append, backW_len ls]; rfl
theorem backL_let (s : Bool) (l : Nat) : backL s l ∈ lets := by
  unfold backL
  by_cases h1 : l ∈ [102, 109]
  · rw [if_pos h1]; cases s <;> decide
  rw [if_neg h1]
  by_cases h2 : l ∈ [115, 100]
  · rw [if_pos h2]; cases s <;> decide
  rw [if_neg h2]
  by_cases h3 : l = 112
  · rw [if_pos h3]; decide
  rw [if_neg h3]
  cases s <;> decide
theorem backW_lets : ∀ (ls : List Nat) (s : Bool), ∀ l ∈ backW s ls, l ∈ lets
  | [], _, l, h => by simp [backW] at h
  | x :: ls, s, l, h => by
    rw [backW] at h
    rcases List.mem_append.mp h with h | h
    · exact backW_lets ls _ l h
    · rw [List.mem_singleton.mp h]; exact backL_let _ _
section
variable {n : Nat} {w h : List Int}
theorem ap_backB {xs : List Int} (T : Trn n xs) {c : Nat} (hc : c < n) : ap (backOf xs) (ap xs c) = c := by
  have h1 := T.ap hc
  have h2 := backOf_get T h1.1
  unfold ap at h2 ⊢
  rw [h2]; simp
theorem back_apB {xs : List Int} (T : Trn n xs) {c : Nat} (hc : c < n) : ap xs (ap (backOf xs) c) = c := by
  have h1 := (backOf_trn T).ap hc
  have h2 := backOf_back T hc h1.1
  unfold ap at h2 ⊢
  rw [h2]; simp
/-- one letter there, one back -/
theorem stp_back (T : Tab n w h) {s : Bool} {c l : Nat} (hc : c < n) (hl : l ∈ lets) : stp w h (stp w h (s, c) l) (backL s l) = (s, c) := by
  have w1 := ap_backB T.w hc
  have w2 := back_apB T.w hc
  have h1 := ap_backB T.h hc
  have h2 := back_apB T.h hc
  have w3 := ap_backB T.w ((backOf_trn T.h).ap hc).2
  have h3 := ap_backB T.h ((backOf_trn T.w).ap hc).2
  simp only [lets, List.mem_cons, List.not_mem_nil, or_false] at hl
  rcases hl with rfl | rfl | rfl | rfl | rfl | rfl | rfl <;> cases s <;> simp [stp, backL, nextS, nextC, w1, w2, h1, h2, w3, h3]
theorem led_back (T : Tab n w h) : ∀ (ls : List Nat) {s : Bool} {c : Nat}, c < n → (∀ l ∈ ls, l ∈ lets) → led w h (backW s ls) (led w h ls (s, c)) = (s, c)
  | [], s, c, _, _ => rfl
  | l :: ls, s, c, hc, hl => by
    show led w h (backW (nextS s l) ls ++ [backL s l]) (led w h ls (nextS s l, nextC w h s c l)) = (s, c)
    rw [led_snoc, led_back T ls (T.next hc) fun x hx => hl x (List.mem_cons_of_mem _ hx)]
    exact stp_back T hc (hl l List.mem_cons_self)
/-- a walk's turn is a turn -/
theorem turnW_trn (T : Tab n w h) {s : Bool} {ls : List Nat} (hl : ∀ l ∈ ls, l ∈ lets) : Trn n (turnW w h s ls) := by
  have lw := T.w.len
  refine ⟨?_⟩
  have nd : (turnW w h s ls).Nodup := by
    unfold turnW
    rw [List.nodup_iff_pairwise_ne, List.pairwise_map, List.pairwise_iff_getElem]
    intro i j hi hj hij e
    simp only [List.length_range] at hi hj
    simp only [List.getElem_range] at e
    have b1 := led_back T ls (s := s) (c := i) (by omega) hl
    have b2 := led_back T ls (s := s) (c := j) (by omega) hl
    have s1 := led_sex w h ls s i
    have s2 := led_sex w h ls s j
    have e3 : led w h ls (s, i) = led w h ls (s, j) := Prod.ext (s1.trans s2.symm) (by omega)
    rw [e3, b2] at b1
    have := congrArg Prod.snd b1
    simp at this
    omega
  have hsub : ∀ x ∈ turnW w h s ls, x ∈ rng n := by
    intro x hx
    unfold turnW at hx
    rw [List.mem_map] at hx
    obtain ⟨c, hc, rfl⟩ := hx
    rw [List.mem_range] at hc
    have := T.led ls (s := s) (c := c) (by omega)
    rw [mem_rng]
    omega
  have hlen : (rng n).length ≤ (turnW w h s ls).length := by rw [rng_length, turnW_len]; omega
  exact perm_of_sub nd hsub hlen
end
end KT
namespace KT
open PySem L2
/-! rules: may or never, a walk -/
abbrev Rule := Bool × List Nat
def kd (m : Bool) : Str := if m then Str.ofString "may" else Str.ofString "never"
theorem kd_may (m : Bool) : decide (kd m = Str.ofString "may") = m := by cases m <;> decide +kernel
theorem kd_ok (m : Bool) : PyData.strOk (kd m) = true := by cases m <;> decide +kernel
def ruleD (r : Rule) : D := .tup [.str (kd r.1), .str (S r.2)]
theorem ruleD_nl (r : Rule) : (ruleD r).nl = true := by simp only [ruleD, D.nl, nls, Bool.and_self]
theorem rules_nl (rs : List Rule) : (D.lst (rs.map ruleD)).nl = true := by rw [D.nl]; exact nls_map _ ruleD_nl _
theorem rules_nls1 (rs : List Rule) (z : Int) : nls [D.lst (rs.map ruleD), .int z] = true := by
  have h := rules_nl rs
  generalize D.lst (rs.map ruleD) = d at h
  unfold nls
  rw [h]
  rfl
/-- which rule is none: false no walk, true no rule -/
def chk : List Rule → Option Bool
  | [] => none
  | r :: rs => if okW r.2 = false then some false else if sexAt true r.2 = true then some true else chk rs
def good1 (r : Rule) : Bool := okW r.2 && !sexAt true r.2
theorem chk_all {rs : List Rule} (h : ∀ r ∈ rs, good1 r = true) : chk rs = none := by
  induction rs with
  | nil => rfl
  | cons r rs ih =>
    have h1 := h r List.mem_cons_self
    unfold good1 at h1
    rw [Bool.and_eq_true] at h1
    rw [chk, h1.1, if_neg (by simp), if_neg (by simpa using h1.2)]
    exact ih fun x hx => h x (List.mem_cons_of_mem _ hx)
theorem chk_good {rs : List Rule} (h : chk rs = none) : ∀ r ∈ rs, good1 r = true := by
  induction rs with
  | nil => intro r hr; cases hr
  | cons r rs ih =>
    rw [chk] at h
    split at h
    · cases h
    rename_i h1
    split at h
    · cases h
    rename_i h2
    intro x hx
    rcases List.mem_cons.mp hx with rfl | hx
    · unfold good1
      cases e1 : okW x.2 <;> cases e2 : sexAt true x.2 <;> simp_all
    · exact ih h x hx
theorem chk_app {as : List Rule} (h : ∀ r ∈ as, good1 r = true) (bs : List Rule) : chk (as ++ bs) = chk bs := by
  induction as with
  | nil => rfl
  | cons r rs ih =>
    have h1 := h r List.mem_cons_self
    unfold good1 at h1
    rw [Bool.and_eq_true] at h1
    rw [List.cons_append, chk, h1.1, if_neg (by simp), if_neg (by simpa using h1.2)]
    exact ih fun x hx => h x (List.mem_cons_of_mem _ hx)
/-! which is broken -/
def broken (w h : List Int) (rs : List Rule) (k c : Nat) : Bool := match rs[k]? with
  | some r => decide ((led w h r.2 (true, c)).2 = ap w c) != r.1
  | none => false
def FstP (p : Nat → Nat → Bool) (N n : Nat) : Option (Nat × Nat) → Prop
  | none => ∀ k, k < N → ∀ c, c < n → p k c = false
  | some (k, c) => k < N ∧ c < n ∧ p k c = true ∧ (∀ j, j < k → ∀ c, c < n → p j c = false) ∧ ∀ d, d < c → p k d = false
theorem FstP.uniq {p : Nat → Nat → Bool} {N n : Nat} : ∀ {a b : Option (Nat × Nat)}, FstP p N n a → FstP p N n b → a = b
  | none, none, _, _ => rfl
  | none, some (k, c), h, g => by have := h k g.1 c g.2.1; rw [g.2.2.1] at this; cases this
  | some (k, c), none, g, h => by have := h k g.1 c g.2.1; rw [g.2.2.1] at this; cases this
  | some (k, c), some (k', c'), h, g => by
    obtain ⟨h1, h2, h3, h4, h5⟩ := h
    obtain ⟨g1, g2, g3, g4, g5⟩ := g
    have n1 : ¬ k < k' := fun z => by have := g4 k z c h2; rw [h3] at this; cases this
    have n2 : ¬ k' < k := fun z => by have := h4 k' z c' g2; rw [g3] at this; cases this
    have e : k = k' := by omega
    subst e
    have n3 : ¬ c < c' := fun z => by have := g5 c z; rw [h3] at this; cases this
    have n4 : ¬ c' < c := fun z => by have := h5 c' z; rw [g3] at this; cases this
    have e : c = c' := by omega
    subst e
    rfl
def pairD : Option (Nat × Nat) → D
  | none => .non
  | some (k, c) => .tup [.int (k : Int), .int (c : Int)]
theorem pairD_nl (r : Option (Nat × Nat)) : (pairD r).nl = true := by cases r <;> simp [pairD, D.nl, nls]
theorem pairD_pur (r : Option (Nat × Nat)) : (pairD r).pur = true := by cases r <;> simp [pairD, D.pur, purs]
theorem pairD_dep (r : Option (Nat × Nat)) : (pairD r).dep ≤ 20 := by cases r <;> simp [pairD, D.dep, deps]
theorem exFst (p : Nat → Bool) : ∀ n : Nat, (∀ c, c < n → p c = false) ∨ ∃ c, c < n ∧ p c = true ∧ ∀ d, d < c → p d = false
  | 0 => .inl fun c h => absurd h (Nat.not_lt_zero c)
  | n + 1 => by
    rcases exFst p n with h | ⟨c, h1, h2, h3⟩
    · cases e : p n with
      | true => exact .inr ⟨n, Nat.lt_succ_self n, e, h⟩
      | false =>
        refine .inl fun c hc => ?_
        by_cases q : c = n
        · rw [q]; exact e
        · exact h c (by omega)
    · exact .inr ⟨c, by omega, h2, h3⟩
theorem exFstP (p : Nat → Nat → Bool) (n : Nat) : ∀ N : Nat, ∃ r, FstP p N n r
  | 0 => ⟨none, fun k h => absurd h (Nat.not_lt_zero k)⟩
  | N + 1 => by
    obtain ⟨r, hr⟩ := exFstP p n N
    match r, hr with
    | some (k, c), h => exact ⟨some (k, c), Nat.lt_succ_of_lt h.1, h.2⟩
    | none, h =>
      rcases exFst (p N) n with g | ⟨c, g1, g2, g3⟩
      · refine ⟨none, fun k hk c hc => ?_⟩
        by_cases q : k = N
        · rw [q]; exact g c hc
        · exact h k (by omega) c hc
      · exact ⟨some (N, c), Nat.lt_succ_self N, g1, g2, h, g3⟩
/-! drawn rules -/
def nine : List (List Nat) := [[109, 98, 100], [102, 122, 100], [122], [102, 122, 100], [109, 98, 100], [102, 98, 100], [102, 102, 122, 115, 100], [109, 109, 98, 100, 100], [109, 122, 100]]
def womanW (cell m : Int) : List Nat :=
  if cell / 21 % 2 = 1 then (if sexAt true (walkBy cell m) = true then walkBy cell m ++ [112] else walkBy cell m)
  else walkBy cell m ++ [[109, 100, 122][(cell / 7 % 3).toNat]?.getD 0]
theorem mdz_ix (c : Int) : ∃ (j : Nat) (l : Nat), c % 3 = j ∧ [109, 100, 122][j]? = some l ∧ l ∈ [109, 100, 122] := by
  have h1 := Int.emod_nonneg c (b := 3) (by omega)
  have h2 := Int.emod_lt_of_pos c (b := 3) (by omega)
  have hj : (c % 3).toNat < [109, 100, 122].length := by simp; omega
  exact ⟨(c % 3).toNat, [109, 100, 122][(c % 3).toNat], by omega, List.getElem?_eq_getElem hj, List.getElem_mem hj⟩
theorem womanW_good {cell m : Int} (hm : 0 ≤ m) (h : m ≤ 50) (k : Bool) : good1 (k, womanW cell m) = true ∧ (womanW cell m).length ≤ 60 := by
  have hl := walkBy_len (c := cell) hm
  have hs := (okW_iff.mp (walkBy_ok (c := cell) hm (by omega))).2
  unfold good1 womanW
  simp only []
  generalize walkBy cell m = ls at hl hs
  have app : ∀ l, l ∈ lets → okW (ls ++ [l]) = true ∧ (ls ++ [l]).length ≤ 60 := fun l hl' => by
    have hlen : (ls ++ [l]).length ≤ 60 := by simp; omega
    exact ⟨okW_of hlen fun x hx => by
      rcases List.mem_append.mp hx with hx | hx
      · exact hs x hx
      · rw [List.mem_singleton.mp hx]; exact hl', hlen⟩
  split
  · split
    · rename_i h1 h2
      obtain ⟨a1, a2⟩ := app 112 (by decide)
      rw [a1, sexAt_app, h2]
      exact ⟨rfl, a2⟩
    · rename_i h1 h2
      rw [okW_of (by omega) hs]
      simp at h2
      rw [h2]
      exact ⟨rfl, by omega⟩
  · obtain ⟨j, l, hj, hl1, hl2⟩ := mdz_ix (cell / 7)
    have e : (cell / 7 % 3).toNat = j := by omega
    rw [e, hl1, Option.getD_some]
    simp only [List.mem_cons, List.not_mem_nil, or_false] at hl2
    obtain ⟨a1, a2⟩ := app l (by rcases hl2 with rfl | rfl | rfl <;> decide)
    rw [a1, sexAt_app]
    refine ⟨?_, a2⟩
    rcases hl2 with rfl | rfl | rfl <;> rfl
def ruleOf (cell : Int) : Rule := (decide (cell % 3 = 0), if cell / 45 % 3 = 1 then womanW cell 6 else nine[(cell / 5 % 9).toNat]?.getD [])
def rulesBy (ns : List Int) (start count : Nat) : List Rule := (List.range count).map fun k => ruleOf (ns.getD (start + k) 0)
theorem nine_ix (c : Int) : ∃ (j : Nat) (l : List Nat), c % 9 = j ∧ nine[j]? = some l ∧ l ∈ nine := by
  have h1 := Int.emod_nonneg c (b := 9) (by omega)
  have h2 := Int.emod_lt_of_pos c (b := 9) (by omega)
  have hj : (c % 9).toNat < nine.length := by simp [nine]; omega
  exact ⟨(c % 9).toNat, nine[(c % 9).toNat], by omega, List.getElem?_eq_getElem hj, List.getElem_mem hj⟩
def nineD : List D := [.str (S [109, 98, 100]), .str (S [102, 122, 100]), .str (S [122]), .str (S [102, 122, 100]), .str (S [109, 98, 100]), .str (S [102, 98, 100]), .str (S [102, 102, 122, 115, 100]), .str (S [109, 109, 98, 100, 100]), .str (S [109, 122, 100])]
theorem nineD_eq : nineD = nine.map fun z => D.str (S z) := rfl
theorem nineD_get {j : Nat} {l : List Nat} (h : nine[j]? = some l) : nineD[j]? = some (.str (S l)) := by rw [nineD_eq, List.getElem?_map, h]; rfl
theorem nine_good : ∀ l ∈ nine, (okW l && !sexAt true l) = true ∧ l.length ≤ 60 := by decide
theorem ruleOf_good (cell : Int) : good1 (ruleOf cell) = true ∧ (ruleOf cell).2.length ≤ 60 := by
  unfold ruleOf
  split
  · exact womanW_good (by omega) (by omega) _
  · obtain ⟨j, l, hj, hl, hm⟩ := nine_ix (cell / 5)
    have e : (cell / 5 % 9).toNat = j := by omega
    rw [e, hl]
    exact nine_good l hm
theorem rulesBy_good (ns : List Int) (start count : Nat) : ∀ r ∈ rulesBy ns start count, good1 r = true := fun r hr => by
  unfold rulesBy at hr
  rw [List.mem_map] at hr
  obtain ⟨k, _, rfl⟩ := hr
  exact (ruleOf_good _).1
theorem good1_len {r : Rule} (h : good1 r = true) : r.2.length ≤ 60 := by
  unfold good1 at h
  rw [Bool.and_eq_true] at h
  exact (okW_iff.mp h.1).1
theorem ruleD_get {rs : List Rule} {k : Nat} {r : Rule} (h : rs[k]? = some r) : (rs.map ruleD)[k]? = some (ruleD r) := by rw [List.getElem?_map, h]; rfl
theorem rulesD_pur {rs : List Rule} (h : ∀ r ∈ rs, good1 r = true) : (D.lst (rs.map ruleD)).pur = true := by
  rw [D.pur]
  induction rs with
  | nil => rfl
  | cons r rs ih =>
    rw [List.map_cons, purs, ih fun x hx => h x (List.mem_cons_of_mem _ hx), Bool.and_true]
    have h1 := h r List.mem_cons_self
    unfold good1 at h1
    rw [Bool.and_eq_true] at h1
    have h2 := (okW_iff.mp h1.1).2
    have : PyData.strOk (S r.2) = true := by
      unfold PyData.strOk
      simp only [S, List.all_toArray, List.all_eq_true, decide_eq_true_eq]
      intro x hx
      have := h2 x hx
      simp only [lets, List.mem_cons, List.not_mem_nil, or_false] at this
      omega
    simp only [ruleD, D.pur, purs, kd_ok, this, Bool.and_self]
theorem rulesD_dep (rs : List Rule) : (D.lst (rs.map ruleD)).dep ≤ 20 := by
  rw [D.dep]
  have := deps_map ruleD 1 rs fun r => by simp [ruleD, D.dep, deps]
  omega
theorem s_never : Str.ofString "never" = kd false := rfl
theorem s_may : Str.ofString "may" = kd true := rfl
end KT
namespace KT
open PySem PySem.Spec PyProof.Rows L2
section
variable {X : Cx} {M M1 M2 : List C} {env : EnvD} {e : Expr} {d : D} {Ca : Addr}
theorem DE.toM (h : DE X M env e d M1) (q : M1 = M2) : DE X M env e d M2 := q ▸ h
theorem DX.toM (h : DX X M env e Ca M1) (q : M1 = M2) : DX X M env e Ca M2 := q ▸ h
end
theorem bkD_nl (CB : Addr) (B : Bk) : (bkD CB B).nl = true := by
  have h1 : (D.lst (B.sexes.map .str)).nl = true := nl_strs _
  have h2 : (D.lst (B.parents.map parD)).nl = true := by
    rw [D.nl]; exact nls_map _ (fun x => by cases x <;> simp [parD, D.nl, nls]) _
  have h3 : ∀ xss : List (List Int), (D.lst (xss.map fun xs => .lst (xs.map .int))).nl = true := fun xss => by
    rw [D.nl]; exact nls_map _ (fun xs => nl_ints xs) _
  have h4 := h3 B.wedded
  have h5 := h3 B.young
  unfold bkD
  rw [D.nl, nlf, nlf, nlf, nlf, nlf, h1, h2, h4, h5]
  rfl
theorem bk_nls1 (CB : Addr) (B : Bk) (a : Int) : nls [bkD CB B, .int a] = true := by simp only [nls, bkD_nl, D.nl, Bool.and_self]
theorem set_same {α : Type} {xs : List α} {i : Nat} {c : α} (h : xs[i]? = some c) : xs.set i c = xs := by
  obtain ⟨hl, e⟩ := List.getElem?_eq_some_iff.mp h
  rw [← e, List.set_getElem_self]
def Bk.n (B : Bk) : Nat := B.sexes.length
def Bk.put (B : Bk) (s : Str) (z : Option (Int × Int)) : Bk := ⟨B.sexes ++ [s], B.parents ++ [z], B.wedded ++ [[]], B.young ++ [[]]⟩
structure BkW (B : Bk) : Prop where
  p : B.parents.length = B.n
  w : B.wedded.length = B.n
  y : B.young.length = B.n
theorem BkW.put {B : Bk} (h : BkW B) (s : Str) (z : Option (Int × Int)) : BkW (B.put s z) := ⟨by simp [Bk.put, Bk.n, h.p], by simp [Bk.put, Bk.n, h.w], by simp [Bk.put, Bk.n, h.y]⟩
def Bk.sexIs (B : Bk) (a : Nat) (s : Bool) : Prop := B.sexes[a]? = some (sx s)
def Bk.wed (B : Bk) (m w : Nat) : Bk := if (w : Int) ∈ B.wedded.getD m [] then B else { B with wedded := (B.wedded.set m (B.wedded.getD m [] ++ [(w : Int)])).set w (B.wedded.getD w [] ++ [(m : Int)]) }
def Bk.kid (B : Bk) (f m : Nat) (c : Int) : Bk := { B with young := (B.young.set f (B.young.getD f [] ++ [c])).set m (B.young.getD m [] ++ [c]) }
def Bk.born (B : Bk) (s : Str) (f m : Nat) : Bk := ((B.put s (some (f, m))).wed f m).kid f m B.n
theorem BkW.wed {B : Bk} (h : BkW B) (m w : Nat) : BkW (B.wed m w) := by
  unfold Bk.wed
  split
  · exact h
  · exact ⟨h.p, by simp [Bk.n]; exact h.w, h.y⟩
theorem Bk.wed_n (B : Bk) (m w : Nat) : (B.wed m w).n = B.n := by
  unfold Bk.wed
  split <;> rfl
theorem Bk.wed_s (B : Bk) (m w : Nat) : (B.wed m w).sexes = B.sexes := by
  unfold Bk.wed
  split <;> rfl
theorem Bk.wed_y (B : Bk) (m w : Nat) : (B.wed m w).young = B.young := by
  unfold Bk.wed
  split <;> rfl
theorem BkW.kid {B : Bk} (h : BkW B) (m w : Nat) (c : Int) : BkW (B.kid m w c) := ⟨h.p, h.w, by simp [Bk.kid, Bk.n]; exact h.y⟩
theorem BkW.born {B : Bk} (h : BkW B) (s : Str) (m w : Nat) : BkW (B.born s m w) := ((h.put s _).wed m w).kid m w _
/-- who a pair is refused: false nobody, true other sexes -/
def pairE (B : Bk) (m w : Int) : Option Bool :=
  if 0 ≤ m ∧ m < B.n ∧ 0 ≤ w ∧ w < B.n then (if B.sexes[m.toNat]? = some (sx true) ∧ B.sexes[w.toNat]? = some (sx false) then none else some true) else some false
theorem getD_get {α : Type} {xs : List α} {i : Nat} {d : α} (h : i < xs.length) : xs[i]? = some (xs.getD i d) := by
  rw [List.getD_eq_getElem?_getD, List.getElem?_eq_getElem h]; rfl
theorem atI_strs {xs : List Str} {i : Nat} {v : Str} (h : xs[i]? = some v) : atI (xs.map D.str) (i : Int) = some (.str v) := atI_nat (by rw [List.getElem?_map, h]; rfl)
theorem atI_par {xs : List (Option (Int × Int))} {i : Nat} {v : Option (Int × Int)} (h : xs[i]? = some v) : atI (xs.map parD) (i : Int) = some (parD v) := atI_nat (by rw [List.getElem?_map, h]; rfl)
theorem atI_lsts {xs : List (List Int)} {i : Nat} {v : List Int} (h : xs[i]? = some v) : atI (xs.map fun xs => D.lst (xs.map D.int)) (i : Int) = some (.lst (v.map .int)) := atI_nat (by rw [List.getElem?_map, h]; rfl)
def optI : Option Int → D
  | none => .non
  | some i => .int i
theorem sx_ne : ¬ sx true = sx false := by decide +kernel
theorem pairE_ok {B : Bk} {m w : Int} (h : pairE B m w = none) : (0 ≤ m ∧ m < B.n ∧ 0 ≤ w ∧ w < B.n) ∧ (B.sexes[m.toNat]? = some (sx true) ∧ B.sexes[w.toNat]? = some (sx false)) ∧ m ≠ w := by
  unfold pairE at h
  split at h
  · rename_i h1
    split at h
    · rename_i h2
      refine ⟨h1, h2, fun e => ?_⟩
      subst e
      rw [h2.1] at h2
      exact sx_ne (Option.some.inj h2.2)
    · cases h
  · cases h
end KT
namespace KT
open PySem L2
/-! people and pairs, and the book that holds them -/
structure Pn where
  sex : Bool
  par : Option (Nat × Nat)
abbrev Prs := List (Nat × Nat)
def cI (ns : List Nat) : List Int := ns.map fun (n : Nat) => (n : Int)
theorem cI_app (a b : List Nat) : cI (a ++ b) = cI a ++ cI b := List.map_append
theorem cI_len (a : List Nat) : (cI a).length = a.length := List.length_map ..
theorem cI_mem {n : Nat} {a : List Nat} : (n : Int) ∈ cI a ↔ n ∈ a := by
  unfold cI
  rw [List.mem_map]
  exact ⟨fun ⟨m, h, e⟩ => by have : m = n := by omega
                             exact this ▸ h, fun h => ⟨n, h, rfl⟩⟩
def Pn.isKid (p : Pn) (a : Nat) : Bool := match p.par with
  | some (f, m) => decide (a = f) || decide (a = m)
  | none => false
def parI (z : Option (Nat × Nat)) : Option (Int × Int) := z.map fun p => ((p.1 : Int), (p.2 : Int))
def mates (q : Prs) (a : Nat) : List Nat := (q.filter fun t => decide (t.1 = a)).map (·.2) ++ (q.filter fun t => decide (t.2 = a)).map (·.1)
def isKidAt (ps : List Pn) (a b : Nat) : Bool := match ps[b]? with
  | some p => p.isKid a
  | none => false
def kids (ps : List Pn) (a : Nat) : List Nat := (List.range ps.length).filter (isKidAt ps a)
def bkOf (ps : List Pn) (q : Prs) : Bk := ⟨ps.map fun p => sx p.sex, ps.map fun p => parI p.par, (List.range ps.length).map fun a => cI (mates q a), (List.range ps.length).map fun a => cI (kids ps a)⟩
def sexOf (ps : List Pn) (a : Nat) : Option Bool := (ps[a]?).map (·.sex)
structure OkS (ps : List Pn) (q : Prs) : Prop where
  ok : ∀ t ∈ q, sexOf ps t.1 = some true ∧ sexOf ps t.2 = some false
  nd : q.Nodup
  par : ∀ p ∈ ps, ∀ f m, p.par = some (f, m) → sexOf ps f = some true ∧ sexOf ps m = some false
theorem sexOf_lt {ps : List Pn} {a : Nat} {s : Bool} (h : sexOf ps a = some s) : a < ps.length := by
  unfold sexOf at h
  cases e : ps[a]? with
  | none => rw [e] at h; cases h
  | some p => exact (List.getElem?_eq_some_iff.mp e).1
theorem sexOf_app {ps : List Pn} {a : Nat} {s : Bool} (h : sexOf ps a = some s) (r : List Pn) : sexOf (ps ++ r) a = some s := by
  have hl := sexOf_lt h
  unfold sexOf at h ⊢
  rw [List.getElem?_append_left hl]
  exact h
theorem OkS.nil : OkS [] [] := ⟨(fun t h => by cases h), List.nodup_nil, (fun p h => by cases h)⟩
theorem OkS.new {ps : List Pn} {q : Prs} (h : OkS ps q) (s : Bool) : OkS (ps ++ [⟨s, none⟩]) q :=
  ⟨fun t ht => ⟨sexOf_app (h.ok t ht).1 _, sexOf_app (h.ok t ht).2 _⟩, h.nd, fun p hp f m e => by
    rcases List.mem_append.mp hp with hp | hp
    · exact ⟨sexOf_app (h.par p hp f m e).1 _, sexOf_app (h.par p hp f m e).2 _⟩
    · rw [List.mem_singleton.mp hp] at e; cases e⟩
def addp (q : Prs) (m w : Nat) : Prs := if (m, w) ∈ q then q else q ++ [(m, w)]
theorem OkS.add {ps : List Pn} {q : Prs} (h : OkS ps q) {m w : Nat} (hm : sexOf ps m = some true) (hw : sexOf ps w = some false) : OkS ps (addp q m w) := by
  unfold addp
  split
  · exact h
  · rename_i hn
    refine ⟨fun t ht => ?_, ?_, h.par⟩
    · rcases List.mem_append.mp ht with ht | ht
      · exact h.ok t ht
      · rw [List.mem_singleton.mp ht]; exact ⟨hm, hw⟩
    · rw [List.nodup_append]
      exact ⟨h.nd, by simp, fun a ha b hb e => hn (by rw [← List.mem_singleton.mp hb, ← e]; exact ha)⟩
theorem OkS.kid {ps : List Pn} {q : Prs} (h : OkS ps q) (s : Bool) {m w : Nat} (hm : sexOf ps m = some true) (hw : sexOf ps w = some false) : OkS (ps ++ [⟨s, some (m, w)⟩]) (addp q m w) := by
  have h1 := h.add hm hw
  refine ⟨fun t ht => ⟨sexOf_app (h1.ok t ht).1 _, sexOf_app (h1.ok t ht).2 _⟩, h1.nd, fun p hp f g e => ?_⟩
  rcases List.mem_append.mp hp with hp | hp
  · exact ⟨sexOf_app (h.par p hp f g e).1 _, sexOf_app (h.par p hp f g e).2 _⟩
  · rw [List.mem_singleton.mp hp] at e
    cases e
    exact ⟨sexOf_app hm _, sexOf_app hw _⟩
theorem bkOf_W (ps : List Pn) (q : Prs) : BkW (bkOf ps q) := ⟨by simp [bkOf, Bk.n], by simp [bkOf, Bk.n], by simp [bkOf, Bk.n]⟩
theorem bkOf_n (ps : List Pn) (q : Prs) : (bkOf ps q).n = ps.length := by simp [bkOf, Bk.n]
theorem bkOf_sex {ps : List Pn} {q : Prs} {a : Nat} {s : Bool} (h : sexOf ps a = some s) : (bkOf ps q).sexes[a]? = some (sx s) := by
  unfold sexOf at h
  show (ps.map fun p => sx p.sex)[a]? = some (sx s)
  rw [List.getElem?_map]
  cases e : ps[a]? with
  | none => rw [e] at h; cases h
  | some p => rw [e] at h; cases h; rfl
theorem sx_inj {a b : Bool} (h : sx a = sx b) : a = b := by
  cases a <;> cases b <;> first | rfl | exact absurd h (by decide +kernel)
theorem sexOf_bk {ps : List Pn} {q : Prs} {a : Nat} {s : Bool} (h : (bkOf ps q).sexes[a]? = some (sx s)) : sexOf ps a = some s := by
  have h : (ps.map fun p => sx p.sex)[a]? = some (sx s) := h
  rw [List.getElem?_map] at h
  unfold sexOf
  cases e : ps[a]? with
  | none => rw [e] at h; cases h
  | some p => rw [e] at h; rw [← sx_inj (Option.some.inj h)]; rfl
theorem bkOf_wed {ps : List Pn} {q : Prs} {a : Nat} (h : a < ps.length) : (bkOf ps q).wedded[a]? = some (cI (mates q a)) := by simp [bkOf, h]
theorem bkOf_yng {ps : List Pn} {q : Prs} {a : Nat} (h : a < ps.length) : (bkOf ps q).young[a]? = some (cI (kids ps a)) := by simp [bkOf, h]
theorem bkOf_par {ps : List Pn} {q : Prs} {a : Nat} {p : Pn} (h : ps[a]? = some p) : (bkOf ps q).parents[a]? = some (parI p.par) := by simp [bkOf, h]
theorem pairE_bk {ps : List Pn} {q : Prs} {m w : Nat} (hm : sexOf ps m = some true) (hw : sexOf ps w = some false) : pairE (bkOf ps q) (m : Int) (w : Int) = none := by
  have l1 := sexOf_lt hm
  have l2 := sexOf_lt hw
  unfold pairE
  rw [if_pos (by rw [bkOf_n]; omega)]
  exact if_pos ⟨bkOf_sex hm, bkOf_sex hw⟩
/-! mates -/
theorem mates_no {q : Prs} {a : Nat} (h : ∀ t ∈ q, t.1 ≠ a ∧ t.2 ≠ a) : mates q a = [] := by
  unfold mates
  rw [List.filter_eq_nil_iff.mpr fun t ht => by simp [(h t ht).1], List.filter_eq_nil_iff.mpr fun t ht => by simp [(h t ht).2]]
  rfl
theorem mates_man {ps : List Pn} {q : Prs} (h : OkS ps q) {a : Nat} (ha : sexOf ps a = some true) : mates q a = (q.filter fun t => decide (t.1 = a)).map (·.2) := by
  unfold mates
  rw [List.filter_eq_nil_iff (p := fun t : Nat × Nat => decide (t.2 = a)) |>.mpr fun t ht => by
    have := (h.ok t ht).2
    simp
    intro e
    rw [e, ha] at this
    cases this]
  simp
theorem mates_woman {ps : List Pn} {q : Prs} (h : OkS ps q) {a : Nat} (ha : sexOf ps a = some false) : mates q a = (q.filter fun t => decide (t.2 = a)).map (·.1) := by
  unfold mates
  rw [List.filter_eq_nil_iff (p := fun t : Nat × Nat => decide (t.1 = a)) |>.mpr fun t ht => by
    have := (h.ok t ht).1
    simp
    intro e
    rw [e, ha] at this
    cases this]
  simp
theorem mem_mates_man {ps : List Pn} {q : Prs} (h : OkS ps q) {m w : Nat} (hm : sexOf ps m = some true) : w ∈ mates q m ↔ (m, w) ∈ q := by
  rw [mates_man h hm]
  simp only [List.mem_map, List.mem_filter, decide_eq_true_eq]
  exact ⟨fun ⟨t, ⟨h1, h2⟩, h3⟩ => by
    have : t = (m, w) := Prod.ext h2 h3
    rw [← this]; exact h1, fun h => ⟨(m, w), ⟨h, rfl⟩, rfl⟩⟩
theorem mates_snoc (q : Prs) (m w a : Nat) (hmw : m ≠ w) : mates (q ++ [(m, w)]) a = if a = m then (q.filter fun t => decide (t.1 = a)).map (·.2) ++ [w] ++ (q.filter fun t => decide (t.2 = a)).map (·.1) else if a = w then mates q a ++ [m] else mates q a := by
  unfold mates
  rw [List.filter_append, List.filter_append, List.map_append, List.map_append]
  by_cases h1 : a = m
  · subst h1
    rw [if_pos rfl]
    have : ¬ w = a := fun e => hmw e.symm
    simp [this]
  · rw [if_neg h1]
    have h1' : ¬ m = a := fun e => h1 e.symm
    by_cases h2 : a = w
    · subst h2
      rw [if_pos rfl]
      simp [h1']
    · rw [if_neg h2]
      have h2' : ¬ w = a := fun e => h2 e.symm
      simp [h1', h2']
/-- a wedding in the book -/
theorem bkOf_add {ps : List Pn} {q : Prs} (h : OkS ps q) {m w : Nat} (hm : sexOf ps m = some true) (hw : sexOf ps w = some false) : bkOf ps (addp q m w) = (bkOf ps q).wed m w := by
  have l1 := sexOf_lt hm
  have l2 := sexOf_lt hw
  have hmw : m ≠ w := fun e => by rw [e, hw] at hm; cases hm
  have g1 : (bkOf ps q).wedded.getD m [] = cI (mates q m) := by rw [List.getD_eq_getElem?_getD, bkOf_wed l1]; rfl
  have g2 : (bkOf ps q).wedded.getD w [] = cI (mates q w) := by rw [List.getD_eq_getElem?_getD, bkOf_wed l2]; rfl
  unfold addp Bk.wed
  rw [g1, g2]
  by_cases hi : (m, w) ∈ q
  · rw [if_pos hi, if_pos (cI_mem.mpr ((mem_mates_man h hm).mpr hi))]
  · rw [if_neg hi, if_neg fun z => hi ((mem_mates_man h hm).mp (cI_mem.mp z))]
    have e : ((List.range ps.length).map fun a => cI (mates (q ++ [(m, w)]) a)) = (((List.range ps.length).map fun a => cI (mates q a)).set m (cI (mates q m) ++ [(w : Int)])).set w (cI (mates q w) ++ [(m : Int)]) := by
      apply List.ext_getElem?
      intro i
      by_cases hl : i < ps.length
      · by_cases e1 : i = w
        · subst e1
          rw [List.getElem?_set_self (by simp; exact hl), List.getElem?_map, List.getElem?_range hl]
          show some (cI (mates (q ++ [(m, i)]) i)) = _
          rw [mates_snoc q m i i hmw, if_neg (fun e => hmw e.symm), if_pos rfl, cI_app]
          rfl
        · rw [List.getElem?_set_ne (Ne.symm e1)]
          by_cases e2 : i = m
          · subst e2
            rw [List.getElem?_set_self (by simp; exact hl), List.getElem?_map, List.getElem?_range hl]
            show some (cI (mates (q ++ [(i, w)]) i)) = _
            rw [mates_snoc q i w i hmw, if_pos rfl]
            have e3 := mates_man h hm
            have e4 : (q.filter fun t => decide (t.2 = i)).map (·.1) = [] := by
              have := e3
              unfold mates at this
              have := congrArg List.length this
              simp at this
              simp
              exact this
            rw [e4, List.append_nil, ← e3, cI_app]
            rfl
          · rw [List.getElem?_set_ne (Ne.symm e2), List.getElem?_map, List.getElem?_map, List.getElem?_range hl]
            show some (cI (mates (q ++ [(m, w)]) i)) = some (cI (mates q i))
            rw [mates_snoc q m w i hmw, if_neg e2, if_neg e1]
      · rw [List.getElem?_eq_none (by simp; omega), List.getElem?_eq_none (by simp; omega)]
    unfold bkOf
    rw [e]
/-! kids -/
theorem isKid_par {ps : List Pn} {q : Prs} (h : OkS ps q) {a b : Nat} (hk : isKidAt ps a b = true) : a < ps.length := by
  unfold isKidAt at hk
  cases e : ps[b]? with
  | none => rw [e] at hk; cases hk
  | some p =>
    rw [e] at hk
    have hk : p.isKid a = true := hk
    unfold Pn.isKid at hk
    cases ep : p.par with
    | none => rw [ep] at hk; cases hk
    | some z =>
      obtain ⟨f, m⟩ := z
      rw [ep] at hk
      have := h.par p (List.mem_of_getElem? e) f m ep
      have l1 := sexOf_lt this.1
      have l2 := sexOf_lt this.2
      simp at hk
      omega
theorem kids_snoc (ps : List Pn) (p : Pn) (a : Nat) : kids (ps ++ [p]) a = if p.isKid a = true then kids ps a ++ [ps.length] else kids ps a := by
  unfold kids
  rw [List.length_append, List.length_singleton, List.range_succ, List.filter_append]
  have e1 : (List.range ps.length).filter (isKidAt (ps ++ [p]) a) = (List.range ps.length).filter (isKidAt ps a) := by
    refine List.filter_congr fun b hb => ?_
    rw [List.mem_range] at hb
    unfold isKidAt
    rw [List.getElem?_append_left hb]
  have e2 : isKidAt (ps ++ [p]) a ps.length = p.isKid a := by unfold isKidAt; simp
  rw [e1]
  by_cases h : p.isKid a = true
  · rw [if_pos h, List.filter_cons, e2, if_pos h]; rfl
  · rw [if_neg h, List.filter_cons, e2, if_neg h]; simp
theorem kids_out {ps : List Pn} {q : Prs} (h : OkS ps q) {a : Nat} (ha : ps.length ≤ a) : kids ps a = [] := by
  unfold kids
  rw [List.filter_eq_nil_iff]
  intro b _ hk
  have := isKid_par h hk
  omega
theorem mates_out {ps : List Pn} {q : Prs} (h : OkS ps q) {a : Nat} (ha : ps.length ≤ a) : mates q a = [] := mates_no fun t ht => by
  have l1 := sexOf_lt (h.ok t ht).1
  have l2 := sexOf_lt (h.ok t ht).2
  omega
theorem bkOf_new {ps : List Pn} {q : Prs} (h : OkS ps q) (s : Bool) : bkOf (ps ++ [⟨s, none⟩]) q = (bkOf ps q).put (sx s) none := by
  unfold bkOf Bk.put
  have k1 : ∀ a, kids (ps ++ [⟨s, none⟩]) a = kids ps a := fun a => by rw [kids_snoc, if_neg (by simp [Pn.isKid])]
  simp only [List.map_append, List.length_append, List.length_singleton, List.range_succ, k1, List.map_cons, List.map_nil]
  rw [show mates q ps.length = [] from mates_out h (Nat.le_refl _), show kids ps ps.length = [] from kids_out h (Nat.le_refl _)]
  rfl
theorem bkOf_kid {ps : List Pn} {q : Prs} (h : OkS ps q) (s : Bool) {m w : Nat} (hm : sexOf ps m = some true) (hw : sexOf ps w = some false) : bkOf (ps ++ [⟨s, some (m, w)⟩]) (addp q m w) = (bkOf ps q).born (sx s) m w := by
  have l1 := sexOf_lt hm
  have l2 := sexOf_lt hw
  have hmw : m ≠ w := fun e => by rw [e, hw] at hm; cases hm
  have hn := h.new s
  have e0 := bkOf_new h s
  have e1 := bkOf_add hn (m := m) (w := w) (sexOf_app hm _) (sexOf_app hw _)
  rw [e0] at e1
  -- the book with the child but its parents' rows
  have e2 : ((bkOf ps q).put (sx s) (some ((m : Int), (w : Int)))).wed m w = { bkOf (ps ++ [⟨s, none⟩]) (addp q m w) with parents := (bkOf ps q).parents ++ [some ((m : Int), (w : Int))] } := by
    rw [e1]
    unfold Bk.wed Bk.put
    split <;> rfl
  have e3 : (bkOf ps q).born (sx s) m w = (((bkOf ps q).put (sx s) (some ((m : Int), (w : Int)))).wed m w).kid m w (bkOf ps q).n := rfl
  rw [e3, e2, bkOf_n]
  unfold Bk.kid
  have len : (ps ++ [(⟨s, none⟩ : Pn)]).length = ps.length + 1 := by simp
  have k1 : ∀ a, kids (ps ++ [⟨s, none⟩]) a = kids ps a := fun a => by rw [kids_snoc, if_neg (by simp [Pn.isKid])]
  have gy : ∀ {a : Nat}, a < ps.length → (bkOf (ps ++ [⟨s, none⟩]) (addp q m w)).young.getD a [] = cI (kids ps a) := fun {a} ha => by
    rw [List.getD_eq_getElem?_getD, bkOf_yng (by omega), k1]; rfl
  show bkOf (ps ++ [⟨s, some (m, w)⟩]) (addp q m w) = ⟨_, _, _, ((bkOf (ps ++ [⟨s, none⟩]) (addp q m w)).young.set m ((bkOf (ps ++ [⟨s, none⟩]) (addp q m w)).young.getD m [] ++ [((ps.length : Nat) : Int)])).set w ((bkOf (ps ++ [⟨s, none⟩]) (addp q m w)).young.getD w [] ++ [((ps.length : Nat) : Int)])⟩
  rw [gy l1, gy l2]
  have ey : (bkOf (ps ++ [⟨s, some (m, w)⟩]) (addp q m w)).young = ((bkOf (ps ++ [⟨s, none⟩]) (addp q m w)).young.set m (cI (kids ps m) ++ [((ps.length : Nat) : Int)])).set w (cI (kids ps w) ++ [((ps.length : Nat) : Int)]) := by
    apply List.ext_getElem?
    intro i
    by_cases hl : i < ps.length + 1
    · rw [bkOf_yng (by simp; omega), kids_snoc]
      have ik : (⟨s, some (m, w)⟩ : Pn).isKid i = (decide (i = m) || decide (i = w)) := rfl
      rw [ik]
      have len2 : i < (bkOf (ps ++ [⟨s, none⟩]) (addp q m w)).young.length := by simp [bkOf]; omega
      by_cases e1 : i = w
      · subst e1
        rw [List.getElem?_set_self (by rw [List.length_set]; exact len2), if_pos (by simp), cI_app]
        rfl
      · rw [List.getElem?_set_ne (Ne.symm e1)]
        by_cases e2 : i = m
        · subst e2
          rw [List.getElem?_set_self len2, if_pos (by simp), cI_app]
          rfl
        · rw [List.getElem?_set_ne (Ne.symm e2), bkOf_yng (by simp; omega), k1, if_neg (by simp [e1, e2])]
    · rw [List.getElem?_eq_none (by simp [bkOf]; omega), List.getElem?_eq_none (by simp [bkOf]; omega)]
  have e4 : bkOf (ps ++ [⟨s, some (m, w)⟩]) (addp q m w) = ⟨(bkOf (ps ++ [⟨s, some (m, w)⟩]) (addp q m w)).sexes, (bkOf (ps ++ [⟨s, some (m, w)⟩]) (addp q m w)).parents, (bkOf (ps ++ [⟨s, some (m, w)⟩]) (addp q m w)).wedded, (bkOf (ps ++ [⟨s, some (m, w)⟩]) (addp q m w)).young⟩ := rfl
  rw [e4, ey]
  congr 1
  · simp [bkOf]
  · simp [bkOf, parI]
  · simp [bkOf]
theorem kids_len (ps : List Pn) (a : Nat) : (kids ps a).length ≤ ps.length := by
  unfold kids
  have := List.length_filter_le (isKidAt ps a) (List.range ps.length)
  simpa using this
theorem mates_len (q : Prs) (a : Nat) : (mates q a).length ≤ 2 * q.length := by
  unfold mates
  have h1 := List.length_filter_le (fun t : Nat × Nat => decide (t.1 = a)) q
  have h2 := List.length_filter_le (fun t : Nat × Nat => decide (t.2 = a)) q
  simp only [List.length_append, List.length_map]
  omega
theorem bkOf_wlen {ps : List Pn} {q : Prs} : ∀ xs ∈ (bkOf ps q).wedded, xs.length ≤ 2 * q.length := fun xs hx => by
  have hx : xs ∈ (List.range ps.length).map fun a => cI (mates q a) := hx
  obtain ⟨a, _, rfl⟩ := List.mem_map.mp hx
  rw [cI_len]
  exact mates_len q a
theorem bkOf_ylen {ps : List Pn} {q : Prs} : ∀ xs ∈ (bkOf ps q).young, xs.length ≤ ps.length := fun xs hx => by
  have hx : xs ∈ (List.range ps.length).map fun a => cI (kids ps a) := hx
  obtain ⟨a, _, rfl⟩ := List.mem_map.mp hx
  rw [cI_len]
  exact kids_len ps a
theorem kids_sorted (ps : List Pn) (a : Nat) : srt (cI (kids ps a)) = cI (kids ps a) := by
  refine (srt_uniq (List.Perm.refl _) ?_).symm
  unfold cI kids
  rw [List.pairwise_map]
  exact ((List.pairwise_lt_range (n := ps.length)).filter _).imp fun h => by omega
/-! data -/
def natD : Option Nat → D
  | none => .non
  | some n => .int (n : Int)
def Pn.fa (p : Pn) : D := natD (p.par.map Prod.fst)
def Pn.mo (p : Pn) : D := natD (p.par.map Prod.snd)
def persD (p : Pn) : D := .tup [sxD p.sex, p.fa, p.mo]
theorem last_get (M : List C) (c : C) : (M ++ [c])[M.length]? = some c := by simp
theorem prev_get {M : List C} {k : Nat} {c : C} (h : M[k]? = some c) (r : List C) : (M ++ r)[k]? = some c := by rw [List.getElem?_append_left (List.getElem?_eq_some_iff.mp h).1]; exact h
def duD (t : Nat × Nat) : D := .tup [.int (t.1 : Int), .int (t.2 : Int)]
theorem persD_nl (p : Pn) : (persD p).nl = true := by
  cases h : p.par <;> simp [persD, Pn.fa, Pn.mo, h, natD, D.nl, nls]
theorem duD_nl (t : Nat × Nat) : (duD t).nl = true := by simp [duD, D.nl, nls]
theorem pers_nl (ps : List Pn) : (D.lst (ps.map persD)).nl = true := by rw [D.nl]; exact nls_map _ persD_nl _
theorem prs_nl (q : Prs) : (D.lst (q.map duD)).nl = true := by rw [D.nl]; exact nls_map _ duD_nl _
theorem duD_eqv (s t : Nat × Nat) : PyData.eqv (duD s).py (duD t).py = decide (s = t) := by
  obtain ⟨a, b⟩ := s
  obtain ⟨c, d⟩ := t
  simp only [duD, D.py, pys, PyData.eqv, PyData.eqvAll, Bool.and_true]
  by_cases h1 : a = c
  · subst h1
    by_cases h2 : b = d
    · subst h2; simp
    · have : ¬ (b : Int) = d := by omega
      have e : ((b : Int) == (d : Int)) = false := by simpa using this
      rw [e]; simp [h2]
  · have : ¬ (a : Int) = c := by omega
    have e : ((a : Int) == (c : Int)) = false := by simpa using this
    rw [e]; simp [h1]
theorem prs_any (q : Prs) (t : Nat × Nat) : ((pys (q.map duD)).any fun z => PyData.eqv z (duD t).py) = decide (t ∈ q) := by
  induction q with
  | nil => simp [pys]
  | cons s q ih =>
    rw [List.map_cons, pys, List.any_cons, ih, duD_eqv]
    by_cases h : s = t
    · subst h; simp
    · have : ¬ t = s := fun e => h e.symm
      simp [h, this]
theorem prs_pur (q : Prs) : purs (q.map duD) = true := purs_map _ _ fun t => by simp [duD, D.pur, purs]
theorem duD_pur (t : Nat × Nat) : (duD t).pur = true := by simp [duD, D.pur, purs]
theorem duD_dep (t : Nat × Nat) : (duD t).dep ≤ 1 := by simp [duD, D.dep, deps]
theorem prs_dep (q : Prs) : deps (q.map duD) ≤ 19 := by
  have := deps_map duD 1 q duD_dep
  omega
/-! comers -/
inductive Cm where
  | new (s : Bool) | wed (m w : Nat) | born (s : Bool) (m w : Nat)
def comD : Cm → D
  | .new s => .tup [sxD s, .non, .non]
  | .wed m w => .tup [.str (Str.ofString "wed"), .int (m : Int), .int (w : Int)]
  | .born s m w => .tup [sxD s, .int (m : Int), .int (w : Int)]
theorem comD_imm (c : Cm) : (comD c).imm = true := by cases c <;> rfl
theorem comD_nl (c : Cm) : (comD c).nl = true := by cases c <;> simp [comD, D.nl, nls]
def menOf (ps : List Pn) (b : Bool) : List Nat := (List.range ps.length).filter fun a => decide (sexOf ps a = some b)
theorem mem_men {ps : List Pn} {b : Bool} {a : Nat} : a ∈ menOf ps b ↔ sexOf ps a = some b := by
  unfold menOf
  rw [List.mem_filter, List.mem_range, decide_eq_true_eq]
  exact ⟨fun h => h.2, fun h => ⟨sexOf_lt h, h⟩⟩
def pick (xs : List Nat) (c : Int) : Nat := xs.getD (c % (xs.length : Int)).toNat 0
theorem pick_mem {xs : List Nat} (h : xs ≠ []) (c : Int) : ∃ j : Nat, c % (xs.length : Int) = j ∧ xs[j]? = some (pick xs c) ∧ pick xs c ∈ xs := by
  have hl := List.length_pos_iff.mpr h
  have h1 := Int.emod_nonneg c (b := (xs.length : Int)) (by omega)
  have h2 := Int.emod_lt_of_pos c (b := (xs.length : Int)) (by omega)
  have hj : (c % (xs.length : Int)).toNat < xs.length := by omega
  have e : xs[(c % (xs.length : Int)).toNat]? = some (pick xs c) := getD_get hj
  exact ⟨_, by omega, e, List.mem_of_getElem? e⟩
def comerOf (ps : List Pn) (cell : Int) : Cm :=
  if cell / 2 % 6 = 0 ∨ menOf ps true = [] ∨ menOf ps false = [] then .new (decide (cell % 2 = 0))
  else if cell / 2 % 6 = 5 then .wed (pick (menOf ps true) (cell / 12)) (pick (menOf ps false) (cell / 97))
  else .born (decide (cell % 2 = 0)) (pick (menOf ps true) (cell / 12)) (pick (menOf ps false) (cell / 97))
def CmOk (ps : List Pn) : Cm → Prop
  | .new _ => True
  | .wed m w => sexOf ps m = some true ∧ sexOf ps w = some false
  | .born _ m w => sexOf ps m = some true ∧ sexOf ps w = some false
theorem comerOf_ok (ps : List Pn) (cell : Int) : CmOk ps (comerOf ps cell) := by
  unfold comerOf
  split
  · trivial
  · rename_i h
    simp only [not_or] at h
    obtain ⟨_, _, _, p1⟩ := pick_mem h.2.1 (cell / 12)
    obtain ⟨_, _, _, p2⟩ := pick_mem h.2.2 (cell / 97)
    split
    · exact ⟨mem_men.mp p1, mem_men.mp p2⟩
    · exact ⟨mem_men.mp p1, mem_men.mp p2⟩
def stepS (ps : List Pn) (q : Prs) : Cm → List Pn × Prs
  | .new s => (ps ++ [⟨s, none⟩], q)
  | .wed m w => (ps, addp q m w)
  | .born s m w => (ps ++ [⟨s, some (m, w)⟩], addp q m w)
theorem stepS_ok {ps : List Pn} {q : Prs} (h : OkS ps q) {c : Cm} (hc : CmOk ps c) : OkS (stepS ps q c).1 (stepS ps q c).2 := by
  cases c with
  | new s => exact h.new s
  | wed m w => exact h.add hc.1 hc.2
  | born s m w => exact h.kid s hc.1 hc.2
theorem addp_len (q : Prs) (m w : Nat) : (addp q m w).length ≤ q.length + 1 := by
  unfold addp
  split
  · omega
  · simp
theorem stepS_len (ps : List Pn) (q : Prs) (c : Cm) : (stepS ps q c).1.length ≤ ps.length + 1 ∧ (stepS ps q c).2.length ≤ q.length + 1 := by
  cases c with
  | new s => simp [stepS]
  | wed m w => exact ⟨by simp [stepS], addp_len _ _ _⟩
  | born s m w => exact ⟨by simp [stepS], addp_len _ _ _⟩
/-- the law's three cells -/
def St3 (CB : Addr) (ps : List Pn) (q : Prs) (R : List C) : List C := .bk CB (bkOf ps q) :: .lst (ps.map persD) :: .lst (q.map duD) :: R
theorem sexOf_get {ps : List Pn} {a : Nat} {p : Pn} (h : ps[a]? = some p) : sexOf ps a = some p.sex := by unfold sexOf; rw [h]; rfl
theorem pers_get {ps : List Pn} {a : Nat} {p : Pn} (h : ps[a]? = some p) : atI (ps.map persD) (a : Int) = some (persD p) := atI_nat (by rw [List.getElem?_map, h]; rfl)
/-- a comprehension over range that filters -/
theorem lc_men (ps : List Pn) (b : Bool) : ((rngD 0 ps.length).filter fun d => match d with | .int a => decide (sexOf ps a.toNat = some b) | _ => false).map (fun d => d) = (cI (menOf ps b)).map .int := by
  rw [List.map_id', rngD_rng]
  unfold rng menOf cI
  rw [List.map_map, List.filter_map, List.map_map]
  congr 1
theorem men_nil {ps : List Pn} {b : Bool} : menOf ps b = [] ↔ (cI (menOf ps b)).length = 0 := by rw [cI_len, List.length_eq_zero_iff]
theorem cI_get {xs : List Nat} {j n : Nat} (h : xs[j]? = some n) : (cI xs)[j]? = some (n : Int) := by unfold cI; rw [List.getElem?_map, h]; rfl
theorem s_wed (s : Bool) : ¬ sx s = Str.ofString "wed" := by cases s <;> decide +kernel
theorem sx_draw2 (c : Int) : ∃ j : Nat, c % 2 = j ∧ ([.str (Str.ofString "man"), .str (Str.ofString "woman")] : List D)[j]? = some (sxD (decide (c % 2 = 0))) := by
  have h1 := Int.emod_nonneg c (b := 2) (by omega)
  have h2 := Int.emod_lt_of_pos c (b := 2) (by omega)
  by_cases z : c % 2 = 0
  · exact ⟨0, by omega, by rw [z]; rfl⟩
  · exact ⟨1, by omega, by rw [decide_eq_false z]; rfl⟩
end KT
namespace KT
open PySem PySem.Spec PyProof.Rows L2
/-! who is near, who is reached -/
def parOf (ps : List Pn) (a : Nat) : Option (Nat × Nat) := (ps[a]?).bind (·.par)
def sibs (ps : List Pn) (a : Nat) (z : Nat × Nat) : List Nat := (List.range ps.length).filter fun b => decide (parOf ps b = some z) && !decide (b = a)
def nearOf (ps : List Pn) (q : Prs) (a l : Nat) : List Nat :=
  if l = 102 then (match parOf ps a with | none => [] | some z => [z.1])
  else if l = 109 then (match parOf ps a with | none => [] | some z => [z.2])
  else if l = 112 then mates q a
  else if l ∈ [115, 100] then (List.range ps.length).filter fun b => decide (sexOf ps b = some (decide (l = 115))) && isKidAt ps a b
  else match parOf ps a with
    | none => []
    | some z => (List.range ps.length).filter fun b => decide (sexOf ps b = some (decide (l = 98))) && (decide (parOf ps b = some z) && !decide (b = a))
theorem isKid_of_par {ps : List Pn} {b : Nat} {z : Nat × Nat} (h : parOf ps b = some z) : isKidAt ps z.1 b = true ∧ isKidAt ps z.2 b = true := by
  unfold parOf at h
  unfold isKidAt
  cases e : ps[b]? with
  | none => rw [e] at h; cases h
  | some p =>
    rw [e] at h
    have h : p.par = some z := h
    show p.isKid z.1 = true ∧ p.isKid z.2 = true
    unfold Pn.isKid
    rw [h]
    simp
theorem flt_flt {α : Type} (xs : List α) (p q r : α → Bool) (h : ∀ x, (p x && q x) = r x) : (xs.filter p).filter q = xs.filter r := by
  rw [List.filter_filter]
  exact List.filter_congr fun x _ => by rw [← h x, Bool.and_comm]
theorem sibs_kids (ps : List Pn) (a : Nat) (z : Nat × Nat) : (kids ps z.1).filter (fun b => decide (parOf ps b = some z) && !decide (b = a)) = sibs ps a z := by
  unfold kids sibs
  refine flt_flt _ _ _ _ fun b => ?_
  by_cases h : parOf ps b = some z
  · rw [(isKid_of_par h).1, Bool.true_and]
  · rw [decide_eq_false h]; simp
theorem parOf_ok {ps : List Pn} {q : Prs} (h : OkS ps q) {a : Nat} {z : Nat × Nat} (hp : parOf ps a = some z) : sexOf ps z.1 = some true ∧ sexOf ps z.2 = some false := by
  unfold parOf at hp
  cases e : ps[a]? with
  | none => rw [e] at hp; cases hp
  | some p =>
    rw [e] at hp
    have hp : p.par = some z := hp
    exact h.par p (List.mem_of_getElem? e) z.1 z.2 hp
theorem mates_lt {ps : List Pn} {q : Prs} (h : OkS ps q) {a b : Nat} (hb : b ∈ mates q a) : b < ps.length := by
  unfold mates at hb
  rcases List.mem_append.mp hb with hb | hb
  · obtain ⟨t, ht, rfl⟩ := List.mem_map.mp hb
    exact sexOf_lt (h.ok t (List.mem_filter.mp ht).1).2
  · obtain ⟨t, ht, rfl⟩ := List.mem_map.mp hb
    exact sexOf_lt (h.ok t (List.mem_filter.mp ht).1).1
theorem mates_nodup {ps : List Pn} {q : Prs} (h : OkS ps q) {a : Nat} {s : Bool} (ha : sexOf ps a = some s) : (mates q a).Nodup := by
  have key : ∀ (p : Nat × Nat → Bool) (f : Nat × Nat → Nat), (∀ t u, p t = true → p u = true → f t = f u → t = u) → ((q.filter p).map f).Nodup := by
    intro p f hinj
    rw [List.nodup_iff_pairwise_ne, List.pairwise_map]
    have hn := (h.nd.sublist (List.filter_sublist (p := p)))
    rw [List.nodup_iff_pairwise_ne] at hn
    exact hn.imp_of_mem fun {t u} ht hu hne e => hne (hinj t u (List.mem_filter.mp ht).2 (List.mem_filter.mp hu).2 e)
  cases s with
  | true =>
    rw [mates_man h ha]
    exact key _ _ fun t u h1 h2 e => Prod.ext ((of_decide_eq_true h1).trans (of_decide_eq_true h2).symm) e
  | false =>
    rw [mates_woman h ha]
    exact key _ _ fun t u h1 h2 e => Prod.ext e ((of_decide_eq_true h1).trans (of_decide_eq_true h2).symm)
theorem len_sub {α : Type} [DecidableEq α] : ∀ {xs ys : List α}, xs.Nodup → (∀ x ∈ xs, x ∈ ys) → xs.length ≤ ys.length
  | [], _, _, _ => Nat.zero_le _
  | x :: xs, ys, nd, hs => by
    have hx := hs x List.mem_cons_self
    have nd' := List.nodup_cons.mp nd
    have p := (List.perm_cons_erase hx).length_eq
    have := len_sub (ys := ys.erase x) nd'.2 fun z hz => by
      have ne : z ≠ x := fun e => nd'.1 (e ▸ hz)
      exact (List.mem_erase_of_ne ne).mpr (hs z (List.mem_cons_of_mem _ hz))
    simp only [List.length_cons] at p ⊢
    omega
theorem len_of_nodup {n : Nat} {xs : List Nat} (h : xs.Nodup) (hl : ∀ x ∈ xs, x < n) : xs.length ≤ n := by
  have := len_sub (ys := List.range n) h fun x hx => List.mem_range.mpr (hl x hx)
  simpa using this
theorem sexOf_some {ps : List Pn} {a : Nat} (h : a < ps.length) : ∃ s, sexOf ps a = some s := by
  unfold sexOf
  rw [List.getElem?_eq_getElem h]
  exact ⟨_, rfl⟩
theorem near_lt {ps : List Pn} {q : Prs} (h : OkS ps q) {a l b : Nat} (hb : b ∈ nearOf ps q a l) : b < ps.length := by
  unfold nearOf at hb
  split at hb
  · cases e : parOf ps a with
    | none => rw [e] at hb; cases hb
    | some z => rw [e] at hb; rw [List.mem_singleton.mp hb]; exact sexOf_lt (parOf_ok h e).1
  split at hb
  · cases e : parOf ps a with
    | none => rw [e] at hb; cases hb
    | some z => rw [e] at hb; rw [List.mem_singleton.mp hb]; exact sexOf_lt (parOf_ok h e).2
  split at hb
  · exact mates_lt h hb
  split at hb
  · exact List.mem_range.mp (List.mem_filter.mp hb).1
  · cases e : parOf ps a with
    | none => rw [e] at hb; cases hb
    | some z => rw [e] at hb; exact List.mem_range.mp (List.mem_filter.mp hb).1
theorem near_len {ps : List Pn} {q : Prs} (h : OkS ps q) {a l : Nat} (ha : a < ps.length) : (nearOf ps q a l).length ≤ ps.length := by
  obtain ⟨s, hs⟩ := sexOf_some ha
  have fl : ∀ p : Nat → Bool, ((List.range ps.length).filter p).length ≤ ps.length := fun p => by
    have := List.length_filter_le p (List.range ps.length)
    simpa using this
  unfold nearOf
  split
  · cases parOf ps a <;> simp; omega
  split
  · cases parOf ps a <;> simp; omega
  split
  · exact len_of_nodup (mates_nodup h hs) fun x hx => mates_lt h hx
  split
  · exact fl _
  · cases parOf ps a
    · simp
    · exact fl _
def risen (n : Nat) (xs : List Nat) : List Nat := (List.range n).filter fun b => decide (b ∈ xs)
def reach (ps : List Pn) (q : Prs) (a : Nat) (ls : List Nat) : List Nat := ls.foldl (fun R l => risen ps.length (R.flatMap fun b => nearOf ps q b l)) [a]
theorem risen_mem {n : Nat} {xs : List Nat} (h : ∀ x ∈ xs, x < n) {b : Nat} : b ∈ risen n xs ↔ b ∈ xs := by
  unfold risen
  rw [List.mem_filter, List.mem_range, decide_eq_true_eq]
  exact ⟨fun z => z.2, fun z => ⟨h b z, z⟩⟩
theorem risen_lt {n : Nat} {xs : List Nat} {b : Nat} (h : b ∈ risen n xs) : b < n := List.mem_range.mp (List.mem_filter.mp h).1
theorem risen_pw (n : Nat) (xs : List Nat) : (risen n xs).Pairwise (· < ·) := (List.pairwise_lt_range (n := n)).filter _
theorem risen_len (n : Nat) (xs : List Nat) : (risen n xs).length ≤ n := by
  have := List.length_filter_le (fun b => decide (b ∈ xs)) (List.range n)
  unfold risen
  simpa using this
theorem cI_pw {xs : List Nat} (h : xs.Pairwise (· < ·)) : (cI xs).Pairwise (· < ·) := by
  unfold cI
  rw [List.pairwise_map]
  exact h.imp fun h => by omega
theorem cI_memZ {xs : List Nat} {k : Int} : k ∈ cI xs ↔ ∃ n, n ∈ xs ∧ (n : Int) = k := by
  unfold cI
  rw [List.mem_map]
theorem reach_lt {ps : List Pn} {q : Prs} {a : Nat} (ha : a < ps.length) : ∀ (ls : List Nat), ∀ b ∈ reach ps q a ls, b < ps.length := by
  intro ls b hb
  rcases List.eq_nil_or_concat ls with rfl | ⟨ls', l, rfl⟩
  · rw [List.mem_singleton.mp hb]; exact ha
  · unfold reach at hb
    rw [List.concat_eq_append, List.foldl_append] at hb
    exact risen_lt hb
theorem reach_snoc (ps : List Pn) (q : Prs) (a : Nat) (ls : List Nat) (l : Nat) : reach ps q a (ls ++ [l]) = risen ps.length ((reach ps q a ls).flatMap fun b => nearOf ps q b l) := by
  unfold reach
  rw [List.foldl_append]
  rfl
theorem reach_pw (ps : List Pn) (q : Prs) (a : Nat) (ls : List Nat) : (reach ps q a ls).Pairwise (· < ·) := by
  rcases List.eq_nil_or_concat ls with rfl | ⟨ls', l, rfl⟩
  · unfold reach; simp
  · unfold reach
    rw [List.concat_eq_append, List.foldl_append]
    exact risen_pw _ _
theorem reach_len {ps : List Pn} {q : Prs} {a : Nat} (ha : a < ps.length) (ls : List Nat) : (reach ps q a ls).length ≤ ps.length :=
  len_of_nodup ((reach_pw ps q a ls).imp fun h => by omega) (reach_lt ha ls)
def addN (xs : List Nat) (y : Nat) : List Nat := if y ∈ xs then xs else xs ++ [y]
theorem addN_mem {xs : List Nat} {y z : Nat} : z ∈ addN xs y ↔ z ∈ xs ∨ z = y := by
  unfold addN
  split
  · rename_i h
    exact ⟨.inl, fun z => z.elim id fun e => e ▸ h⟩
  · simp
theorem addN_nodup {xs : List Nat} (h : xs.Nodup) (y : Nat) : (addN xs y).Nodup := by
  unfold addN
  split
  · exact h
  · rename_i hn
    rw [List.nodup_append]
    exact ⟨h, by simp, fun a ha b hb e => hn (by rw [← List.mem_singleton.mp hb, ← e]; exact ha)⟩
def addA (xs ys : List Nat) : List Nat := ys.foldl addN xs
theorem addA_mem {z : Nat} : ∀ {ys xs : List Nat}, z ∈ addA xs ys ↔ z ∈ xs ∨ z ∈ ys
  | [], xs => by simp [addA]
  | y :: ys, xs => by
    show z ∈ addA (addN xs y) ys ↔ _
    rw [addA_mem, addN_mem, List.mem_cons, or_assoc]
theorem addA_nodup : ∀ {ys xs : List Nat}, xs.Nodup → (addA xs ys).Nodup
  | [], _, h => h
  | y :: ys, _, h => addA_nodup (ys := ys) (addN_nodup h y)
theorem addA_snoc (xs ys : List Nat) (y : Nat) : addA xs (ys ++ [y]) = addN (addA xs ys) y := by unfold addA; rw [List.foldl_append]; rfl
theorem addA_app (xs ys zs : List Nat) : addA xs (ys ++ zs) = addA (addA xs ys) zs := List.foldl_append
theorem srt_risen {xs ys : List Nat} (h1 : xs.Nodup) (h2 : ys.Pairwise (· < ·)) (h : ∀ b, b ∈ xs ↔ b ∈ ys) : srt (cI xs) = cI ys := by
  have n1 : (cI xs).Nodup := by
    unfold cI
    rw [List.nodup_iff_pairwise_ne, List.pairwise_map]
    rw [List.nodup_iff_pairwise_ne] at h1
    exact h1.imp fun h => by omega
  have n2 : (cI ys).Nodup := (cI_pw h2).imp fun h => by omega
  refine (srt_uniq (xs := cI xs) ?_ ((cI_pw h2).imp fun h => by omega)).symm
  refine (List.perm_ext_iff_of_nodup n2 n1).mpr fun k => ?_
  rw [cI_memZ, cI_memZ]
  exact ⟨fun ⟨n, a, b⟩ => ⟨n, (h n).mpr a, b⟩, fun ⟨n, a, b⟩ => ⟨n, (h n).mp a, b⟩⟩
theorem lc_cI (xs : List Nat) (c : D → Bool) (p : Nat → Bool) (h : ∀ b ∈ xs, c (.int (b : Int)) = p b) : (((cI xs).map D.int).filter c).map (fun d => d) = (cI (xs.filter p)).map .int := by
  rw [List.map_id']
  induction xs with
  | nil => rfl
  | cons x xs ih =>
    show (D.int (x : Int) :: (cI xs).map D.int).filter c = _
    rw [List.filter_cons, List.filter_cons, h x List.mem_cons_self, ih fun b hb => h b (List.mem_cons_of_mem _ hb)]
    cases p x <;> rfl
theorem lc_rngN (n : Nat) (c : D → Bool) (p : Nat → Bool) (h : ∀ b, b < n → c (.int (b : Int)) = p b) : ((rngD 0 n).filter c).map (fun d => d) = (cI ((List.range n).filter p)).map .int := by
  have e : rngD 0 n = (cI (List.range n)).map D.int := by rw [rngD_rng]; rfl
  rw [e]
  exact lc_cI _ c p fun b hb => h b (List.mem_range.mp hb)
theorem par_eqv (x y : Option (Nat × Nat)) : PyData.eqv (parD (parI x)).py (parD (parI y)).py = decide (x = y) := by
  match x, y with
  | none, none => decide +kernel
  | none, some (c, d) => simp [parI, parD, D.py, pys, PyData.eqv, PyData.eqvAll]
  | some (a, b), none => simp [parI, parD, D.py, pys, PyData.eqv, PyData.eqvAll]
  | some (a, b), some (c, d) =>
    simp only [parI, Option.map_some, parD, D.py, pys, PyData.eqv, PyData.eqvAll, Bool.and_true]
    by_cases h1 : a = c
    · subst h1
      by_cases h2 : b = d
      · subst h2; simp
      · have : ¬ (b : Int) = d := by omega
        have e : ((b : Int) == (d : Int)) = false := by simpa using this
        rw [e]; simp [h2]
    · have : ¬ (a : Int) = c := by omega
      have e : ((a : Int) == (c : Int)) = false := by simpa using this
      rw [e]; simp [h1]
theorem parD_nl (x : Option (Int × Int)) : (parD x).nl = true := by cases x <;> rfl
theorem parD_pur (x : Option (Int × Int)) : (parD x).pur = true := by cases x <;> rfl
theorem parD_dep (x : Option (Int × Int)) : (parD x).dep ≤ 20 := by cases x <;> simp [parD, D.dep, deps]
theorem parI_tup (p : Pn) : D.tup [p.fa, p.mo] = parD (parI p.par) := by
  unfold Pn.fa Pn.mo parI
  cases p.par <;> rfl
theorem parOf_get {ps : List Pn} {a : Nat} {p : Pn} (h : ps[a]? = some p) : parOf ps a = p.par := by unfold parOf; rw [h]; rfl
theorem near_f (ps : List Pn) (q : Prs) (a : Nat) : nearOf ps q a 102 = (match parOf ps a with | none => [] | some z => [z.1]) := by
  unfold nearOf
  rw [if_pos rfl]
theorem near_m (ps : List Pn) (q : Prs) (a : Nat) : nearOf ps q a 109 = (match parOf ps a with | none => [] | some z => [z.2]) := by
  unfold nearOf
  rw [if_neg (by decide), if_pos rfl]
theorem near_p (ps : List Pn) (q : Prs) (a : Nat) : nearOf ps q a 112 = mates q a := by
  unfold nearOf
  rw [if_neg (by decide), if_neg (by decide), if_pos rfl]
theorem bool_dec (t s : Bool) : (t == s) = decide (some t = some s) := by cases t <;> cases s <;> rfl
end KT
namespace KT
open PySem PySem.Spec PyProof.Rows L2
/-! a book that is built by a table -/
def ck (ks : List Nat) (a : Nat) : Nat := ks.getD a 0
structure FitB (n : Nat) (w h : List Int) (ps : List Pn) (q : Prs) (ks : List Nat) : Prop where
  len : ks.length = ps.length
  lt : ∀ k ∈ ks, k < n
  wed : ∀ t ∈ q, ck ks t.2 = ap w (ck ks t.1)
  kid : ∀ b z, parOf ps b = some z → ck ks b = ap h (ck ks z.1) ∧ ck ks z.2 = ap w (ck ks z.1)
theorem ck_lt {n : Nat} {w h : List Int} {ps : List Pn} {q : Prs} {ks : List Nat} (F : FitB n w h ps q ks) {a : Nat} (ha : a < ps.length) : ck ks a < n :=
  F.lt _ (List.mem_of_getElem? (getD_get (by rw [F.len]; exact ha)))
theorem ck_app {ks : List Nat} {a : Nat} (h : a < ks.length) (r : List Nat) : ck (ks ++ r) a = ck ks a := by
  unfold ck
  rw [List.getD_eq_getElem?_getD, List.getD_eq_getElem?_getD, List.getElem?_append_left h]
theorem ck_last (ks : List Nat) (k : Nat) : ck (ks ++ [k]) ks.length = k := by
  unfold ck
  rw [List.getD_eq_getElem?_getD]
  simp
theorem ap_back {n : Nat} {w : List Int} (T : Trn n w) {i : Nat} (hi : i < n) : ap (backOf w) (ap w i) = i := by
  obtain ⟨h1, h2⟩ := T.ap hi
  have := backOf_get T h1
  unfold ap at this ⊢
  rw [this]
  simp
theorem back_ap {n : Nat} {w : List Int} (T : Trn n w) {i : Nat} (hi : i < n) : ap w (ap (backOf w) i) = i := by
  obtain ⟨h1, h2⟩ := (backOf_trn T).ap hi
  have := backOf_back T hi h1
  unfold ap at this ⊢
  rw [this]
  simp
theorem isKid_cases {ps : List Pn} {a b : Nat} (h : isKidAt ps a b = true) : ∃ z, parOf ps b = some z ∧ (a = z.1 ∨ a = z.2) := by
  unfold isKidAt at h
  unfold parOf
  cases e : ps[b]? with
  | none => rw [e] at h; cases h
  | some p =>
    rw [e] at h
    have h : p.isKid a = true := h
    unfold Pn.isKid at h
    cases e2 : p.par with
    | none => rw [e2] at h; cases h
    | some z =>
      rw [e2] at h
      simp only [Bool.or_eq_true, decide_eq_true_eq] at h
      exact ⟨z, e2, h⟩
theorem near_fit {n : Nat} {w h : List Int} {ps : List Pn} {q : Prs} {ks : List Nat} (T : Tab n w h) (hS : OkS ps q) (F : FitB n w h ps q ks) {a b l : Nat} {s : Bool} (ha : sexOf ps a = some s) (hl : l ∈ lets) (hb : b ∈ nearOf ps q a l) :
    sexOf ps b = some (nextS s l) ∧ ck ks b = nextC w h s (ck ks a) l := by
  have cl : ∀ {x : Nat} {t : Bool}, sexOf ps x = some t → ck ks x < n := fun hx => ck_lt F (sexOf_lt hx)
  have hl : l = 102 ∨ l = 109 ∨ l = 115 ∨ l = 100 ∨ l = 112 ∨ l = 98 ∨ l = 122 := by simpa [lets] using hl
  unfold nearOf at hb
  by_cases e1 : l = 102
  · rw [if_pos e1] at hb
    cases e : parOf ps a with
    | none => rw [e] at hb; cases hb
    | some z =>
      rw [e] at hb
      obtain rfl : b = z.1 := List.mem_singleton.mp hb
      obtain ⟨p1, p2⟩ := parOf_ok hS e
      obtain ⟨k1, k2⟩ := F.kid a z e
      subst e1
      refine ⟨p1, ?_⟩
      show ck ks z.1 = ap (backOf h) (ck ks a)
      rw [k1, ap_back T.h (cl p1)]
  rw [if_neg e1] at hb
  by_cases e2 : l = 109
  · rw [if_pos e2] at hb
    cases e : parOf ps a with
    | none => rw [e] at hb; cases hb
    | some z =>
      rw [e] at hb
      obtain rfl : b = z.2 := List.mem_singleton.mp hb
      obtain ⟨p1, p2⟩ := parOf_ok hS e
      obtain ⟨k1, k2⟩ := F.kid a z e
      subst e2
      refine ⟨p2, ?_⟩
      show ck ks z.2 = ap w (ap (backOf h) (ck ks a))
      rw [k1, ap_back T.h (cl p1), k2]
  rw [if_neg e2] at hb
  by_cases e3 : l = 112
  · rw [if_pos e3] at hb
    subst e3
    cases s with
    | true =>
      rw [mates_man hS ha] at hb
      obtain ⟨t, ht, rfl⟩ := List.mem_map.mp hb
      obtain ⟨ht, e⟩ := List.mem_filter.mp ht
      have e := of_decide_eq_true e
      refine ⟨(hS.ok t ht).2, ?_⟩
      show ck ks t.2 = ap w (ck ks a)
      rw [← e]
      exact F.wed t ht
    | false =>
      rw [mates_woman hS ha] at hb
      obtain ⟨t, ht, rfl⟩ := List.mem_map.mp hb
      obtain ⟨ht, e⟩ := List.mem_filter.mp ht
      have e := of_decide_eq_true e
      have p1 := (hS.ok t ht).1
      refine ⟨p1, ?_⟩
      show ck ks t.1 = ap (backOf w) (ck ks a)
      rw [← e, F.wed t ht, ap_back T.w (cl p1)]
  rw [if_neg e3] at hb
  by_cases e4 : l ∈ [115, 100]
  · rw [if_pos e4] at hb
    obtain ⟨_, hb⟩ := List.mem_filter.mp hb
    rw [Bool.and_eq_true, decide_eq_true_eq] at hb
    obtain ⟨b1, b2⟩ := hb
    obtain ⟨z, hz, hza⟩ := isKid_cases b2
    obtain ⟨p1, p2⟩ := parOf_ok hS hz
    obtain ⟨k1, k2⟩ := F.kid b z hz
    have e5 : nextS s l = decide (l = 115) := by
      rcases hl with rfl | rfl | rfl | rfl | rfl | rfl | rfl <;> first | rfl | (exfalso; revert e4; decide)
    refine ⟨by rw [b1, e5], ?_⟩
    have e6 : nextC w h s (ck ks a) l = if s = true then ap h (ck ks a) else ap h (ap (backOf w) (ck ks a)) := by
      unfold nextC
      rw [if_neg e1, if_neg e2, if_neg (fun h => e3 h.1), if_neg e3]
      cases s with
      | true => rw [if_pos ⟨e4, rfl⟩, if_pos rfl]
      | false => rw [if_neg (fun h => by cases h.2), if_pos e4, if_neg (fun h => by cases h)]
    rw [e6]
    rcases hza with rfl | rfl
    · rw [p1] at ha
      cases ha
      rw [if_pos rfl]
      exact k1
    · rw [p2] at ha
      cases ha
      rw [if_neg (fun h => by cases h), k2, ap_back T.w (cl p1)]
      exact k1
  rw [if_neg e4] at hb
  cases e : parOf ps a with
  | none => rw [e] at hb; cases hb
  | some z =>
    rw [e] at hb
    obtain ⟨_, hb⟩ := List.mem_filter.mp hb
    rw [Bool.and_eq_true, Bool.and_eq_true, decide_eq_true_eq, decide_eq_true_eq] at hb
    obtain ⟨b1, b2, _⟩ := hb
    have k1 := (F.kid a z e).1
    have k2 := (F.kid b z b2).1
    have e5 : nextS s l = decide (l = 98) := by
      rcases hl with rfl | rfl | rfl | rfl | rfl | rfl | rfl <;> first | rfl | (exfalso; revert e1 e2 e3 e4; decide)
    have e6 : nextC w h s (ck ks a) l = ck ks a := by
      unfold nextC
      rw [if_neg e1, if_neg e2, if_neg (fun h => e3 h.1), if_neg e3, if_neg (fun h => e4 h.1), if_neg e4]
    exact ⟨by rw [b1, e5], by rw [e6, k1, k2]⟩
theorem reach_fit {n : Nat} {w h : List Int} {ps : List Pn} {q : Prs} {ks : List Nat} (T : Tab n w h) (hS : OkS ps q) (F : FitB n w h ps q ks) {a : Nat} {s : Bool} (ha : sexOf ps a = some s) : ∀ {ls : List Nat}, (∀ l ∈ ls, l ∈ lets) → ∀ b ∈ reach ps q a ls, sexOf ps b = some (led w h ls (s, ck ks a)).1 ∧ ck ks b = (led w h ls (s, ck ks a)).2 := by
  intro ls
  induction hn : ls.length generalizing ls with
  | zero =>
    intro _ b hb
    have : ls = [] := List.length_eq_zero_iff.mp hn
    subst this
    obtain rfl : b = a := List.mem_singleton.mp hb
    exact ⟨ha, rfl⟩
  | succ m ih =>
    intro hl b hb
    obtain ⟨l0, x, rfl⟩ : ∃ l0 x, ls = l0 ++ [x] := ⟨ls.dropLast, ls.getLast (by intro e; rw [e] at hn; cases hn), (List.dropLast_concat_getLast _).symm⟩
    have hn0 : l0.length = m := by simpa using hn
    rw [reach_snoc] at hb
    rw [risen_mem] at hb
    · obtain ⟨c, hc, hb⟩ := List.mem_flatMap.mp hb
      obtain ⟨i1, i2⟩ := ih hn0 (fun l h => hl l (List.mem_append_left _ h)) c hc
      have := near_fit T hS F i1 (hl x (by simp)) hb
      rw [i2] at this
      rw [led_snoc]
      exact this
    · intro y hy
      obtain ⟨c, hc, hy⟩ := List.mem_flatMap.mp hy
      exact near_lt hS hy
/-- the comer by the table -/
def womenOf (ps : List Pn) (ks : List Nat) (br : Nat) : List Nat := (List.range ps.length).filter fun a => decide (sexOf ps a = some false) && decide (ck ks a = br)
def fitOf (w h : List Int) (ps : List Pn) (ks : List Nat) (cell : Int) : Cm × Nat :=
  if cell / 2 % 5 = 0 ∨ menOf ps true = [] then (.new (decide (cell % 2 = 0)), (cell / 10 % (w.length : Int)).toNat)
  else if womenOf ps ks (ap w (ck ks (pick (menOf ps true) (cell / 10)))) = [] then (.new false, ap w (ck ks (pick (menOf ps true) (cell / 10))))
  else if cell / 2 % 5 = 4 then (.wed (pick (menOf ps true) (cell / 10)) (pick (womenOf ps ks (ap w (ck ks (pick (menOf ps true) (cell / 10))))) (cell / 97)), 0)
  else (.born (decide (cell % 2 = 0)) (pick (menOf ps true) (cell / 10)) (pick (womenOf ps ks (ap w (ck ks (pick (menOf ps true) (cell / 10))))) (cell / 97)), ap h (ck ks (pick (menOf ps true) (cell / 10))))
def comD4 (c : Cm) (k : Nat) : D := match c with
  | .new s => .tup [sxD s, .non, .non, .int (k : Int)]
  | .wed m w => .tup [.str (Str.ofString "wed"), .int (m : Int), .int (w : Int), .int (k : Int)]
  | .born s m w => .tup [sxD s, .int (m : Int), .int (w : Int), .int (k : Int)]
theorem mem_women {ps : List Pn} {ks : List Nat} {br a : Nat} : a ∈ womenOf ps ks br ↔ sexOf ps a = some false ∧ ck ks a = br := by
  unfold womenOf
  rw [List.mem_filter, List.mem_range, Bool.and_eq_true, decide_eq_true_eq, decide_eq_true_eq]
  exact ⟨fun h => h.2, fun h => ⟨sexOf_lt h.1, h⟩⟩
/-- what a comer asks of the table -/
def CmFit (n : Nat) (w h : List Int) (ks : List Nat) : Cm → Nat → Prop
  | .new _, k => k < n
  | .wed m v, _ => ck ks v = ap w (ck ks m)
  | .born _ m v, k => ck ks v = ap w (ck ks m) ∧ k = ap h (ck ks m)
theorem fitOf_ok {n : Nat} {w h : List Int} {ps : List Pn} {q : Prs} {ks : List Nat} (T : Tab n w h) (F : FitB n w h ps q ks) (cell : Int) : CmOk ps (fitOf w h ps ks cell).1 ∧ CmFit n w h ks (fitOf w h ps ks cell).1 (fitOf w h ps ks cell).2 := by
  unfold fitOf
  split
  · refine ⟨trivial, ?_⟩
    show (cell / 10 % (w.length : Int)).toNat < n
    have h1 := T.w.len
    have h2 := T.one
    have h3 := Int.emod_nonneg (cell / 10) (b := (w.length : Int)) (by omega)
    have h4 := Int.emod_lt_of_pos (cell / 10) (b := (w.length : Int)) (by omega)
    omega
  · rename_i hc
    simp only [not_or] at hc
    obtain ⟨_, _, _, p1⟩ := pick_mem hc.2 (cell / 10)
    have p1 := mem_men.mp p1
    split
    · exact ⟨trivial, (T.w.ap (ck_lt F (sexOf_lt p1))).2⟩
    · rename_i hw
      obtain ⟨_, _, _, p2⟩ := pick_mem hw (cell / 97)
      have p2 := mem_women.mp p2
      split
      · exact ⟨⟨p1, p2.1⟩, p2.2⟩
      · exact ⟨⟨p1, p2.1⟩, p2.2, rfl⟩
def stepK (ks : List Nat) : Cm → Nat → List Nat
  | .wed _ _, _ => ks
  | _, k => ks ++ [k]
theorem parOf_app {ps : List Pn} {p : Pn} {b : Nat} {z : Nat × Nat} (h : parOf (ps ++ [p]) b = some z) : (b < ps.length ∧ parOf ps b = some z) ∨ (b = ps.length ∧ p.par = some z) := by
  unfold parOf at h ⊢
  by_cases hb : b < ps.length
  · rw [List.getElem?_append_left hb] at h
    exact .inl ⟨hb, h⟩
  · rw [List.getElem?_append_right (by omega)] at h
    cases e : b - ps.length with
    | zero => rw [e] at h; exact .inr ⟨by omega, h⟩
    | succ m => rw [e] at h; cases h
theorem mem_addp {q : Prs} {m w : Nat} {t : Nat × Nat} (h : t ∈ addp q m w) : t ∈ q ∨ t = (m, w) := by
  unfold addp at h
  split at h
  · exact .inl h
  · simpa using h
theorem step_fit {n : Nat} {w h : List Int} {ps : List Pn} {q : Prs} {ks : List Nat} (T : Tab n w h) (hS : OkS ps q) (F : FitB n w h ps q ks) {c : Cm} {k : Nat} (hc : CmOk ps c) (hf : CmFit n w h ks c k) : FitB n w h (stepS ps q c).1 (stepS ps q c).2 (stepK ks c k) := by
  have hl := F.len
  have pl : ∀ t ∈ q, t.1 < ks.length ∧ t.2 < ks.length := fun t ht => by
    have := hS.ok t ht
    rw [hl]
    exact ⟨sexOf_lt this.1, sexOf_lt this.2⟩
  have kl : ∀ {b z}, parOf ps b = some z → b < ks.length ∧ z.1 < ks.length ∧ z.2 < ks.length := fun {b z} hb => by
    have := parOf_ok hS hb
    rw [hl]
    refine ⟨?_, sexOf_lt this.1, sexOf_lt this.2⟩
    unfold parOf at hb
    cases e : ps[b]? with
    | none => rw [e] at hb; cases hb
    | some p => exact (List.getElem?_eq_some_iff.mp e).1
  cases c with
  | new s =>
    refine ⟨by simp [stepS, stepK, hl], fun x hx => ?_, fun t ht => ?_, fun b z hb => ?_⟩
    · rcases List.mem_append.mp hx with hx | hx
      · exact F.lt x hx
      · rw [List.mem_singleton.mp hx]; exact hf
    · have := pl t ht
      show ck (ks ++ [k]) t.2 = ap w (ck (ks ++ [k]) t.1)
      rw [ck_app this.1, ck_app this.2]
      exact F.wed t ht
    · rcases parOf_app hb with ⟨_, hb⟩ | ⟨_, hb⟩
      · have := kl hb
        show ck (ks ++ [k]) b = ap h (ck (ks ++ [k]) z.1) ∧ ck (ks ++ [k]) z.2 = ap w (ck (ks ++ [k]) z.1)
        rw [ck_app this.1, ck_app this.2.1, ck_app this.2.2]
        exact F.kid b z hb
      · cases hb
  | wed m v =>
    refine ⟨hl, F.lt, fun t ht => ?_, F.kid⟩
    rcases mem_addp ht with ht | rfl
    · exact F.wed t ht
    · exact hf
  | born s m v =>
    have hm : m < ks.length := by rw [hl]; exact sexOf_lt hc.1
    have hv : v < ks.length := by rw [hl]; exact sexOf_lt hc.2
    obtain ⟨f1, f2⟩ := hf
    refine ⟨by simp [stepS, stepK, hl], fun x hx => ?_, fun t ht => ?_, fun b z hb => ?_⟩
    · rcases List.mem_append.mp hx with hx | hx
      · exact F.lt x hx
      · rw [List.mem_singleton.mp hx, f2]
        exact (T.h.ap (ck_lt F (sexOf_lt hc.1))).2
    · show ck (ks ++ [k]) t.2 = ap w (ck (ks ++ [k]) t.1)
      rcases mem_addp ht with ht | rfl
      · have := pl t ht
        rw [ck_app this.1, ck_app this.2]
        exact F.wed t ht
      · rw [ck_app hm, ck_app hv]
        exact f1
    · show ck (ks ++ [k]) b = ap h (ck (ks ++ [k]) z.1) ∧ ck (ks ++ [k]) z.2 = ap w (ck (ks ++ [k]) z.1)
      rcases parOf_app hb with ⟨_, hb⟩ | ⟨e, hb⟩
      · have := kl hb
        rw [ck_app this.1, ck_app this.2.1, ck_app this.2.2]
        exact F.kid b z hb
      · cases hb
        rw [e, ← hl, ck_last, ck_app hm, ck_app hv]
        exact ⟨f2, f1⟩
theorem FitB.nil (n : Nat) (w h : List Int) : FitB n w h [] [] [] := ⟨rfl, (fun _ h => by cases h), (fun _ h => by cases h), fun b z h => by simp [parOf] at h⟩
theorem ck_get {ks : List Nat} {a : Nat} (h : a < ks.length) : ks[a]? = some (ck ks a) := getD_get h
theorem lc_women (ps : List Pn) (ks : List Nat) (br : Nat) : ((rngD 0 ps.length).filter fun d => match d with | .int a => decide (sexOf ps a.toNat = some false) && decide (ck ks a.toNat = br) | _ => false).map (fun d => d) = (cI (womenOf ps ks br)).map .int :=
  lc_rngN _ _ _ fun b _ => by simp
theorem women_nil {ps : List Pn} {ks : List Nat} {br : Nat} : womenOf ps ks br = [] ↔ (cI (womenOf ps ks br)).length = 0 := by rw [cI_len, List.length_eq_zero_iff]
theorem fit_test {ps : List Pn} {b : Bool} {t : Str} (ht : ∀ s : Bool, decide (sx s = t) = decide (s = b)) {i : Nat} (hi : i < ps.length) : ∃ p, ps[i]? = some p ∧ decide (sx p.sex = t) = decide (sexOf ps i = some b) := by
  have e : ps[i]? = some ps[i] := List.getElem?_eq_getElem hi
  refine ⟨ps[i], e, ?_⟩
  rw [ht, sexOf_get e]
  exact decide_eq_decide.mpr ⟨fun h => by rw [h], fun h => Option.some.inj h⟩
theorem t_man (s : Bool) : decide (sx s = Str.ofString "man") = decide (s = true) := by cases s <;> decide +kernel
theorem t_woman (s : Bool) : decide (sx s = Str.ofString "woman") = decide (s = false) := by cases s <;> decide +kernel
theorem s_woman : Str.ofString "woman" = sx false := rfl
theorem comD4_nl (c : Cm) (k : Nat) : (comD4 c k).nl = true := by cases c <;> simp [comD4, D.nl, nls]
theorem comD4_imm (c : Cm) (k : Nat) : (comD4 c k).imm = true := by cases c <;> rfl
def fitGo (w h : List Int) (r : (List Pn × Prs) × List Nat) (c : Int) : (List Pn × Prs) × List Nat :=
  if r.1.1.length < 58 then
    let f := fitOf w h r.1.1 r.2 c
    (stepS r.1.1 r.1.2 f.1, stepK r.2 f.1 f.2)
  else r
def fitAll (w h : List Int) (cells : List Int) : (List Pn × Prs) × List Nat := cells.foldl (fitGo w h) (([], []), [])
theorem fitAll_snoc (w h : List Int) (cs : List Int) (c : Int) : fitAll w h (cs ++ [c]) = fitGo w h (fitAll w h cs) c := by unfold fitAll; rw [List.foldl_append]; rfl
theorem fitGo_ok {n : Nat} {w h : List Int} (T : Tab n w h) : ∀ (cs : List Int) (r : (List Pn × Prs) × List Nat) (m : Nat), OkS r.1.1 r.1.2 → FitB n w h r.1.1 r.1.2 r.2 → r.1.1.length ≤ 58 → r.1.2.length ≤ m →
    OkS (cs.foldl (fitGo w h) r).1.1 (cs.foldl (fitGo w h) r).1.2 ∧ FitB n w h (cs.foldl (fitGo w h) r).1.1 (cs.foldl (fitGo w h) r).1.2 (cs.foldl (fitGo w h) r).2 ∧ (cs.foldl (fitGo w h) r).1.1.length ≤ 58 ∧ (cs.foldl (fitGo w h) r).1.2.length ≤ m + cs.length
  | [], r, m, h1, h2, h3, h4 => ⟨h1, h2, h3, h4⟩
  | c :: cs, r, m, h1, h2, h3, h4 => by
    rw [List.foldl_cons]
    have key : OkS (fitGo w h r c).1.1 (fitGo w h r c).1.2 ∧ FitB n w h (fitGo w h r c).1.1 (fitGo w h r c).1.2 (fitGo w h r c).2 ∧ (fitGo w h r c).1.1.length ≤ 58 ∧ (fitGo w h r c).1.2.length ≤ m + 1 := by
      unfold fitGo
      by_cases h58 : r.1.1.length < 58
      · rw [if_pos h58]
        obtain ⟨f1, f2⟩ := fitOf_ok T h2 c
        have sl := stepS_len r.1.1 r.1.2 (fitOf w h r.1.1 r.2 c).1
        exact ⟨stepS_ok h1 f1, step_fit T h1 h2 f1 f2, by dsimp only; omega, by dsimp only; omega⟩
      · rw [if_neg h58]
        exact ⟨h1, h2, h3, by omega⟩
    obtain ⟨k1, k2, k3, k4⟩ := key
    obtain ⟨g1, g2, g3, g4⟩ := fitGo_ok T cs (fitGo w h r c) (m + 1) k1 k2 k3 k4
    exact ⟨g1, g2, g3, by rw [List.length_cons]; omega⟩
theorem fitAll_ok {n : Nat} {w h : List Int} (T : Tab n w h) (cs : List Int) : OkS (fitAll w h cs).1.1 (fitAll w h cs).1.2 ∧ FitB n w h (fitAll w h cs).1.1 (fitAll w h cs).1.2 (fitAll w h cs).2 ∧ (fitAll w h cs).1.1.length ≤ 58 ∧ (fitAll w h cs).1.2.length ≤ cs.length := by
  have := fitGo_ok T cs (([], []), []) 0 OkS.nil (FitB.nil n w h) (by simp) (by simp)
  rw [Nat.zero_add] at this
  exact this
theorem cutD_drop (ns : List Int) (k : Nat) : cutD (ns.map D.int) (some (k : Int)) none = (ns.drop k).map .int := by
  unfold cutD
  have e1 : HT.sIx (ns.map D.int).length 0 (some (k : Int)) = min k ns.length := by rw [List.length_map]; exact HT.sIx_nat _ _ k
  rw [e1, HT.sIx_none, List.take_of_length_le (by rw [List.length_drop]; omega)]
  by_cases h : k ≤ ns.length
  · rw [Nat.min_eq_left h, List.map_drop]
  · rw [Nat.min_eq_right (by omega), List.drop_of_length_le (by rw [List.length_map]; omega), List.drop_of_length_le (by omega)]
    rfl
theorem one_set {xs : List Int} {k : Int} (h : ∀ x ∈ xs, x = k) : ∃ out : List Int, out.Nodup ∧ (∀ j, j ∈ out ↔ j ∈ xs) ∧ out.length ≤ 1 := by
  cases xs with
  | nil => exact ⟨[], List.nodup_nil, fun j => Iff.rfl, Nat.zero_le _⟩
  | cons x xs =>
    refine ⟨[k], by simp, fun j => ⟨fun hj => ?_, fun hj => ?_⟩, Nat.le_refl _⟩
    · rw [List.mem_singleton.mp hj, ← h x List.mem_cons_self]; exact List.mem_cons_self
    · rw [h j hj]; simp
theorem lc_ck (ks : List Nat) (bs : List Nat) : (((cI bs).map D.int).filter fun _ => true).map (fun d => match d with | .int b => D.int ((ck ks b.toNat : Nat) : Int) | _ => d) = (cI (bs.map (ck ks))).map .int := by
  rw [flt_all]
  induction bs with
  | nil => rfl
  | cons b bs ih =>
    unfold cI at ih ⊢
    simp only [List.map_cons, ih]
    rfl
theorem exOpt (p : Nat → Bool) : ∀ n : Nat, ∃ r, (∀ c, c < n → p c = false) ∧ r = none ∨ ∃ c, c < n ∧ p c = true ∧ (∀ d, d < c → p d = false) ∧ r = some c
  | 0 => ⟨none, .inl ⟨fun c h => absurd h (Nat.not_lt_zero c), rfl⟩⟩
  | n + 1 => by
    obtain ⟨r, h | ⟨c, h1, h2, h3, h4⟩⟩ := exOpt p n
    · cases e : p n with
      | true => exact ⟨some n, .inr ⟨n, Nat.lt_succ_self n, e, fun d hd => h.1 d hd, rfl⟩⟩
      | false =>
        refine ⟨none, .inl ⟨fun c hc => ?_, rfl⟩⟩
        by_cases e2 : c = n
        · rw [e2]; exact e
        · exact h.1 c (by omega)
    · exact ⟨r, .inr ⟨c, by omega, h2, h3, h4⟩⟩
end KT
namespace KT
open PySem PySem.Spec PyProof.Rows L2
/-! who hangs together, and what is told -/
inductive Rch (N : Nat → Nat → List (Nat × Nat)) (a c : Nat) : Nat → Nat → Prop
  | refl : Rch N a c a c
  | step {b k b' k' : Nat} : Rch N a c b k → (b', k') ∈ N b k → Rch N a c b' k'
def Clash (N : Nat → Nat → List (Nat × Nat)) (a c : Nat) : Prop := ∃ b k k', k ≠ k' ∧ Rch N a c b k ∧ Rch N a c b k'
def lk (P : List (Nat × Nat)) (b : Nat) : Option Nat := (P.find? fun x => decide (x.1 = b)).map (·.2)
theorem lk_mem {P : List (Nat × Nat)} {b k : Nat} (h : lk P b = some k) : (b, k) ∈ P := by
  unfold lk at h
  cases e : P.find? fun x => decide (x.1 = b) with
  | none => rw [e] at h; cases h
  | some x =>
    rw [e] at h
    have h1 := List.mem_of_find?_eq_some e
    have h2 : x.1 = b := by have := List.find?_some e; simpa using this
    have h3 : x.2 = k := Option.some.inj h
    rw [← h2, ← h3]
    exact h1
theorem lk_none {P : List (Nat × Nat)} {b : Nat} : lk P b = none ↔ b ∉ P.map Prod.fst := by
  unfold lk
  rw [Option.map_eq_none_iff, List.find?_eq_none]
  simp only [decide_eq_true_eq, List.mem_map, not_exists, not_and]
theorem lk_app {P : List (Nat × Nat)} {b k : Nat} (h : lk P b = some k) (R : List (Nat × Nat)) : lk (P ++ R) b = some k := by
  unfold lk at h ⊢
  rw [List.find?_append]
  cases e : P.find? fun x => decide (x.1 = b) with
  | none => rw [e] at h; cases h
  | some x => rw [e] at h; simpa using h
theorem lk_new {P : List (Nat × Nat)} {y : Nat × Nat} (h : lk P y.1 = none) (b : Nat) : lk (P ++ [y]) b = if b = y.1 then some y.2 else lk P b := by
  by_cases e : b = y.1
  · rw [if_pos e, e]
    unfold lk at h ⊢
    rw [List.find?_append]
    rw [Option.map_eq_none_iff] at h
    rw [h]
    simp
  · rw [if_neg e]
    unfold lk
    rw [List.find?_append]
    cases e2 : P.find? fun x => decide (x.1 = b) with
    | some x => simp
    | none => simp [Ne.symm e]
theorem mem_lk {P : List (Nat × Nat)} (nd : (P.map Prod.fst).Nodup) {x : Nat × Nat} (h : x ∈ P) : lk P x.1 = some x.2 := by
  induction P with
  | nil => cases h
  | cons y P ih =>
    rw [List.map_cons, List.nodup_cons] at nd
    unfold lk at ih ⊢
    rw [List.find?_cons]
    rcases List.mem_cons.mp h with rfl | h
    · simp
    · have : ¬ y.1 = x.1 := fun e => nd.1 (e ▸ List.mem_map.mpr ⟨x, h, rfl⟩)
      simp only [this, decide_false]
      exact ih nd.2 h
structure Spr (N : Nat → Nat → List (Nat × Nat)) (a c : Nat) (P : List (Nat × Nat)) (i : Nat) : Prop where
  nd : (P.map Prod.fst).Nodup
  hd : lk P a = some c
  rch : ∀ x ∈ P, Rch N a c x.1 x.2
  le : i ≤ P.length
  cl : ∀ j, j < i → ∀ x, P[j]? = some x → ∀ y ∈ N x.1 x.2, lk P y.1 = some y.2
theorem Spr.init (N : Nat → Nat → List (Nat × Nat)) (a c : Nat) : Spr N a c [(a, c)] 0 :=
  ⟨by simp, by simp [lk], fun x hx => by rw [List.mem_singleton.mp hx]; exact .refl, Nat.zero_le _, fun j h => absurd h (Nat.not_lt_zero j)⟩
theorem Spr.new {N : Nat → Nat → List (Nat × Nat)} {a c : Nat} {P : List (Nat × Nat)} {i : Nat} (h : Spr N a c P i) {y : Nat × Nat} (hy : lk P y.1 = none) (hr : Rch N a c y.1 y.2) : Spr N a c (P ++ [y]) i := by
  refine ⟨?_, lk_app h.hd _, fun x hx => ?_, by rw [List.length_append]; have := h.le; omega, fun j hj x hx z hz => ?_⟩
  · rw [List.map_append, List.nodup_append]
    refine ⟨h.nd, by simp, fun u hu v hv => ?_⟩
    rw [List.map_singleton, List.mem_singleton] at hv
    subst hv
    exact fun e => lk_none.mp hy (e ▸ hu)
  · rcases List.mem_append.mp hx with hx | hx
    · exact h.rch x hx
    · rw [List.mem_singleton.mp hx]; exact hr
  · have := h.le
    rw [List.getElem?_append_left (by omega)] at hx
    exact lk_app (h.cl j hj x hx z hz) _
theorem Spr.next {N : Nat → Nat → List (Nat × Nat)} {a c : Nat} {P : List (Nat × Nat)} {i : Nat} (h : Spr N a c P i) {x : Nat × Nat} (hx : P[i]? = some x) (hc : ∀ y ∈ N x.1 x.2, lk P y.1 = some y.2) : Spr N a c P (i + 1) := by
  refine ⟨h.nd, h.hd, h.rch, (List.getElem?_eq_some_iff.mp hx).1, fun j hj z hz y hy => ?_⟩
  by_cases e : j = i
  · subst e
    rw [hx] at hz
    cases hz
    exact hc y hy
  · exact h.cl j (by omega) z hz y hy
theorem Spr.all {N : Nat → Nat → List (Nat × Nat)} {a c : Nat} {P : List (Nat × Nat)} (h : Spr N a c P P.length) {b k : Nat} : Rch N a c b k ↔ lk P b = some k := by
  constructor
  · intro hr
    induction hr with
    | refl => exact h.hd
    | step _ hm ih =>
      obtain ⟨j, hj⟩ := List.mem_iff_getElem?.mp (lk_mem ih)
      exact h.cl j (List.getElem?_eq_some_iff.mp hj).1 _ hj _ hm
  · intro hl
    exact h.rch _ (lk_mem hl)
theorem Spr.noClash {N : Nat → Nat → List (Nat × Nat)} {a c : Nat} {P : List (Nat × Nat)} (h : Spr N a c P P.length) : ¬ Clash N a c := fun ⟨b, k, k', hne, h1, h2⟩ => by
  rw [h.all] at h1 h2
  rw [h1] at h2
  exact hne (Option.some.inj h2)
/-- another class told -/
theorem Spr.clash {N : Nat → Nat → List (Nat × Nat)} {a c : Nat} {P : List (Nat × Nat)} {i : Nat} (h : Spr N a c P i) {y : Nat × Nat} {k : Nat} (hy : lk P y.1 = some k) (hne : k ≠ y.2) (hr : Rch N a c y.1 y.2) : Clash N a c := ⟨y.1, k, y.2, hne, h.rch _ (lk_mem hy), hr⟩
def toldP (P : List (Nat × Nat)) (n : Nat) : List (Option Nat) := (List.range n).map (lk P)
theorem toldP_get {P : List (Nat × Nat)} {n b : Nat} (h : b < n) : (toldP P n)[b]? = some (lk P b) := by simp [toldP, h]
theorem toldP_new {P : List (Nat × Nat)} {y : Nat × Nat} {n : Nat} (h : lk P y.1 = none) (hn : y.1 < n) : toldP (P ++ [y]) n = (toldP P n).set y.1 (some y.2) := by
  refine List.ext_getElem? fun b => ?_
  rw [List.getElem?_set]
  by_cases hb : b < n
  · rw [toldP_get hb, lk_new h]
    by_cases e : b = y.1
    · rw [if_pos e, if_pos e.symm, if_pos (by simp [toldP]; omega)]
    · rw [if_neg e, if_neg (Ne.symm e), toldP_get hb]
  · rw [List.getElem?_eq_none (by simp [toldP]; omega), if_neg (by omega), List.getElem?_eq_none (by simp [toldP]; omega)]
open Classical in
noncomputable def hangR (N : Nat → Nat → List (Nat × Nat)) (n a c : Nat) : Option (List (Option Nat)) :=
  if Clash N a c then none else some ((List.range n).map fun b => if h : ∃ k, Rch N a c b k then some (Classical.choose h) else none)
theorem hangR_none {N : Nat → Nat → List (Nat × Nat)} {n a c : Nat} (h : Clash N a c) : hangR N n a c = none := by unfold hangR; rw [if_pos h]
theorem hangR_some {N : Nat → Nat → List (Nat × Nat)} {n a c : Nat} {P : List (Nat × Nat)} (h : Spr N a c P P.length) : hangR N n a c = some (toldP P n) := by
  unfold hangR
  rw [if_neg h.noClash]
  unfold toldP
  congr 1
  refine List.map_congr_left fun b _ => ?_
  by_cases e : ∃ k, Rch N a c b k
  · rw [dif_pos e]
    exact (h.all.mp (Classical.choose_spec e)).symm
  · rw [dif_neg e]
    cases e2 : lk P b with
    | none => rfl
    | some k => exact absurd ⟨k, h.all.mpr e2⟩ e
open Classical in
theorem hangR_get {N : Nat → Nat → List (Nat × Nat)} {n a c : Nat} {T : List (Option Nat)} (h : hangR N n a c = some T) : ¬ Clash N a c ∧ T.length = n ∧ ∀ b, b < n → ∃ t, T[b]? = some t ∧ ∀ k, t = some k ↔ Rch N a c b k := by
  unfold hangR at h
  by_cases hc : Clash N a c
  · rw [if_pos hc] at h; cases h
  rw [if_neg hc] at h
  cases h
  refine ⟨hc, by simp, fun b hb => ⟨if h : ∃ k, Rch N a c b k then some (Classical.choose h) else none, by rw [List.getElem?_map, List.getElem?_range hb]; rfl, fun k => ?_⟩⟩
  by_cases e : ∃ k, Rch N a c b k
  · rw [dif_pos e]
    have hs := Classical.choose_spec e
    generalize Classical.choose e = k0 at hs
    exact ⟨fun he => by cases he; exact hs, fun hk => by
      by_cases e3 : k0 = k
      · rw [e3]
      · exact absurd ⟨b, k0, k, e3, hs, hk⟩ hc⟩
  · rw [dif_neg e]
    exact ⟨fun he => (by cases he), fun hk => absurd ⟨k, hk⟩ e⟩
/-- two lists of neighbours that differ by what stays -/
theorem rch_sub {N N' : Nat → Nat → List (Nat × Nat)} {V : Nat → Nat → Prop} {a c : Nat} (hV : V a c) (keep : ∀ b k, V b k → ∀ y ∈ N b k, V y.1 y.2) (sub : ∀ b k, V b k → ∀ y ∈ N b k, y ∈ N' b k ∨ y = (b, k)) {b k : Nat} (h : Rch N a c b k) : Rch N' a c b k ∧ V b k := by
  induction h with
  | refl => exact ⟨.refl, hV⟩
  | step _ hm ih =>
    refine ⟨?_, keep _ _ ih.2 _ hm⟩
    rcases sub _ _ ih.2 _ hm with h | h
    · exact .step ih.1 h
    · obtain ⟨rfl, rfl⟩ := Prod.mk.inj h
      exact ih.1
/-! persons alone -/
inductive Rc (N : Nat → List Nat) (a : Nat) : Nat → Prop
  | refl : Rc N a a
  | step {b b' : Nat} : Rc N a b → b' ∈ N b → Rc N a b'
structure Sp1 (N : Nat → List Nat) (a : Nat) (P : List Nat) (i : Nat) : Prop where
  nd : P.Nodup
  hd : a ∈ P
  rch : ∀ x ∈ P, Rc N a x
  le : i ≤ P.length
  cl : ∀ j, j < i → ∀ x, P[j]? = some x → ∀ y ∈ N x, y ∈ P
theorem Sp1.init (N : Nat → List Nat) (a : Nat) : Sp1 N a [a] 0 :=
  ⟨by simp, by simp, fun x hx => by rw [List.mem_singleton.mp hx]; exact .refl, Nat.zero_le _, fun j h => absurd h (Nat.not_lt_zero j)⟩
theorem addN_pre (xs : List Nat) (y : Nat) : ∃ r, addN xs y = xs ++ r := by
  unfold addN
  split
  · exact ⟨[], by simp⟩
  · exact ⟨[y], rfl⟩
theorem addA_pre : ∀ (ys xs : List Nat), ∃ r, addA xs ys = xs ++ r
  | [], xs => ⟨[], by simp [addA]⟩
  | y :: ys, xs => by
    obtain ⟨r1, e1⟩ := addN_pre xs y
    obtain ⟨r2, e2⟩ := addA_pre ys (addN xs y)
    refine ⟨r1 ++ r2, ?_⟩
    show addA (addN xs y) ys = _
    rw [e2, e1, List.append_assoc]
theorem Sp1.next {N : Nat → List Nat} {a : Nat} {P : List Nat} {i : Nat} (h : Sp1 N a P i) {x : Nat} (hx : P[i]? = some x) {L : List Nat} (hL : ∀ y, y ∈ L ↔ y ∈ N x) : Sp1 N a (addA P L) (i + 1) := by
  obtain ⟨r, e⟩ := addA_pre L P
  have hi := (List.getElem?_eq_some_iff.mp hx).1
  refine ⟨addA_nodup h.nd, addA_mem.mpr (.inl h.hd), fun z hz => ?_, by rw [e, List.length_append]; omega, fun j hj z hz y hy => ?_⟩
  · rcases addA_mem.mp hz with hz | hz
    · exact h.rch z hz
    · exact .step (h.rch x (List.mem_of_getElem? hx)) ((hL z).mp hz)
  · rw [e, List.getElem?_append_left (by omega)] at hz
    by_cases e2 : j = i
    · subst e2
      rw [hx] at hz
      cases hz
      exact addA_mem.mpr (.inr ((hL y).mpr hy))
    · exact addA_mem.mpr (.inl (h.cl j (by omega) z hz y hy))
theorem Sp1.all {N : Nat → List Nat} {a : Nat} {P : List Nat} (h : Sp1 N a P P.length) {b : Nat} : Rc N a b ↔ b ∈ P := by
  constructor
  · intro hr
    induction hr with
    | refl => exact h.hd
    | step _ hm ih =>
      obtain ⟨j, hj⟩ := List.mem_iff_getElem?.mp ih
      exact h.cl j (List.getElem?_eq_some_iff.mp hj).1 _ hj _ hm
  · exact h.rch b
open Classical in
noncomputable def compOf (N : Nat → List Nat) (n a : Nat) : List Nat := (List.range n).filter fun b => @decide (Rc N a b) (Classical.propDecidable _)
open Classical in
theorem mem_comp {N : Nat → List Nat} {n a b : Nat} : b ∈ compOf N n a ↔ b < n ∧ Rc N a b := by
  unfold compOf
  rw [List.mem_filter, List.mem_range]
  exact and_congr_right fun _ => ⟨fun h => @of_decide_eq_true _ (Classical.propDecidable _) h, fun h => @decide_eq_true _ (Classical.propDecidable _) h⟩
theorem comp_pw (N : Nat → List Nat) (n a : Nat) : (compOf N n a).Pairwise (· < ·) := (List.pairwise_lt_range (n := n)).filter _
/-! the bonds of the book -/
def mateC (w : List Int) (s : Bool) (c : Nat) : Nat := if s = true then ap w c else ap (backOf w) c
def kidC (w h : List Int) (s : Bool) (c : Nat) : Nat := if s = true then ap h c else ap h (ap (backOf w) c)
def sexB (ps : List Pn) (a : Nat) : Bool := (sexOf ps a).getD true
theorem sexB_of {ps : List Pn} {a : Nat} {s : Bool} (h : sexOf ps a = some s) : sexB ps a = s := by unfold sexB; rw [h]; rfl
def sMates (q : Prs) (a : Nat) : List Nat := (srt (cI (mates q a))).map Int.toNat
theorem cI_toNat {xs : List Int} (h : ∀ x ∈ xs, 0 ≤ x) : cI (xs.map Int.toNat) = xs := by
  unfold cI
  rw [List.map_map]
  exact (List.map_congr_left fun x hx => Int.toNat_of_nonneg (h x hx)).trans (List.map_id _)
theorem cI_nonneg {xs : List Nat} : ∀ x ∈ cI xs, 0 ≤ x := fun x hx => by
  obtain ⟨n, _, rfl⟩ := cI_memZ.mp hx
  omega
theorem sMates_cI (q : Prs) (a : Nat) : cI (sMates q a) = srt (cI (mates q a)) := cI_toNat fun x hx => cI_nonneg x ((srt_perm _).mem_iff.mp hx)
theorem mem_sMates {q : Prs} {a b : Nat} : b ∈ sMates q a ↔ b ∈ mates q a := by
  rw [← cI_mem, sMates_cI, (srt_perm _).mem_iff, cI_mem]
def parB (ps : List Pn) (w h : List Int) (a c : Nat) : List (Nat × Nat) := match parOf ps a with
  | none => []
  | some z => [(z.1, ap (backOf h) c), (z.2, ap w (ap (backOf h) c))]
def bondsOf (ps : List Pn) (q : Prs) (w h : List Int) (a c : Nat) : List (Nat × Nat) :=
  (sMates q a).map (fun b => (b, mateC w (sexB ps a) c)) ++ (kids ps a).map (fun b => (b, kidC w h (sexB ps a) c)) ++ parB ps w h a c
/-- the law's own -/
def groomC (ps : List Pn) (w : List Int) (a c : Nat) : Nat := if sexB ps a = true then c else ap (backOf w) c
def nearL (ps : List Pn) (q : Prs) (w h : List Int) (a c : Nat) : List (Nat × Nat) :=
  (q.flatMap fun t => if a = t.1 ∨ a = t.2 then [(t.1, groomC ps w a c), (t.2, ap w (groomC ps w a c))] else []) ++ (kids ps a).map (fun b => (b, ap h (groomC ps w a c))) ++ parB ps w h a c
theorem mates_pair {ps : List Pn} {q : Prs} (hS : OkS ps q) {a b : Nat} : b ∈ mates q a ↔ (a, b) ∈ q ∨ (b, a) ∈ q := by
  unfold mates
  simp only [List.mem_append, List.mem_map, List.mem_filter, decide_eq_true_eq]
  constructor
  · rintro (⟨t, ⟨h1, rfl⟩, rfl⟩ | ⟨t, ⟨h1, rfl⟩, rfl⟩)
    · exact .inl h1
    · exact .inr h1
  · rintro (h | h)
    · exact .inl ⟨_, ⟨h, rfl⟩, rfl⟩
    · exact .inr ⟨_, ⟨h, rfl⟩, rfl⟩
def VV (ps : List Pn) (n : Nat) (b k : Nat) : Prop := b < ps.length ∧ k < n
theorem kid_lt {ps : List Pn} {a b : Nat} (h : b ∈ kids ps a) : b < ps.length := List.mem_range.mp (List.mem_filter.mp h).1
theorem bonds_keep {n : Nat} {w h : List Int} {ps : List Pn} {q : Prs} (T : Tab n w h) (hS : OkS ps q) (b k : Nat) (hv : VV ps n b k) : ∀ y ∈ bondsOf ps q w h b k, VV ps n y.1 y.2 := by
  intro y hy
  have a1 := fun {c} (hc : c < n) => (T.w.ap hc).2
  have a2 := fun {c} (hc : c < n) => (T.h.ap hc).2
  have a3 := fun {c} (hc : c < n) => ((backOf_trn T.w).ap hc).2
  have a4 := fun {c} (hc : c < n) => ((backOf_trn T.h).ap hc).2
  unfold bondsOf at hy
  rcases List.mem_append.mp hy with hy | hy
  · rcases List.mem_append.mp hy with hy | hy
    · obtain ⟨z, hz, rfl⟩ := List.mem_map.mp hy
      refine ⟨mates_lt hS (mem_sMates.mp hz), ?_⟩
      show mateC w _ k < n
      unfold mateC
      split
      · exact a1 hv.2
      · exact a3 hv.2
    · obtain ⟨z, hz, rfl⟩ := List.mem_map.mp hy
      refine ⟨kid_lt hz, ?_⟩
      show kidC w h _ k < n
      unfold kidC
      split
      · exact a2 hv.2
      · exact a2 (a3 hv.2)
  · unfold parB at hy
    cases e : parOf ps b with
    | none => rw [e] at hy; cases hy
    | some z =>
      rw [e] at hy
      obtain ⟨p1, p2⟩ := parOf_ok hS e
      simp only [List.mem_cons, List.not_mem_nil, or_false] at hy
      rcases hy with rfl | rfl
      · exact ⟨sexOf_lt p1, a4 hv.2⟩
      · exact ⟨sexOf_lt p2, a1 (a4 hv.2)⟩
theorem bonds_near {n : Nat} {w h : List Int} {ps : List Pn} {q : Prs} (T : Tab n w h) (hS : OkS ps q) (b k : Nat) (hv : VV ps n b k) : ∀ y, y ∈ bondsOf ps q w h b k → y ∈ nearL ps q w h b k := by
  intro y hy
  obtain ⟨s, hs⟩ := sexOf_some hv.1
  unfold bondsOf at hy
  unfold nearL
  rcases List.mem_append.mp hy with hy | hy
  · refine List.mem_append_left _ ?_
    rcases List.mem_append.mp hy with hy | hy
    · refine List.mem_append_left _ ?_
      obtain ⟨z, hz, rfl⟩ := List.mem_map.mp hy
      rw [mem_sMates, mates_pair hS] at hz
      rw [List.mem_flatMap]
      unfold mateC groomC
      rcases hz with hz | hz
      · refine ⟨(b, z), hz, ?_⟩
        have := (hS.ok _ hz).1
        rw [sexB_of this, if_pos (Or.inl rfl)]
        simp
      · refine ⟨(z, b), hz, ?_⟩
        have := (hS.ok _ hz).2
        rw [sexB_of this, if_pos (Or.inr rfl)]
        simp
    · refine List.mem_append_right _ ?_
      obtain ⟨z, hz, rfl⟩ := List.mem_map.mp hy
      refine List.mem_map.mpr ⟨z, hz, ?_⟩
      unfold kidC groomC
      rw [sexB_of hs]
      cases s <;> rfl
  · exact List.mem_append_right _ hy
theorem near_bonds {n : Nat} {w h : List Int} {ps : List Pn} {q : Prs} (T : Tab n w h) (hS : OkS ps q) (b k : Nat) (hv : VV ps n b k) : ∀ y ∈ nearL ps q w h b k, y ∈ bondsOf ps q w h b k ∨ y = (b, k) := by
  intro y hy
  obtain ⟨s, hs⟩ := sexOf_some hv.1
  unfold nearL at hy
  unfold bondsOf
  rcases List.mem_append.mp hy with hy | hy
  · rcases List.mem_append.mp hy with hy | hy
    · obtain ⟨t, ht, hy⟩ := List.mem_flatMap.mp hy
      obtain ⟨o1, o2⟩ := hS.ok _ ht
      by_cases hb : b = t.1 ∨ b = t.2
      · rw [if_pos hb] at hy
        simp only [List.mem_cons, List.not_mem_nil, or_false] at hy
        rcases hb with rfl | rfl
        · have e : groomC ps w t.1 k = k := by unfold groomC; rw [sexB_of o1, if_pos rfl]
          rw [e] at hy
          rcases hy with rfl | rfl
          · exact .inr rfl
          · refine .inl (List.mem_append_left _ (List.mem_append_left _ (List.mem_map.mpr ⟨t.2, mem_sMates.mpr ((mates_pair hS).mpr (.inl ht)), ?_⟩)))
            unfold mateC
            rw [sexB_of o1, if_pos rfl]
        · have e : groomC ps w t.2 k = ap (backOf w) k := by unfold groomC; rw [sexB_of o2, if_neg (by simp)]
          rw [e] at hy
          rcases hy with rfl | rfl
          · refine .inl (List.mem_append_left _ (List.mem_append_left _ (List.mem_map.mpr ⟨t.1, mem_sMates.mpr ((mates_pair hS).mpr (.inr ht)), ?_⟩)))
            unfold mateC
            rw [sexB_of o2, if_neg (by simp)]
          · rw [back_ap T.w hv.2]
            exact .inr rfl
      · rw [if_neg hb] at hy; cases hy
    · obtain ⟨z, hz, rfl⟩ := List.mem_map.mp hy
      refine .inl (List.mem_append_left _ (List.mem_append_right _ (List.mem_map.mpr ⟨z, hz, ?_⟩)))
      unfold kidC groomC
      rw [sexB_of hs]
      cases s <;> rfl
  · exact .inl (List.mem_append_right _ hy)
theorem rch_near {n : Nat} {w h : List Int} {ps : List Pn} {q : Prs} (T : Tab n w h) (hS : OkS ps q) {a c : Nat} (hv : VV ps n a c) {b k : Nat} : Rch (bondsOf ps q w h) a c b k ↔ Rch (nearL ps q w h) a c b k :=
  ⟨fun hr => (rch_sub hv (bonds_keep T hS) (fun b k hv y hy => .inl (bonds_near T hS b k hv y hy)) hr).1,
   fun hr => (rch_sub hv (fun b k hv y hy => by
      rcases near_bonds T hS b k hv y hy with h | h
      · exact bonds_keep T hS b k hv y h
      · rw [h]; exact hv) (near_bonds T hS) hr).1⟩
theorem clash_near {n : Nat} {w h : List Int} {ps : List Pn} {q : Prs} (T : Tab n w h) (hS : OkS ps q) {a c : Nat} (hv : VV ps n a c) : Clash (bondsOf ps q w h) a c ↔ Clash (nearL ps q w h) a c := by
  unfold Clash
  simp only [rch_near T hS hv]
theorem rch_V {n : Nat} {w h : List Int} {ps : List Pn} {q : Prs} (T : Tab n w h) (hS : OkS ps q) {a c : Nat} (hv : VV ps n a c) {b k : Nat} (hr : Rch (bondsOf ps q w h) a c b k) : VV ps n b k :=
  (rch_sub (N' := bondsOf ps q w h) hv (bonds_keep T hS) (fun b k hv y hy => .inl hy) hr).2
/-- the law's own, persons alone -/
def nearT (ps : List Pn) (q : Prs) (a : Nat) : List Nat :=
  (match parOf ps a with | none => [] | some z => [z.1, z.2]) ++ kids ps a ++ q.flatMap fun t => if a = t.1 ∨ a = t.2 then [t.1, t.2] else []
theorem nearT_lt {ps : List Pn} {q : Prs} (hS : OkS ps q) {a b : Nat} (h : b ∈ nearT ps q a) : b < ps.length := by
  unfold nearT at h
  rcases List.mem_append.mp h with h | h
  · rcases List.mem_append.mp h with h | h
    · cases e : parOf ps a with
      | none => rw [e] at h; cases h
      | some z =>
        rw [e] at h
        obtain ⟨p1, p2⟩ := parOf_ok hS e
        simp only [List.mem_cons, List.not_mem_nil, or_false] at h
        rcases h with rfl | rfl
        · exact sexOf_lt p1
        · exact sexOf_lt p2
    · exact kid_lt h
  · obtain ⟨t, ht, h⟩ := List.mem_flatMap.mp h
    obtain ⟨o1, o2⟩ := hS.ok _ ht
    split at h
    · simp only [List.mem_cons, List.not_mem_nil, or_false] at h
      rcases h with rfl | rfl
      · exact sexOf_lt o1
      · exact sexOf_lt o2
    · cases h
theorem Rc_lt {ps : List Pn} {q : Prs} (hS : OkS ps q) {a b : Nat} (ha : a < ps.length) (h : Rc (nearT ps q) a b) : b < ps.length := by
  cases h with
  | refl => exact ha
  | step _ hm => exact nearT_lt hS hm
theorem bonds_T {ps : List Pn} {q : Prs} (hS : OkS ps q) (w h : List Int) (b k : Nat) : (∀ y ∈ bondsOf ps q w h b k, y.1 ∈ nearT ps q b) ∧ ∀ z ∈ nearT ps q b, z = b ∨ ∃ k', (z, k') ∈ bondsOf ps q w h b k := by
  constructor
  · intro y hy
    unfold bondsOf at hy
    unfold nearT
    rcases List.mem_append.mp hy with hy | hy
    · rcases List.mem_append.mp hy with hy | hy
      · obtain ⟨z, hz, rfl⟩ := List.mem_map.mp hy
        rw [mem_sMates, mates_pair hS] at hz
        refine List.mem_append_right _ (List.mem_flatMap.mpr ?_)
        rcases hz with hz | hz
        · exact ⟨_, hz, by rw [if_pos (Or.inl rfl)]; simp⟩
        · exact ⟨_, hz, by rw [if_pos (Or.inr rfl)]; simp⟩
      · obtain ⟨z, hz, rfl⟩ := List.mem_map.mp hy
        exact List.mem_append_left _ (List.mem_append_right _ hz)
    · unfold parB at hy
      refine List.mem_append_left _ (List.mem_append_left _ ?_)
      cases e : parOf ps b with
      | none => rw [e] at hy; cases hy
      | some z =>
        rw [e] at hy
        simp only [List.mem_cons, List.not_mem_nil, or_false] at hy ⊢
        rcases hy with rfl | rfl
        · exact .inl rfl
        · exact .inr rfl
  · intro z hz
    unfold nearT at hz
    unfold bondsOf
    rcases List.mem_append.mp hz with hz | hz
    · rcases List.mem_append.mp hz with hz | hz
      · refine .inr ?_
        unfold parB
        cases e : parOf ps b with
        | none => rw [e] at hz; cases hz
        | some u =>
          rw [e] at hz
          simp only [List.mem_cons, List.not_mem_nil, or_false] at hz
          rcases hz with rfl | rfl
          · exact ⟨_, List.mem_append_right _ List.mem_cons_self⟩
          · exact ⟨_, List.mem_append_right _ (List.mem_cons_of_mem _ List.mem_cons_self)⟩
      · exact .inr ⟨_, List.mem_append_left _ (List.mem_append_right _ (List.mem_map.mpr ⟨z, hz, rfl⟩))⟩
    · obtain ⟨t, ht, hy⟩ := List.mem_flatMap.mp hz
      by_cases hb : b = t.1 ∨ b = t.2
      · rw [if_pos hb] at hy
        simp only [List.mem_cons, List.not_mem_nil, or_false] at hy
        have mk : ∀ z, z ∈ mates q b → ∃ k', (z, k') ∈ ((sMates q b).map (fun b' => (b', mateC w (sexB ps b) k)) ++ (kids ps b).map (fun b' => (b', kidC w h (sexB ps b) k)) ++ parB ps w h b k) := fun z hz =>
          ⟨_, List.mem_append_left _ (List.mem_append_left _ (List.mem_map.mpr ⟨z, mem_sMates.mpr hz, rfl⟩))⟩
        rcases hb with rfl | rfl
        · rcases hy with rfl | rfl
          · exact .inl rfl
          · exact .inr (mk _ ((mates_pair hS).mpr (.inl ht)))
        · rcases hy with rfl | rfl
          · exact .inr (mk _ ((mates_pair hS).mpr (.inr ht)))
          · exact .inl rfl
      · rw [if_neg hb] at hy; cases hy
theorem rch_T {ps : List Pn} {q : Prs} (hS : OkS ps q) (w h : List Int) {a c b : Nat} : (∃ k, Rch (bondsOf ps q w h) a c b k) ↔ Rc (nearT ps q) a b := by
  constructor
  · rintro ⟨k, hr⟩
    induction hr with
    | refl => exact .refl
    | step _ hm ih => exact .step ih ((bonds_T hS w h _ _).1 _ hm)
  · intro hr
    induction hr with
    | refl => exact ⟨c, .refl⟩
    | step _ hm ih =>
      obtain ⟨k, hk⟩ := ih
      rcases (bonds_T hS w h _ k).2 _ hm with rfl | ⟨k', hk'⟩
      · exact ⟨k, hk⟩
      · exact ⟨k', .step hk hk'⟩
/-! a told list fits -/
def tv (T : List (Option Nat)) (b : Nat) : Option Nat := (T[b]?).getD none
def pairB (w : List Int) (x y : Option Nat) : Bool := match x with
  | some k => decide (y = some (ap w k))
  | none => decide (y = none)
def kidB (ps : List Pn) (h : List Int) (T : List (Option Nat)) (a : Nat) : Bool := match parOf ps a with
  | none => true
  | some z => pairB h (tv T z.1) (tv T a)
def fitsB (w h : List Int) (ps : List Pn) (q : Prs) (T : List (Option Nat)) : Bool :=
  (q.all fun t => pairB w (tv T t.1) (tv T t.2)) && ((List.range ps.length).all (kidB ps h T))
theorem hangR_fits {n : Nat} {w h : List Int} {ps : List Pn} {q : Prs} (T : Tab n w h) (hS : OkS ps q) {a c : Nat} (hv : VV ps n a c) {R : List (Option Nat)} (hR : hangR (bondsOf ps q w h) ps.length a c = some R) : fitsB w h ps q R = true := by
  obtain ⟨hnc, hlen, hg⟩ := hangR_get hR
  have tvk : ∀ b, b < ps.length → ∀ k, tv R b = some k ↔ Rch (bondsOf ps q w h) a c b k := fun b hb k => by
    obtain ⟨t, h1, h2⟩ := hg b hb
    unfold tv
    rw [h1]
    exact h2 k
  have key : ∀ (f : List Int) (x y : Nat), x < ps.length → y < ps.length → (∀ k, k < n → Rch (bondsOf ps q w h) a c x k → Rch (bondsOf ps q w h) a c y (ap f k)) → (∀ k, k < n → Rch (bondsOf ps q w h) a c y k → ∃ k', Rch (bondsOf ps q w h) a c x k') → pairB f (tv R x) (tv R y) = true := by
    intro f x y hx hy h1 h2
    unfold pairB
    cases e : tv R x with
    | some k =>
      have hr := (tvk x hx k).mp e
      exact decide_eq_true ((tvk y hy _).mpr (h1 k (rch_V T hS hv hr).2 hr))
    | none =>
      refine decide_eq_true ?_
      cases e2 : tv R y with
      | none => rfl
      | some k =>
        have hr := (tvk y hy k).mp e2
        obtain ⟨k', hk'⟩ := h2 k (rch_V T hS hv hr).2 hr
        rw [(tvk x hx k').mpr hk'] at e
        cases e
  unfold fitsB
  rw [Bool.and_eq_true, List.all_eq_true, List.all_eq_true]
  constructor
  · intro t ht
    obtain ⟨o1, o2⟩ := hS.ok _ ht
    refine key w t.1 t.2 (sexOf_lt o1) (sexOf_lt o2) (fun k hk hr => .step hr ?_) (fun k hk hr => ⟨mateC w (sexB ps t.2) k, .step (b' := t.1) hr ?_⟩)
    · have e : mateC w (sexB ps t.1) k = ap w k := by unfold mateC; rw [sexB_of o1, if_pos rfl]
      refine List.mem_append_left _ (List.mem_append_left _ (List.mem_map.mpr ⟨t.2, mem_sMates.mpr ((mates_pair hS).mpr (.inl ht)), ?_⟩))
      rw [e]
    · exact List.mem_append_left _ (List.mem_append_left _ (List.mem_map.mpr ⟨t.1, mem_sMates.mpr ((mates_pair hS).mpr (.inr ht)), rfl⟩))
  · intro b hb
    have hb := List.mem_range.mp hb
    unfold kidB
    cases e : parOf ps b with
    | none => rfl
    | some z =>
      obtain ⟨o1, o2⟩ := parOf_ok hS e
      refine key h z.1 b (sexOf_lt o1) hb (fun k hk hr => .step hr ?_) (fun k hk hr => ⟨ap (backOf h) k, .step (b' := z.1) hr ?_⟩)
      · have hk : b ∈ kids ps z.1 := List.mem_filter.mpr ⟨List.mem_range.mpr hb, (isKid_of_par e).1⟩
        refine List.mem_append_left _ (List.mem_append_right _ (List.mem_map.mpr ⟨b, hk, ?_⟩))
        unfold kidC
        rw [sexB_of o1, if_pos rfl]
      · refine List.mem_append_right _ ?_
        unfold parB
        rw [e]
        exact List.mem_cons_self
end KT
namespace KT
open PySem PySem.Spec PyProof.Rows L2
/-! bonds go both ways -/
theorem bonds_sym {n : Nat} {w h : List Int} {ps : List Pn} {q : Prs} (T : Tab n w h) (hS : OkS ps q) {b k b' k' : Nat} (hv : VV ps n b k) (hm : (b', k') ∈ bondsOf ps q w h b k) : (b, k) ∈ bondsOf ps q w h b' k' := by
  have kw := ((backOf_trn T.w).ap hv.2).2
  have kh := ((backOf_trn T.h).ap hv.2).2
  unfold bondsOf at hm ⊢
  rcases List.mem_append.mp hm with hm | hm
  · rcases List.mem_append.mp hm with hm | hm
    · obtain ⟨z, hz, e⟩ := List.mem_map.mp hm
      cases e
      rw [mem_sMates, mates_pair hS] at hz
      refine List.mem_append_left _ (List.mem_append_left _ (List.mem_map.mpr ⟨b, mem_sMates.mpr ((mates_pair hS).mpr hz.symm), ?_⟩))
      unfold mateC
      rcases hz with hz | hz
      · obtain ⟨o1, o2⟩ := hS.ok _ hz
        rw [sexB_of o1, sexB_of o2, if_neg (by simp), if_pos rfl, ap_back T.w hv.2]
      · obtain ⟨o1, o2⟩ := hS.ok _ hz
        rw [sexB_of o1, sexB_of o2, if_pos rfl, if_neg (by simp), back_ap T.w hv.2]
    · obtain ⟨z, hz, e⟩ := List.mem_map.mp hm
      cases e
      have hz := (List.mem_filter.mp hz).2
      obtain ⟨y, hy, hc⟩ := isKid_cases hz
      obtain ⟨o1, o2⟩ := parOf_ok hS hy
      refine List.mem_append_right _ ?_
      unfold parB
      rw [hy]
      unfold kidC
      rcases hc with rfl | rfl
      · rw [sexB_of o1, if_pos rfl, ap_back T.h hv.2]
        exact List.mem_cons_self
      · rw [sexB_of o2, if_neg (by simp), ap_back T.h kw, back_ap T.w hv.2]
        exact List.mem_cons_of_mem _ List.mem_cons_self
  · unfold parB at hm
    cases e : parOf ps b with
    | none => rw [e] at hm; cases hm
    | some z =>
      rw [e] at hm
      obtain ⟨o1, o2⟩ := parOf_ok hS e
      obtain ⟨k1, k2⟩ := isKid_of_par e
      have hkd : ∀ x, isKidAt ps x b = true → b ∈ kids ps x := fun x hx => List.mem_filter.mpr ⟨List.mem_range.mpr hv.1, hx⟩
      simp only [List.mem_cons, List.not_mem_nil, or_false] at hm
      refine List.mem_append_left _ (List.mem_append_right _ (List.mem_map.mpr ⟨b, ?_, ?_⟩))
      · rcases hm with hm | hm <;> cases hm
        · exact hkd _ k1
        · exact hkd _ k2
      · unfold kidC
        rcases hm with hm | hm <;> cases hm
        · rw [sexB_of o1, if_pos rfl, back_ap T.h hv.2]
        · rw [sexB_of o2, if_neg (by simp), ap_back T.w kh, back_ap T.h hv.2]
theorem Rch.trans {N : Nat → Nat → List (Nat × Nat)} {a c b k d j : Nat} (h1 : Rch N a c b k) (h2 : Rch N b k d j) : Rch N a c d j := by
  induction h2 with
  | refl => exact h1
  | step _ hm ih => exact .step ih hm
theorem Rch.symm {n : Nat} {w h : List Int} {ps : List Pn} {q : Prs} (T : Tab n w h) (hS : OkS ps q) {a c b k : Nat} (hv : VV ps n a c) (hr : Rch (bondsOf ps q w h) a c b k) : Rch (bondsOf ps q w h) b k a c := by
  induction hr with
  | refl => exact .refl
  | step h1 hm ih =>
    exact Rch.trans (.step .refl (bonds_sym T hS (rch_V T hS hv h1) hm)) ih
theorem Rc.symmT {n : Nat} {w h : List Int} {ps : List Pn} {q : Prs} (T : Tab n w h) (hS : OkS ps q) {a b : Nat} (ha : a < ps.length) (hr : Rc (nearT ps q) a b) : Rc (nearT ps q) b a := by
  obtain ⟨k, hk⟩ := (rch_T hS w h (c := 0)).mpr hr
  have hv : VV ps n a 0 := ⟨ha, by have := T.one; omega⟩
  exact (rch_T hS w h).mp ⟨0, Rch.symm T hS hv hk⟩
theorem Rc.transT {N : Nat → List Nat} {a b c : Nat} (h1 : Rc N a b) (h2 : Rc N b c) : Rc N a c := by
  induction h2 with
  | refl => exact h1
  | step _ hm ih => exact .step ih hm
/-! how many lists fit -/
def lists : Nat → Nat → List (List Nat)
  | 0, _ => [[]]
  | i + 1, k => (lists i k).flatMap fun row => (List.range k).map fun c => row ++ [c]
theorem lists_ok {k : Nat} : ∀ (i : Nat) (T : List Nat), T ∈ lists i k → T.length = i ∧ ∀ x ∈ T, x < k
  | 0, T, h => by rw [List.mem_singleton.mp h]; exact ⟨rfl, fun x h => by cases h⟩
  | i + 1, T, h => by
    obtain ⟨row, hr, h⟩ := List.mem_flatMap.mp h
    obtain ⟨c, hc, rfl⟩ := List.mem_map.mp h
    obtain ⟨h1, h2⟩ := lists_ok i row hr
    exact ⟨by simp [h1], fun x hx => by
      rcases List.mem_append.mp hx with hx | hx
      · exact h2 x hx
      · rw [List.mem_singleton.mp hx]; exact List.mem_range.mp hc⟩
theorem lists_len (k : Nat) : ∀ i : Nat, (lists i k).length = k ^ i
  | 0 => rfl
  | i + 1 => by
    have : ∀ rows : List (List Nat), (rows.flatMap fun row => (List.range k).map fun c => row ++ [c]).length = rows.length * k := fun rows => by
      induction rows with
      | nil => simp
      | cons r rows ih => rw [List.flatMap_cons, List.length_append, ih, List.length_cons, List.length_map, List.length_range, Nat.add_mul]; omega
    show ((lists i k).flatMap _).length = _
    rw [this, lists_len k i, Nat.pow_succ]
theorem countP_flat {α : Type} {P P' : List α → Bool} (m k : Nat) (f : Nat → α) : ∀ rows : List (List α), (∀ row ∈ rows, P row = true → (List.range k).countP (fun c => P' (row ++ [f c])) = m) → (∀ row ∈ rows, P row = false → ∀ c, P' (row ++ [f c]) = false) →
    (rows.flatMap fun row => (List.range k).map fun c => row ++ [f c]).countP P' = rows.countP P * m
  | [], _, _ => by simp
  | row :: rows, h1, h2 => by
    rw [List.flatMap_cons, List.countP_append, countP_flat m k f rows (fun r hr => h1 r (List.mem_cons_of_mem _ hr)) (fun r hr => h2 r (List.mem_cons_of_mem _ hr)), List.countP_cons, List.countP_map]
    cases e : P row with
    | true =>
      have := h1 row List.mem_cons_self e
      rw [if_pos rfl, Nat.add_mul, Nat.one_mul]
      rw [show (P' ∘ fun c => row ++ [f c]) = fun c => P' (row ++ [f c]) from rfl, this]
      omega
    | false =>
      have : (List.range k).countP (P' ∘ fun c => row ++ [f c]) = 0 := List.countP_eq_zero.mpr fun c _ => by
        show ¬ P' (row ++ [f c]) = true
        rw [h2 row List.mem_cons_self e c]
        simp
      rw [this, if_neg (by simp), Nat.zero_add, Nat.add_zero]
theorem countP_one (k c0 : Nat) : (List.range k).countP (fun c => decide (c = c0)) = if c0 < k then 1 else 0 := by
  induction k with
  | zero => simp
  | succ k ih =>
    rw [List.range_succ, List.countP_append, ih, List.countP_singleton]
    by_cases h : k = c0
    · subst h; simp
    · by_cases h2 : c0 < k
      · rw [if_pos h2, if_neg (by simpa using h), if_pos (by omega)]
      · rw [if_neg h2, if_neg (by simpa using h), if_neg (by omega)]
open Classical in
noncomputable def okC (N : Nat → Nat → List (Nat × Nat)) (a c : Nat) : Bool := @decide (¬ Clash N a c) (propDecidable _)
theorem okC_iff {N : Nat → Nat → List (Nat × Nat)} {a c : Nat} : okC N a c = true ↔ ¬ Clash N a c := ⟨fun h => @of_decide_eq_true _ (Classical.propDecidable _) h, fun h => @decide_eq_true _ (Classical.propDecidable _) h⟩
open Classical in
noncomputable def leastB (N : Nat → List Nat) (a : Nat) : Bool := @decide (∀ b, b < a → ¬ Rc N b a) (propDecidable _)
theorem leastB_iff {N : Nat → List Nat} {a : Nat} : leastB N a = true ↔ ∀ b, b < a → ¬ Rc N b a := ⟨fun h => @of_decide_eq_true _ (Classical.propDecidable _) h, fun h => @decide_eq_true _ (Classical.propDecidable _) h⟩
noncomputable def goodN (N : Nat → Nat → List (Nat × Nat)) (n a : Nat) : Nat := ((List.range n).filter (okC N a)).length
noncomputable def waysGo (N : Nat → Nat → List (Nat × Nat)) (N1 : Nat → List Nat) (n : Nat) : Nat → Nat
  | 0 => 1
  | i + 1 => if leastB N1 i = true then waysGo N N1 n i * goodN N n i else waysGo N N1 n i
/-- a list that fits so far -/
def Ext (N : Nat → Nat → List (Nat × Nat)) (N1 : Nat → List Nat) (T : List Nat) : Prop :=
  (∀ b, b < T.length → ¬ Clash N b (ck T b)) ∧ ∀ b b', b < T.length → b' < T.length → Rc N1 b b' → Rch N b (ck T b) b' (ck T b')
open Classical in
noncomputable def extB (N : Nat → Nat → List (Nat × Nat)) (N1 : Nat → List Nat) (T : List Nat) : Bool := @decide (Ext N N1 T) (propDecidable _)
theorem extB_iff {N : Nat → Nat → List (Nat × Nat)} {N1 : Nat → List Nat} {T : List Nat} : extB N N1 T = true ↔ Ext N N1 T := ⟨fun h => @of_decide_eq_true _ (Classical.propDecidable _) h, fun h => @decide_eq_true _ (Classical.propDecidable _) h⟩
section
variable {n : Nat} {w h : List Int} {ps : List Pn} {q : Prs}
theorem clash_mv (TT : Tab n w h) (hS : OkS ps q) {a c b k : Nat} (hv : VV ps n a c) (hr : Rch (bondsOf ps q w h) a c b k) (hc : Clash (bondsOf ps q w h) b k) : Clash (bondsOf ps q w h) a c := by
  obtain ⟨x, j, j', hne, h1, h2⟩ := hc
  exact ⟨x, j, j', hne, hr.trans h1, hr.trans h2⟩
theorem ext_pre (row : List Nat) (c : Nat) (hx : Ext (bondsOf ps q w h) (nearT ps q) (row ++ [c])) : Ext (bondsOf ps q w h) (nearT ps q) row := by
  obtain ⟨h1, h2⟩ := hx
  rw [List.length_append] at h1 h2
  refine ⟨fun b hb => ?_, fun b b' hb hb' hr => ?_⟩
  · have := h1 b (by simp; omega)
    rwa [ck_app hb] at this
  · have := h2 b b' (by simp; omega) (by simp; omega) hr
    rwa [ck_app hb, ck_app hb'] at this
theorem ext_new (TT : Tab n w h) (hS : OkS ps q) {row : List Nat} (hl : row.length < ps.length) (hk : ∀ x ∈ row, x < n) (hx : Ext (bondsOf ps q w h) (nearT ps q) row) : (List.range n).countP (fun c => extB (bondsOf ps q w h) (nearT ps q) (row ++ [c])) = if leastB (nearT ps q) row.length = true then goodN (bondsOf ps q w h) n row.length else 1 := by
  obtain ⟨h1, h2⟩ := hx
  have ckl : ∀ {b}, b < row.length → ck row b < n := fun {b} hb => hk _ (List.mem_of_getElem? (getD_get hb))
  cases e : leastB (nearT ps q) row.length with
  | true =>
    rw [if_pos rfl]
    have e := leastB_iff.mp e
    unfold goodN
    rw [← List.countP_eq_length_filter]
    refine List.countP_congr fun c hc => ?_
    have hc := List.mem_range.mp hc
    rw [extB_iff, okC_iff]
    constructor
    · intro hx
      have := hx.1 row.length (by simp)
      rwa [ck_last] at this
    · intro hx
      refine ⟨fun b hb => ?_, fun b b' hb hb' hr => ?_⟩
      · rw [List.length_append, List.length_singleton] at hb
        by_cases e2 : b = row.length
        · rw [e2, ck_last]; exact hx
        · rw [ck_app (by omega)]; exact h1 b (by omega)
      · rw [List.length_append, List.length_singleton] at hb hb'
        by_cases e2 : b = row.length
        · by_cases e3 : b' = row.length
          · rw [e2, e3, ck_last]; exact .refl
          · rw [e2] at hr
            exact absurd (Rc.symmT TT hS hl hr) (e b' (by omega))
        · by_cases e3 : b' = row.length
          · rw [e3] at hr
            exact absurd hr (e b (by omega))
          · rw [ck_app (by omega), ck_app (by omega)]
            exact h2 b b' (by omega) (by omega) hr
  | false =>
    rw [if_neg (by simp)]
    obtain ⟨b0, hb0, hr0⟩ : ∃ b, b < row.length ∧ Rc (nearT ps q) b row.length := by
      apply Classical.byContradiction
      intro hn
      rw [leastB_iff.mpr (fun b hb hr => hn ⟨b, hb, hr⟩)] at e
      cases e
    have hv0 : VV ps n b0 (ck row b0) := ⟨by omega, ckl hb0⟩
    obtain ⟨c0, hc0⟩ := (rch_T hS w h (c := ck row b0)).mpr hr0
    have hcn := (rch_V TT hS hv0 hc0).2
    have key : ∀ b, b < row.length → Rc (nearT ps q) b row.length → Rch (bondsOf ps q w h) b (ck row b) row.length c0 := fun b hb hr =>
      (h2 b b0 hb hb0 (Rc.transT hr (Rc.symmT TT hS (by omega) hr0))).trans hc0
    have uq : (List.range n).countP (fun c => extB (bondsOf ps q w h) (nearT ps q) (row ++ [c])) = (List.range n).countP (fun c => decide (c = c0)) := by
      refine List.countP_congr fun c hc => ?_
      rw [extB_iff, decide_eq_true_eq]
      constructor
      · intro hx
        have := hx.2 b0 row.length (by simp; omega) (by simp) hr0
        rw [ck_last, ck_app hb0] at this
        apply Classical.byContradiction
        intro hne
        exact h1 b0 hb0 ⟨_, _, _, hne, this, hc0⟩
      · rintro rfl
        refine ⟨fun b hb => ?_, fun b b' hb hb' hr => ?_⟩
        · rw [List.length_append, List.length_singleton] at hb
          by_cases e2 : b = row.length
          · rw [e2, ck_last]
            exact fun hcl => h1 b0 hb0 (clash_mv TT hS hv0 hc0 hcl)
          · rw [ck_app (by omega)]; exact h1 b (by omega)
        · rw [List.length_append, List.length_singleton] at hb hb'
          by_cases e2 : b = row.length
          · subst e2
            by_cases e3 : b' = row.length
            · rw [e3, ck_last]; exact .refl
            · rw [ck_last, ck_app (by omega)]
              exact Rch.symm TT hS ⟨by omega, ckl (by omega)⟩ (key b' (by omega) (Rc.symmT TT hS hl hr))
          · by_cases e3 : b' = row.length
            · rw [e3] at hr ⊢
              rw [ck_last, ck_app (by omega)]
              exact key b (by omega) hr
            · rw [ck_app (by omega), ck_app (by omega)]
              exact h2 b b' (by omega) (by omega) hr
    rw [uq, countP_one, if_pos hcn]
theorem count_ext (TT : Tab n w h) (hS : OkS ps q) : ∀ i : Nat, i ≤ ps.length → (lists i n).countP (extB (bondsOf ps q w h) (nearT ps q)) = waysGo (bondsOf ps q w h) (nearT ps q) n i
  | 0, _ => by
    have : extB (bondsOf ps q w h) (nearT ps q) [] = true := extB_iff.mpr ⟨(fun b hb => absurd hb (Nat.not_lt_zero b)), fun b _ hb => absurd hb (Nat.not_lt_zero b)⟩
    show List.countP _ [[]] = 1
    rw [List.countP_singleton, if_pos this]
  | i + 1, hi => by
    show ((lists i n).flatMap fun row => (List.range n).map fun c => row ++ [c]).countP _ = _
    rw [countP_flat (P := extB (bondsOf ps q w h) (nearT ps q)) (if leastB (nearT ps q) i = true then goodN (bondsOf ps q w h) n i else 1) n (fun c => c) (lists i n) (fun row hr he => ?_) (fun row hr he c => ?_), count_ext TT hS i (by omega)]
    · show _ = if leastB (nearT ps q) i = true then _ else _
      split
      · rfl
      · rw [Nat.mul_one]
    · obtain ⟨l1, l2⟩ := lists_ok i row hr
      rw [← l1]
      exact ext_new TT hS (by omega) l2 (extB_iff.mp he)
    · cases e : extB (bondsOf ps q w h) (nearT ps q) (row ++ [c]) with
      | false => rfl
      | true =>
        rw [extB_iff.mpr (ext_pre row c (extB_iff.mp e))] at he
        cases he
/-- each one's parents are wed -/
def ParQ (ps : List Pn) (q : Prs) : Prop := ∀ b z, parOf ps b = some z → z ∈ q
theorem tv_some {T : List Nat} {b : Nat} (hb : b < T.length) : tv (T.map some) b = some (ck T b) := by
  unfold tv
  rw [List.getElem?_map, getD_get (d := 0) hb]
  rfl
theorem fits_bonds (TT : Tab n w h) (hS : OkS ps q) (hP : ParQ ps q) {T : List Nat} (hl : T.length = ps.length) (hk : ∀ x ∈ T, x < n) (hf : fitsB w h ps q (T.map some) = true) {b : Nat} (hb : b < ps.length) : ∀ y ∈ bondsOf ps q w h b (ck T b), y.2 = ck T y.1 := by
  unfold fitsB at hf
  rw [Bool.and_eq_true, List.all_eq_true, List.all_eq_true] at hf
  obtain ⟨f1, f2⟩ := hf
  have ckl : ∀ {b}, b < ps.length → ck T b < n := fun {b} hb => hk _ (List.mem_of_getElem? (getD_get (by omega)))
  have wed : ∀ {x y}, (x, y) ∈ q → ck T y = ap w (ck T x) := fun {x y} ht => by
    obtain ⟨o1, o2⟩ := hS.ok _ ht
    have := f1 _ ht
    rw [tv_some (by rw [hl]; exact sexOf_lt o1), tv_some (by rw [hl]; exact sexOf_lt o2)] at this
    exact Option.some.inj (of_decide_eq_true this)
  have kid : ∀ {x z}, parOf ps x = some z → x < ps.length → ck T x = ap h (ck T z.1) := fun {x z} hz hx => by
    obtain ⟨o1, o2⟩ := parOf_ok hS hz
    have := f2 x (List.mem_range.mpr hx)
    unfold kidB at this
    rw [hz] at this
    dsimp only at this
    rw [tv_some (by rw [hl]; exact sexOf_lt o1), tv_some (by rw [hl]; exact hx)] at this
    exact Option.some.inj (of_decide_eq_true this)
  intro y hy
  unfold bondsOf at hy
  rcases List.mem_append.mp hy with hy | hy
  · rcases List.mem_append.mp hy with hy | hy
    · obtain ⟨z, hz, rfl⟩ := List.mem_map.mp hy
      rw [mem_sMates, mates_pair hS] at hz
      show mateC w (sexB ps b) (ck T b) = ck T z
      unfold mateC
      rcases hz with hz | hz
      · obtain ⟨o1, o2⟩ := hS.ok _ hz
        rw [sexB_of o1, if_pos rfl, wed hz]
      · obtain ⟨o1, o2⟩ := hS.ok _ hz
        rw [sexB_of o2, if_neg (by simp), wed hz, ap_back TT.w (ckl (sexOf_lt o1))]
    · obtain ⟨z, hz, rfl⟩ := List.mem_map.mp hy
      have hzl := kid_lt hz
      have hz := (List.mem_filter.mp hz).2
      obtain ⟨u, hu, hc⟩ := isKid_cases hz
      obtain ⟨o1, o2⟩ := parOf_ok hS hu
      show kidC w h (sexB ps b) (ck T b) = ck T z
      unfold kidC
      rw [kid hu hzl]
      rcases hc with rfl | rfl
      · rw [sexB_of o1, if_pos rfl]
      · rw [sexB_of o2, if_neg (by simp), wed (x := u.1) (y := u.2) (hP _ _ hu), ap_back TT.w (ckl (sexOf_lt o1))]
  · unfold parB at hy
    cases e : parOf ps b with
    | none => rw [e] at hy; cases hy
    | some z =>
      rw [e] at hy
      obtain ⟨o1, o2⟩ := parOf_ok hS e
      have e1 := kid e hb
      have e2 := wed (x := z.1) (y := z.2) (hP _ _ e)
      have e3 : ap (backOf h) (ck T b) = ck T z.1 := by rw [e1, ap_back TT.h (ckl (sexOf_lt o1))]
      simp only [List.mem_cons, List.not_mem_nil, or_false] at hy
      rcases hy with rfl | rfl
      · exact e3
      · show ap w (ap (backOf h) (ck T b)) = ck T z.2
        rw [e3, e2]
theorem ext_fits (TT : Tab n w h) (hS : OkS ps q) (hP : ParQ ps q) {T : List Nat} (hl : T.length = ps.length) (hk : ∀ x ∈ T, x < n) : extB (bondsOf ps q w h) (nearT ps q) T = fitsB w h ps q (T.map some) := by
  have ckl : ∀ {b}, b < ps.length → ck T b < n := fun {b} hb => hk _ (List.mem_of_getElem? (getD_get (by omega)))
  rw [Bool.eq_iff_iff, extB_iff]
  constructor
  · rintro ⟨h1, h2⟩
    have st : ∀ {b y}, b < ps.length → y ∈ bondsOf ps q w h b (ck T b) → y.2 = ck T y.1 := fun {b y} hb hy => by
      have hv : VV ps n b (ck T b) := ⟨hb, ckl hb⟩
      have hr : Rch (bondsOf ps q w h) b (ck T b) y.1 y.2 := .step .refl hy
      have hyl := (rch_V TT hS hv hr).1
      have hr2 := h2 b y.1 (by omega) (by omega) ((rch_T hS w h).mp ⟨_, hr⟩)
      apply Classical.byContradiction
      intro hne
      exact h1 b (by omega) ⟨_, _, _, hne, hr, hr2⟩
    unfold fitsB
    rw [Bool.and_eq_true, List.all_eq_true, List.all_eq_true]
    constructor
    · intro t ht
      obtain ⟨o1, o2⟩ := hS.ok _ ht
      rw [tv_some (by rw [hl]; exact sexOf_lt o1), tv_some (by rw [hl]; exact sexOf_lt o2)]
      refine decide_eq_true (congrArg some ?_)
      have := st (b := t.1) (y := (t.2, ap w (ck T t.1))) (sexOf_lt o1) (List.mem_append_left _ (List.mem_append_left _ (List.mem_map.mpr ⟨t.2, mem_sMates.mpr ((mates_pair hS).mpr (.inl ht)), by unfold mateC; rw [sexB_of o1, if_pos rfl]⟩)))
      exact this.symm
    · intro b hb
      have hb := List.mem_range.mp hb
      unfold kidB
      cases e : parOf ps b with
      | none => rfl
      | some z =>
        obtain ⟨o1, o2⟩ := parOf_ok hS e
        dsimp only
        rw [tv_some (by rw [hl]; exact sexOf_lt o1), tv_some (by rw [hl]; exact hb)]
        refine decide_eq_true (congrArg some ?_)
        have hkd : b ∈ kids ps z.1 := List.mem_filter.mpr ⟨List.mem_range.mpr hb, (isKid_of_par e).1⟩
        have := st (b := z.1) (y := (b, ap h (ck T z.1))) (sexOf_lt o1) (List.mem_append_left _ (List.mem_append_right _ (List.mem_map.mpr ⟨b, hkd, by unfold kidC; rw [sexB_of o1, if_pos rfl]⟩)))
        exact this.symm
  · intro hf
    have st := fun {b} (hb : b < ps.length) => fits_bonds TT hS hP hl hk hf hb
    have al : ∀ {b b' k'}, b < ps.length → Rch (bondsOf ps q w h) b (ck T b) b' k' → k' = ck T b' := fun {b b' k'} hb hr => by
      induction hr with
      | refl => rfl
      | step h1 hm ih =>
        have hv := rch_V TT hS ⟨hb, ckl hb⟩ h1
        rw [ih] at hm
        exact st hv.1 _ hm
    refine ⟨fun b hb => ?_, fun b b' hb hb' hr => ?_⟩
    · rintro ⟨x, j, j', hne, h1, h2⟩
      exact hne ((al (by omega) h1).trans (al (by omega) h2).symm)
    · obtain ⟨k, hr2⟩ := (rch_T hS w h (c := ck T b)).mpr hr
      rw [al (by omega) hr2] at hr2
      exact hr2
theorem ways_count (TT : Tab n w h) (hS : OkS ps q) (hP : ParQ ps q) : (lists ps.length n).countP (fun T => fitsB w h ps q (T.map some)) = waysGo (bondsOf ps q w h) (nearT ps q) n ps.length := by
  rw [← count_ext TT hS ps.length (Nat.le_refl _)]
  refine List.countP_congr fun T hT => ?_
  obtain ⟨h1, h2⟩ := lists_ok _ T hT
  rw [ext_fits TT hS hP h1 h2]
end
/-! parents are wed -/
theorem ParQ.nil : ParQ [] [] := fun b z h => by simp [parOf] at h
theorem ParQ.step {ps : List Pn} {q : Prs} (h : ParQ ps q) (c : Cm) : ParQ (stepS ps q c).1 (stepS ps q c).2 := by
  have sub : ∀ {m w : Nat} {t : Nat × Nat}, t ∈ q → t ∈ addp q m w := fun {m w t} ht => by
    unfold addp
    split
    · exact ht
    · exact List.mem_append_left _ ht
  cases c with
  | new s =>
    intro b z hb
    rcases parOf_app hb with ⟨_, hb⟩ | ⟨_, hb⟩
    · exact h b z hb
    · cases hb
  | wed m w => exact fun b z hb => sub (h b z hb)
  | born s m w =>
    intro b z hb
    rcases parOf_app hb with ⟨_, hb⟩ | ⟨_, hb⟩
    · exact sub (h b z hb)
    · cases hb
      show (m, w) ∈ addp q m w
      unfold addp
      split
      · assumption
      · simp
theorem ParQ.fit (w h : List Int) (cs : List Int) : ParQ (fitAll w h cs).1.1 (fitAll w h cs).1.2 := by
  unfold fitAll
  have : ∀ (cs : List Int) (r : (List Pn × Prs) × List Nat), ParQ r.1.1 r.1.2 → ParQ (cs.foldl (fitGo w h) r).1.1 (cs.foldl (fitGo w h) r).1.2 := fun cs => by
    induction cs with
    | nil => intro r hr; exact hr
    | cons c cs ih =>
      intro r hr
      rw [List.foldl_cons]
      refine ih _ ?_
      unfold fitGo
      split
      · exact hr.step _
      · exact hr
  exact this cs _ ParQ.nil
/-! those who hang together, in the order of the book -/
def nearP (ps : List Pn) (q : Prs) (a : Nat) : List Nat := sMates q a ++ kids ps a ++ (match parOf ps a with | none => [] | some z => [z.1, z.2])
def bfs (N : Nat → List Nat) : Nat → List Nat → Nat → List Nat
  | 0, P, _ => P
  | f + 1, P, i => match P[i]? with
    | none => P
    | some x => bfs N f (addA P (N x)) (i + 1)
theorem bfs_done (N : Nat → List Nat) (f : Nat) (P : List Nat) : bfs N f P P.length = P := by
  cases f with
  | zero => rfl
  | succ f => unfold bfs; rw [List.getElem?_eq_none (Nat.le_refl _)]
theorem bfs_next (N : Nat → List Nat) (f : Nat) {P : List Nat} {i x : Nat} (h : P[i]? = some x) : bfs N (f + 1) P i = bfs N f (addA P (N x)) (i + 1) := by
  conv => lhs; unfold bfs
  rw [h]
theorem bfs_sp {N : Nat → List Nat} {a n : Nat} (hb : ∀ b, Rc N a b → b < n) : ∀ (f : Nat) (P : List Nat) (i : Nat), Sp1 N a P i → n ≤ i + f → Sp1 N a (bfs N f P i) (bfs N f P i).length
  | 0, P, i, h, hf => by
    have h1 := len_of_nodup (n := n) h.nd fun x hx => hb x (h.rch x hx)
    have h2 := h.le
    have : i = P.length := by omega
    show Sp1 N a P P.length
    rw [← this]
    exact h
  | f + 1, P, i, h, hf => by
    cases e : P[i]? with
    | none =>
      have h1 := List.getElem?_eq_none_iff.mp e
      have h2 := h.le
      have : i = P.length := by omega
      rw [this, bfs_done, ← this]
      exact h
    | some x =>
      rw [bfs_next N f e]
      exact bfs_sp hb f _ _ (h.next e fun y => Iff.rfl) (by omega)
theorem nearP_T {ps : List Pn} {q : Prs} (hS : OkS ps q) (b : Nat) : (∀ y ∈ nearP ps q b, y ∈ nearT ps q b) ∧ ∀ z ∈ nearT ps q b, z = b ∨ z ∈ nearP ps q b := by
  obtain ⟨h1, h2⟩ := bonds_T hS [] [] b 0
  have e : ∀ z, z ∈ nearP ps q b ↔ ∃ k', (z, k') ∈ bondsOf ps q [] [] b 0 := fun z => by
    unfold nearP bondsOf parB
    constructor
    · intro hz
      rcases List.mem_append.mp hz with hz | hz
      · rcases List.mem_append.mp hz with hz | hz
        · exact ⟨_, List.mem_append_left _ (List.mem_append_left _ (List.mem_map.mpr ⟨z, hz, rfl⟩))⟩
        · exact ⟨_, List.mem_append_left _ (List.mem_append_right _ (List.mem_map.mpr ⟨z, hz, rfl⟩))⟩
      · cases e : parOf ps b with
        | none => rw [e] at hz; cases hz
        | some u =>
          rw [e] at hz
          simp only [List.mem_cons, List.not_mem_nil, or_false] at hz
          rcases hz with rfl | rfl
          · exact ⟨_, List.mem_append_right _ List.mem_cons_self⟩
          · exact ⟨_, List.mem_append_right _ (List.mem_cons_of_mem _ List.mem_cons_self)⟩
    · rintro ⟨k', hz⟩
      rcases List.mem_append.mp hz with hz | hz
      · rcases List.mem_append.mp hz with hz | hz
        · obtain ⟨u, hu, e⟩ := List.mem_map.mp hz
          cases e
          exact List.mem_append_left _ (List.mem_append_left _ hu)
        · obtain ⟨u, hu, e⟩ := List.mem_map.mp hz
          cases e
          exact List.mem_append_left _ (List.mem_append_right _ hu)
      · refine List.mem_append_right _ ?_
        cases e : parOf ps b with
        | none => rw [e] at hz; cases hz
        | some u =>
          rw [e] at hz
          simp only [List.mem_cons, List.not_mem_nil, or_false] at hz ⊢
          rcases hz with hz | hz <;> cases hz
          · exact .inl rfl
          · exact .inr rfl
  exact ⟨fun y hy => by
    obtain ⟨k', hk⟩ := (e y).mp hy
    exact h1 _ hk, fun z hz => (h2 z hz).imp id fun hk => (e z).mpr hk⟩
theorem Rc_PT {ps : List Pn} {q : Prs} (hS : OkS ps q) {a b : Nat} : Rc (nearP ps q) a b ↔ Rc (nearT ps q) a b := by
  constructor
  · intro hr
    induction hr with
    | refl => exact .refl
    | step _ hm ih => exact .step ih ((nearP_T hS _).1 _ hm)
  · intro hr
    induction hr with
    | refl => exact .refl
    | step _ hm ih =>
      rcases (nearP_T hS _).2 _ hm with rfl | h
      · exact ih
      · exact .step ih h
def hangP (ps : List Pn) (q : Prs) (a : Nat) : List Nat := bfs (nearP ps q) ps.length [a] 0
theorem hangP_sp {ps : List Pn} {q : Prs} (hS : OkS ps q) {a : Nat} (ha : a < ps.length) : Sp1 (nearP ps q) a (hangP ps q a) (hangP ps q a).length :=
  bfs_sp (n := ps.length) (fun b hb => Rc_lt hS ha ((Rc_PT hS).mp hb)) _ _ _ (Sp1.init _ _) (by omega)
theorem mem_hangP {ps : List Pn} {q : Prs} (hS : OkS ps q) {a b : Nat} (ha : a < ps.length) : b ∈ hangP ps q a ↔ Rc (nearT ps q) a b := by
  rw [← (hangP_sp hS ha).all, Rc_PT hS]
/-- the seen ones behind the first i -/
def SeenUp (N1 : Nat → List Nat) (i : Nat) (S : List Nat) : Prop := ∀ b, b ∈ S ↔ ∃ a, a < i ∧ Rc N1 a b
theorem seen_least {N1 : Nat → List Nat} {i : Nat} {S : List Nat} (h : SeenUp N1 i S) : i ∉ S ↔ leastB N1 i = true := by
  rw [leastB_iff, h]
  exact ⟨fun hn b hb hr => hn ⟨b, hb, hr⟩, fun hn ⟨a, ha, hr⟩ => hn a ha hr⟩
theorem seen_skip {n : Nat} {w h : List Int} {ps : List Pn} {q : Prs} {i : Nat} {S : List Nat} (hs : SeenUp (nearT ps q) i S) (hm : i ∈ S) : SeenUp (nearT ps q) (i + 1) S := fun b => by
  rw [hs]
  obtain ⟨a0, ha0, hr0⟩ := (hs i).mp hm
  exact ⟨fun ⟨a, ha, hr⟩ => ⟨a, by omega, hr⟩, fun ⟨a, ha, hr⟩ => by
    by_cases e : a = i
    · subst e; exact ⟨a0, ha0, Rc.transT hr0 hr⟩
    · exact ⟨a, by omega, hr⟩⟩
theorem seen_new {ps : List Pn} {q : Prs} {i : Nat} {S S' : List Nat} (hs : SeenUp (nearT ps q) i S) (hm : ∀ b, b ∈ S' ↔ b ∈ S ∨ Rc (nearT ps q) i b) : SeenUp (nearT ps q) (i + 1) S' := fun b => by
  rw [hm, hs]
  constructor
  · rintro (⟨a, ha, hr⟩ | hr)
    · exact ⟨a, by omega, hr⟩
    · exact ⟨i, by omega, hr⟩
  · rintro ⟨a, ha, hr⟩
    by_cases e : a = i
    · subst e; exact .inr hr
    · exact .inl ⟨a, by omega, hr⟩
end KT
namespace KT
open PySem PySem.Spec PyProof.Rows L2
/-! the classes that hang together -/
theorem nodup_le : ∀ {xs ys : List Nat}, xs.Nodup → (∀ x ∈ xs, x ∈ ys) → xs.length ≤ ys.length
  | [], _, _, _ => Nat.zero_le _
  | x :: xs, ys, nd, h => by
    rw [List.nodup_cons] at nd
    have hx := h x List.mem_cons_self
    have := nodup_le (ys := ys.erase x) nd.2 fun y hy => (List.mem_erase_of_ne (fun (e : y = x) => nd.1 (by rw [← e]; exact hy))).mpr (h y (List.mem_cons_of_mem _ hy))
    rw [List.length_erase_of_mem hx] at this
    have hp := List.length_pos_of_mem hx
    rw [List.length_cons]
    omega
theorem inj_onto {xs : List Nat} (nd : xs.Nodup) (f : Nat → Nat) (hf : ∀ x ∈ xs, f x ∈ xs) (inj : ∀ x ∈ xs, ∀ y ∈ xs, f x = f y → x = y) {y : Nat} (hy : y ∈ xs) : ∃ x ∈ xs, f x = y := by
  apply Classical.byContradiction
  intro hn
  have h1 : (xs.map f).Nodup := by
    rw [List.nodup_iff_pairwise_ne, List.pairwise_map]
    exact List.Pairwise.imp_of_mem (fun ha hb hne e => hne (inj _ ha _ hb e)) nd
  have h2 : (y :: xs.map f).Nodup := List.nodup_cons.mpr ⟨fun hm => by
    obtain ⟨x, hx, e⟩ := List.mem_map.mp hm
    exact hn ⟨x, hx, e⟩, h1⟩
  have := nodup_le (ys := xs) h2 fun z hz => by
    rcases List.mem_cons.mp hz with rfl | hz
    · exact hy
    · obtain ⟨x, hx, rfl⟩ := List.mem_map.mp hz
      exact hf x hx
  rw [List.length_cons, List.length_map] at this
  omega
def clsN (w h : List Int) (c : Nat) : List Nat := [ap w c, ap h c]
section
variable {n : Nat} {w h : List Int}
theorem cls_lt (T : Tab n w h) {a b : Nat} (ha : a < n) (hb : b ∈ clsN w h a) : b < n := by
  unfold clsN at hb
  simp only [List.mem_cons, List.not_mem_nil, or_false] at hb
  rcases hb with rfl | rfl
  · exact (T.w.ap ha).2
  · exact (T.h.ap ha).2
theorem Rc_clt (T : Tab n w h) {a b : Nat} (ha : a < n) (hr : Rc (clsN w h) a b) : b < n := by
  induction hr with
  | refl => exact ha
  | step _ hm ih => exact cls_lt T ih hm
theorem ap_inj {xs : List Int} (T : Trn n xs) {a b : Nat} (ha : a < n) (hb : b < n) (e : ap xs a = ap xs b) : a = b := by
  have h1 := (T.ap ha).1
  have h2 := (T.ap hb).1
  rw [← e] at h2
  exact T.inj h1 h2
theorem cls_back (T : Tab n w h) {u v : Nat} (hu : u < n) (hv : v ∈ clsN w h u) : Rc (clsN w h) v u := by
  have hvn := cls_lt T hu hv
  have nd : (compOf (clsN w h) n v).Nodup := (comp_pw _ _ _).imp fun z => Nat.ne_of_lt z
  have hvm : v ∈ compOf (clsN w h) n v := mem_comp.mpr ⟨hvn, .refl⟩
  have key : ∀ (xs : List Int), Trn n xs → (∀ c, ap xs c ∈ clsN w h c) → v = ap xs u → Rc (clsN w h) v u := fun xs Tx hin e => by
    obtain ⟨x, hx, hfx⟩ := inj_onto nd (ap xs) (fun x hx => by
      obtain ⟨h1, h2⟩ := mem_comp.mp hx
      exact mem_comp.mpr ⟨cls_lt T h1 (hin x), .step h2 (hin x)⟩) (fun x hx y hy e => ap_inj Tx (mem_comp.mp hx).1 (mem_comp.mp hy).1 e) hvm
    obtain ⟨h1, h2⟩ := mem_comp.mp hx
    have : x = u := ap_inj Tx h1 hu (hfx.trans e)
    rw [← this]
    exact h2
  have hv2 := hv
  unfold clsN at hv2
  simp only [List.mem_cons, List.not_mem_nil, or_false] at hv2
  rcases hv2 with e | e
  · exact key w T.w (fun c => List.mem_cons_self) e
  · exact key h T.h (fun c => List.mem_cons_of_mem _ List.mem_cons_self) e
theorem Rc_csym (T : Tab n w h) {a b : Nat} (ha : a < n) (hr : Rc (clsN w h) a b) : Rc (clsN w h) b a := by
  induction hr with
  | refl => exact .refl
  | step h1 hm ih => exact Rc.transT (cls_back T (Rc_clt T ha h1) hm) ih
end
theorem seenC_skip {N : Nat → List Nat} {i : Nat} {S : List Nat} (hs : SeenUp N i S) (hm : i ∈ S) : SeenUp N (i + 1) S := fun b => by
  rw [hs]
  obtain ⟨a0, ha0, hr0⟩ := (hs i).mp hm
  exact ⟨fun ⟨a, ha, hr⟩ => ⟨a, by omega, hr⟩, fun ⟨a, ha, hr⟩ => by
    by_cases e : a = i
    · subst e; exact ⟨a0, ha0, Rc.transT hr0 hr⟩
    · exact ⟨a, by omega, hr⟩⟩
theorem seenC_new {N : Nat → List Nat} {i : Nat} {S S' : List Nat} (hs : SeenUp N i S) (hm : ∀ b, b ∈ S' ↔ b ∈ S ∨ Rc N i b) : SeenUp N (i + 1) S' := fun b => by
  rw [hm, hs]
  constructor
  · rintro (⟨a, ha, hr⟩ | hr)
    · exact ⟨a, by omega, hr⟩
    · exact ⟨i, by omega, hr⟩
  · rintro ⟨a, ha, hr⟩
    by_cases e : a = i
    · subst e; exact .inr hr
    · exact .inl ⟨a, by omega, hr⟩
noncomputable def leasts (N : Nat → List Nat) (i : Nat) : List Nat := (List.range i).filter (leastB N)
noncomputable def partsUp (N : Nat → List Nat) (n i : Nat) : List (List Nat) := (leasts N i).map (compOf N n)
theorem leasts_step (N : Nat → List Nat) (i : Nat) : leasts N (i + 1) = leasts N i ++ if leastB N i = true then [i] else [] := by
  unfold leasts
  rw [List.range_succ, List.filter_append, List.filter_cons, List.filter_nil]
theorem leasts_pw (N : Nat → List Nat) (i : Nat) : (leasts N i).Pairwise (· < ·) := (List.pairwise_lt_range (n := i)).filter _
theorem mem_leasts {N : Nat → List Nat} {i a : Nat} : a ∈ leasts N i ↔ a < i ∧ leastB N a = true := by unfold leasts; rw [List.mem_filter, List.mem_range]
theorem pwN_uniq {xs ys : List Nat} (h1 : xs.Pairwise (· < ·)) (h2 : ys.Pairwise (· < ·)) (h : ∀ b, b ∈ xs ↔ b ∈ ys) : xs = ys := by
  have e1 := srt_risen (h1.imp fun z => Nat.ne_of_lt z) h2 h
  have e2 := srt_risen (h1.imp fun z => Nat.ne_of_lt z) h1 fun b => Iff.rfl
  have e3 : cI xs = cI ys := e2.symm.trans e1
  have e4 : ∀ zs : List Nat, (cI zs).map Int.toNat = zs := fun zs => by
    unfold cI
    rw [List.map_map]
    exact (List.map_congr_left fun x _ => Int.toNat_natCast x).trans (List.map_id _)
  rw [← e4 xs, e3, e4]
theorem head_min {l : List Nat} {a : Nat} (hp : l.Pairwise (· < ·)) (ha : a ∈ l) (hm : ∀ b ∈ l, a ≤ b) : l[0]? = some a := by
  cases l with
  | nil => cases ha
  | cons x xs =>
    rw [List.pairwise_cons] at hp
    rcases List.mem_cons.mp ha with rfl | h
    · rfl
    · have := hp.1 a h
      have := hm x List.mem_cons_self
      omega
section
variable {n : Nat} {w h : List Int}
theorem least_min (T : Tab n w h) {a : Nat} (ha : a < n) (hl : leastB (clsN w h) a = true) {b : Nat} (hb : b ∈ compOf (clsN w h) n a) : a ≤ b := by
  obtain ⟨h1, h2⟩ := mem_comp.mp hb
  apply Classical.byContradiction
  intro hn
  exact leastB_iff.mp hl b (by omega) (Rc_csym T ha h2)
theorem part_head (T : Tab n w h) {a : Nat} (ha : a < n) (hl : leastB (clsN w h) a = true) : (compOf (clsN w h) n a)[0]? = some a :=
  head_min (comp_pw _ _ _) (mem_comp.mpr ⟨ha, .refl⟩) fun b hb => least_min T ha hl hb
theorem least_of (T : Tab n w h) : ∀ (c : Nat), c < n → ∃ a, a ≤ c ∧ leastB (clsN w h) a = true ∧ Rc (clsN w h) a c := by
  intro c
  induction c using Nat.strongRecOn with
  | _ c ih =>
    intro hc
    by_cases hl : leastB (clsN w h) c = true
    · exact ⟨c, Nat.le_refl _, hl, .refl⟩
    · obtain ⟨b, hb, hr⟩ : ∃ b, b < c ∧ Rc (clsN w h) b c := by
        apply Classical.byContradiction
        intro hn
        exact hl (leastB_iff.mpr fun b hb hr => hn ⟨b, hb, hr⟩)
      obtain ⟨a, h1, h2, h3⟩ := ih b hb (by omega)
      exact ⟨a, by omega, h2, Rc.transT h3 hr⟩
theorem flat_mem (T : Tab n w h) (b : Nat) : b ∈ (partsUp (clsN w h) n n).flatten ↔ b < n := by
  unfold partsUp
  rw [List.mem_flatten]
  constructor
  · rintro ⟨l, hl, hb⟩
    obtain ⟨a, _, rfl⟩ := List.mem_map.mp hl
    exact (mem_comp.mp hb).1
  · intro hb
    obtain ⟨a, h1, h2, h3⟩ := least_of T b hb
    exact ⟨_, List.mem_map.mpr ⟨a, mem_leasts.mpr ⟨by omega, h2⟩, rfl⟩, mem_comp.mpr ⟨hb, h3⟩⟩
theorem flat_nodup (T : Tab n w h) : ((partsUp (clsN w h) n n).flatten).Nodup := by
  rw [List.nodup_iff_pairwise_ne, List.pairwise_flatten]
  constructor
  · intro l hl
    obtain ⟨a, _, rfl⟩ := List.mem_map.mp hl
    exact (comp_pw _ _ _).imp fun z => Nat.ne_of_lt z
  · unfold partsUp
    rw [List.pairwise_map]
    refine List.Pairwise.imp_of_mem (fun {a b} ha hb hlt x hx y hy e => ?_) (leasts_pw (clsN w h) n)
    subst e
    obtain ⟨han, _⟩ := mem_leasts.mp ha
    obtain ⟨hbn, hbl⟩ := mem_leasts.mp hb
    have h1 := (mem_comp.mp hx).2
    have h2 := (mem_comp.mp hy).2
    exact leastB_iff.mp hbl a hlt (Rc.transT h1 (Rc_csym T hbn h2))
theorem flat_srt (T : Tab n w h) : srt (cI (partsUp (clsN w h) n n).flatten) = rng n :=
  srt_risen (flat_nodup T) (List.pairwise_lt_range (n := n)) fun b => by rw [flat_mem T, List.mem_range]
theorem flat_len (T : Tab n w h) : ((partsUp (clsN w h) n n).flatten).length ≤ n :=
  len_of_nodup (flat_nodup T) fun x hx => (flat_mem T x).mp hx
theorem parts_len (T : Tab n w h) : (partsUp (clsN w h) n n).length ≤ n := by
  unfold partsUp leasts
  rw [List.length_map]
  have := List.length_filter_le (leastB (clsN w h)) (List.range n)
  rwa [List.length_range] at this
theorem parts_pos (T : Tab n w h) : 0 < (partsUp (clsN w h) n n).length := by
  obtain ⟨a, h1, h2, h3⟩ := least_of T 0 T.one
  have : a ∈ leasts (clsN w h) n := mem_leasts.mpr ⟨by have := T.one; omega, h2⟩
  unfold partsUp
  rw [List.length_map]
  exact List.length_pos_of_mem this
/-! wider and wider -/
def wide (w h : List Int) (n : Nat) (X : List Nat) : List Nat := (List.range n).filter fun b => decide (b ∈ X ∨ b ∈ X.map (ap w) ∨ b ∈ X.map (ap h))
theorem wide_pw (w h : List Int) (n : Nat) (X : List Nat) : (wide w h n X).Pairwise (· < ·) := (List.pairwise_lt_range (n := n)).filter _
theorem mem_wide (T : Tab n w h) {X : List Nat} (hX : ∀ x ∈ X, x < n) {b : Nat} : b ∈ wide w h n X ↔ b ∈ X ∨ b ∈ X.map (ap w) ∨ b ∈ X.map (ap h) := by
  unfold wide
  rw [List.mem_filter, List.mem_range, decide_eq_true_eq]
  refine ⟨fun z => z.2, fun z => ⟨?_, z⟩⟩
  rcases z with z | z | z
  · exact hX b z
  · obtain ⟨x, hx, rfl⟩ := List.mem_map.mp z
    exact (T.w.ap (hX x hx)).2
  · obtain ⟨x, hx, rfl⟩ := List.mem_map.mp z
    exact (T.h.ap (hX x hx)).2
theorem wide_stop (T : Tab n w h) {X : List Nat} {c : Nat} (hp : X.Pairwise (· < ·)) (hc : c ∈ X) (hcn : c < n) (hr : ∀ x ∈ X, Rc (clsN w h) c x) (he : wide w h n X = X) : X = compOf (clsN w h) n c := by
  have hX : ∀ x ∈ X, x < n := fun x hx => Rc_clt T hcn (hr x hx)
  refine pwN_uniq hp (comp_pw _ _ _) fun b => ?_
  rw [mem_comp]
  constructor
  · exact fun hb => ⟨hX b hb, hr b hb⟩
  · rintro ⟨hbn, h2⟩
    clear hbn
    induction h2 with
    | refl => exact hc
    | step _ hm ih =>
      rw [← he, mem_wide T hX]
      unfold clsN at hm
      simp only [List.mem_cons, List.not_mem_nil, or_false] at hm
      rcases hm with rfl | rfl
      · exact .inr (.inl (List.mem_map.mpr ⟨_, ih, rfl⟩))
      · exact .inr (.inr (List.mem_map.mpr ⟨_, ih, rfl⟩))
theorem wide_grow (T : Tab n w h) {X : List Nat} (hp : X.Pairwise (· < ·)) (hX : ∀ x ∈ X, x < n) (he : wide w h n X ≠ X) : X.length < (wide w h n X).length := by
  apply Classical.byContradiction
  intro hn
  refine he (pwN_uniq (wide_pw w h n X) hp fun b => ⟨fun hb => ?_, fun hb => (mem_wide T hX).mpr (.inl hb)⟩)
  apply Classical.byContradiction
  intro hnb
  have nd : (b :: X).Nodup := List.nodup_cons.mpr ⟨hnb, hp.imp fun z => Nat.ne_of_lt z⟩
  have := nodup_le (ys := wide w h n X) nd fun x hx => by
    rcases List.mem_cons.mp hx with rfl | hx
    · exact hb
    · exact (mem_wide T hX).mpr (.inl hx)
  rw [List.length_cons] at this
  omega
end
/-! two halves -/
theorem halves_trn {m n : Nat} (hm : m ≤ n) {xs ys : List Int} (h1 : Trn m xs) (h2 : Trn (n - m) ys) : Trn n (xs ++ ys.map fun c => (m : Int) + c) := by
  refine ⟨?_⟩
  have e : rng n = rng m ++ (rng (n - m)).map fun c => (m : Int) + c := by
    unfold rng
    rw [List.map_map]
    have : List.range n = List.range m ++ (List.range (n - m)).map (m + ·) := by
      have h := List.range_add (n := m) (m := n - m)
      rwa [Nat.add_sub_cancel' hm] at h
    rw [this, List.map_append, List.map_map]
    congr 1
  rw [e]
  exact h1.perm.append (h2.perm.map _)
end KT
namespace KT
open PySem PySem.Spec PySem.SeqAt PySem.W PyProof.Rows L2
/-! rows of numbers, in order -/
def ltI (xs ys : List Int) : Bool := dataLt (L xs).py (L ys).py
theorem py_intsL (xs : List Int) : (L xs).py = .list (xs.map PyData.int) := by
  show PyData.list (pys (xs.map D.int)) = _
  congr 1
  induction xs with
  | nil => rfl
  | cons x xs ih => rw [List.map_cons, pys, ih]; rfl
theorem ltI_nil (ys : List Int) : ltI [] ys = decide (ys ≠ []) := by
  cases ys with
  | nil => decide +kernel
  | cons y ys =>
    unfold ltI dataLt
    rw [py_intsL, py_intsL]
    show PyProof.Rows.lexLt itemOrd (keyToksAll []) (keyToksAll (.int y :: ys.map PyData.int)) = _
    rw [toks_all_cons]
    show PyProof.Rows.lexLt itemOrd [.inl 0] (.inl 1 :: _) = _
    rw [lex_atom (by simp)]
    simp only [ne_eq, reduceCtorEq, not_false_eq_true, decide_true]
    decide +kernel
theorem ltI_cons (x y : Int) (xs ys : List Int) : ltI (x :: xs) (y :: ys) = if x = y then ltI xs ys else decide (x < y) := by
  unfold ltI
  simp only [py_intsL, List.map_cons]
  show PyProof.Rows.lexLt itemOrd (keyToksAll (.int x :: xs.map PyData.int)) (keyToksAll (.int y :: ys.map PyData.int)) = _
  by_cases e : x = y
  · rw [if_pos e, dataLt_all_yes rfl (by rw [e]; simp [PyData.eqv])]
    rfl
  · rw [if_neg e, dataLt_all_no rfl (by simp [PyData.eqv, e])]
    show PyProof.Rows.lexLt itemOrd [.inl x] [.inl y] = _
    simp [PyProof.Rows.lexLt, itemOrd, e]
    rfl
/-! all turns, in order -/
def longerRow (n : Nat) (row : List Int) : List (List Int) := ((List.range n).filter fun (c : Nat) => !decide ((c : Int) ∈ row)).map fun (c : Nat) => row ++ [(c : Int)]
def turnsK (n : Nat) : Nat → List (List Int)
  | 0 => [[]]
  | k + 1 => (turnsK n k).flatMap (longerRow n)
abbrev turns (n : Nat) : List (List Int) := turnsK n n
theorem mem_longer {n : Nat} {row r : List Int} : r ∈ longerRow n row ↔ ∃ c : Nat, c < n ∧ (c : Int) ∉ row ∧ r = row ++ [(c : Int)] := by
  unfold longerRow
  rw [List.mem_map]
  constructor
  · rintro ⟨c, hc, rfl⟩
    rw [List.mem_filter, List.mem_range] at hc
    exact ⟨c, hc.1, by simpa using hc.2, rfl⟩
  · rintro ⟨c, h1, h2, rfl⟩
    exact ⟨c, by rw [List.mem_filter, List.mem_range]; exact ⟨h1, by simpa using h2⟩, rfl⟩
theorem turnsK_iff {n : Nat} : ∀ {k : Nat} {r : List Int}, r ∈ turnsK n k ↔ r.length = k ∧ r.Nodup ∧ ∀ x ∈ r, 0 ≤ x ∧ x < n
  | 0, r => by
    show r ∈ [[]] ↔ _
    rw [List.mem_singleton]
    constructor
    · rintro rfl
      exact ⟨rfl, List.nodup_nil, fun x h => by cases h⟩
    · intro h
      exact List.eq_nil_of_length_eq_zero h.1
  | k + 1, r => by
    show r ∈ (turnsK n k).flatMap (longerRow n) ↔ _
    rw [List.mem_flatMap]
    constructor
    · rintro ⟨row, h1, h2⟩
      obtain ⟨c, hc, hm, rfl⟩ := mem_longer.mp h2
      obtain ⟨a1, a2, a3⟩ := turnsK_iff.mp h1
      refine ⟨by rw [List.length_append, a1]; rfl, ?_, fun x hx => ?_⟩
      · rw [List.nodup_append]
        exact ⟨a2, (by simp), fun a ha b hb e => by rw [List.mem_singleton.mp hb] at e; exact hm (e ▸ ha)⟩
      · rcases List.mem_append.mp hx with hx | hx
        · exact a3 x hx
        · rw [List.mem_singleton.mp hx]; omega
    · rintro ⟨h1, h2, h3⟩
      have hne : r ≠ [] := fun e => by rw [e] at h1; cases h1
      have e := List.dropLast_concat_getLast hne
      have hl := h3 (r.getLast hne) (List.getLast_mem hne)
      have e3 : ((r.getLast hne).toNat : Int) = r.getLast hne := by omega
      rw [← e] at h2
      rw [List.nodup_append] at h2
      refine ⟨r.dropLast, turnsK_iff.mpr ⟨by rw [List.length_dropLast, h1]; rfl, h2.1, fun x hx => h3 x ((List.dropLast_sublist r).subset hx)⟩, mem_longer.mpr ⟨(r.getLast hne).toNat, by omega, ?_, ?_⟩⟩
      · rw [e3]
        exact fun hm => h2.2.2 _ hm _ (List.mem_singleton.mpr rfl) rfl
      · rw [e3, e]
theorem turns_iff {n : Nat} {r : List Int} : r ∈ turns n ↔ Trn n r := by
  rw [turnsK_iff]
  constructor
  · rintro ⟨h1, h2, h3⟩
    exact ⟨perm_of_sub h2 (fun x hx => mem_rng.mpr (h3 x hx)) (by rw [rng_length, h1]; exact Nat.le_refl _)⟩
  · intro T
    exact ⟨T.len, T.nodup, fun x hx => T.mem.mp hx⟩
theorem longer_len (n : Nat) (row : List Int) : (longerRow n row).length ≤ n := by
  unfold longerRow
  rw [List.length_map]
  have := List.length_filter_le (fun (c : Nat) => !decide ((c : Int) ∈ row)) (List.range n)
  rwa [List.length_range] at this
theorem flatM_len {α β : Type} (f : α → List β) (m : Nat) (h : ∀ x, (f x).length ≤ m) : ∀ (xs : List α), (xs.flatMap f).length ≤ xs.length * m
  | [] => by simp
  | x :: xs => by
    have h1 := h x
    have h2 := flatM_len f m h xs
    rw [List.flatMap_cons, List.length_append, List.length_cons, Nat.add_mul]
    omega
theorem turnsK_len (n : Nat) : ∀ k, (turnsK n k).length ≤ n ^ k
  | 0 => Nat.le_refl _
  | k + 1 => by
    have h1 := flatM_len (longerRow n) n (longer_len n) (turnsK n k)
    have h2 := turnsK_len n k
    rw [Nat.pow_succ]
    exact Nat.le_trans h1 (Nat.mul_le_mul_right _ h2)
theorem turnsK_len4 {n k : Nat} (hn : n ≤ 4) (hk : k ≤ 4) : (turnsK n k).length ≤ 256 := by
  refine Nat.le_trans (turnsK_len n k) ?_
  exact Nat.le_trans (Nat.pow_le_pow_left hn k) (Nat.pow_le_pow_right (by decide) hk)
/-! the order -/
theorem ltI_snoc {xs : List Int} {a b : Int} (h : a < b) : ltI (xs ++ [a]) (xs ++ [b]) = true := by
  induction xs with
  | nil =>
    show ltI [a] [b] = true
    rw [ltI_cons, if_neg (by omega)]
    exact decide_eq_true h
  | cons x xs ih =>
    show ltI (x :: (xs ++ [a])) (x :: (xs ++ [b])) = true
    rw [ltI_cons, if_pos rfl, ih]
theorem ltI_app : ∀ {xs ys : List Int} (as bs : List Int), xs.length = ys.length → ltI xs ys = true → ltI (xs ++ as) (ys ++ bs) = true
  | [], [], _, _, _, h => by rw [ltI_nil] at h; simp at h
  | [], _ :: _, _, _, h, _ => by cases h
  | _ :: _, [], _, _, h, _ => by cases h
  | x :: xs, y :: ys, as, bs, hl, h => by
    show ltI (x :: (xs ++ as)) (y :: (ys ++ bs)) = true
    rw [ltI_cons] at h ⊢
    by_cases e : x = y
    · rw [if_pos e] at h ⊢
      exact ltI_app as bs (Nat.succ.inj hl) h
    · rw [if_neg e] at h ⊢
      exact h
theorem turnsK_pw (n : Nat) : ∀ k, (turnsK n k).Pairwise fun a b => ltI a b = true
  | 0 => List.pairwise_singleton _ _
  | k + 1 => by
    have ih := turnsK_pw n k
    have hl : ∀ r ∈ turnsK n k, r.length = k := fun r hr => (turnsK_iff.mp hr).1
    show ((turnsK n k).flatMap (longerRow n)).Pairwise _
    generalize turnsK n k = rows at ih hl
    induction rows with
    | nil => exact .nil
    | cons row rows ih2 =>
      rw [List.pairwise_cons] at ih
      rw [List.flatMap_cons, List.pairwise_append]
      refine ⟨?_, ih2 ih.2 (fun r hr => hl r (List.mem_cons_of_mem _ hr)), fun a ha b hb => ?_⟩
      · unfold longerRow
        rw [List.pairwise_map]
        exact ((List.pairwise_lt_range (n := n)).filter _).imp fun h => ltI_snoc (by omega)
      · obtain ⟨c, _, _, rfl⟩ := mem_longer.mp ha
        obtain ⟨row', hr', hb'⟩ := List.mem_flatMap.mp hb
        obtain ⟨c', _, _, rfl⟩ := mem_longer.mp hb'
        exact ltI_app _ _ (by rw [hl row List.mem_cons_self, hl row' (List.mem_cons_of_mem _ hr')]) (ih.1 row' hr')
/-! the first that is good -/
def sizeF (ok : List Int → List Int → Bool) (ts : List (List Int)) : Option (List Int × List Int) := ts.findSome? fun w => (ts.find? (ok w)).map fun h => (w, h)
def firstT (ok : List Int → List Int → Bool) : Nat → Option (List Int × List Int)
  | 0 => none
  | m + 1 => (firstT ok m).or (sizeF ok (turns (m + 1)))
theorem firstT_keep {ok : List Int → List Int → Bool} {r : List Int × List Int} {i : Nat} (h : firstT ok i = some r) : ∀ {m : Nat}, i ≤ m → firstT ok m = some r := fun {m} hm => by
  induction hm with
  | refl => exact h
  | step _ ih => show (firstT ok _).or _ = _; rw [ih]; rfl
theorem find_at {p : List Int → Bool} {ts : List (List Int)} {b : Nat} {h : List Int} (hb : ts[b]? = some h) (h0 : (ts.take b).find? p = none) (hp : p h = true) : ts.find? p = some h := by
  have hl := (List.getElem?_eq_some_iff.mp hb).1
  have e : ts = ts.take b ++ h :: ts.drop (b + 1) := by
    have := (List.take_append_drop b ts).symm
    rw [List.drop_eq_getElem_cons hl, (List.getElem?_eq_some_iff.mp hb).2] at this
    exact this
  rw [e, List.find?_append, h0, List.find?_cons_of_pos hp]
  rfl
theorem find_next {p : List Int → Bool} {ts : List (List Int)} {b : Nat} {h : List Int} (hb : ts[b]? = some h) (h0 : (ts.take b).find? p = none) (hp : p h = false) : (ts.take (b + 1)).find? p = none := by
  rw [take_snoc hb, List.find?_append, h0]
  simp [hp]
theorem some_at {f : List Int → Option (List Int × List Int)} {ts : List (List Int)} {b : Nat} {h : List Int} {r : List Int × List Int} (hb : ts[b]? = some h) (h0 : (ts.take b).findSome? f = none) (hp : f h = some r) : ts.findSome? f = some r := by
  have hl := (List.getElem?_eq_some_iff.mp hb).1
  have e : ts = ts.take b ++ h :: ts.drop (b + 1) := by
    have := (List.take_append_drop b ts).symm
    rw [List.drop_eq_getElem_cons hl, (List.getElem?_eq_some_iff.mp hb).2] at this
    exact this
  rw [e, List.findSome?_append, h0, List.findSome?_cons, hp]
  rfl
theorem some_next {f : List Int → Option (List Int × List Int)} {ts : List (List Int)} {b : Nat} {h : List Int} (hb : ts[b]? = some h) (h0 : (ts.take b).findSome? f = none) (hp : f h = none) : (ts.take (b + 1)).findSome? f = none := by
  rw [take_snoc hb, List.findSome?_append, h0]
  simp [hp]
theorem sizeF_some {ok : List Int → List Int → Bool} {ts : List (List Int)} {w h : List Int} (e : sizeF ok ts = some (w, h)) : w ∈ ts ∧ h ∈ ts ∧ ok w h = true := by
  unfold sizeF at e
  obtain ⟨x, hx, e2⟩ := List.exists_of_findSome?_eq_some e
  rw [Option.map_eq_some_iff] at e2
  obtain ⟨y, hy, e3⟩ := e2
  cases e3
  exact ⟨hx, List.mem_of_find?_eq_some hy, List.find?_some hy⟩
theorem firstT_some {ok : List Int → List Int → Bool} {w h : List Int} : ∀ {m : Nat}, firstT ok m = some (w, h) → ∃ n, 1 ≤ n ∧ n ≤ m ∧ Trn n w ∧ Trn n h ∧ ok w h = true
  | 0, e => by cases e
  | m + 1, e => by
    have e : (firstT ok m).or (sizeF ok (turns (m + 1))) = some (w, h) := e
    cases e1 : firstT ok m with
    | some r =>
      rw [e1] at e
      obtain ⟨n, h1, h2, h3⟩ := firstT_some (e1.trans e)
      exact ⟨n, h1, by omega, h3⟩
    | none =>
      rw [e1] at e
      obtain ⟨h1, h2, h3⟩ := sizeF_some e
      exact ⟨m + 1, by omega, Nat.le_refl _, turns_iff.mp h1, turns_iff.mp h2, h3⟩
theorem find_min {p : List Int → Bool} {x y : List Int} : ∀ {ts : List (List Int)}, ts.Pairwise (fun a b => ltI a b = true) → ts.find? p = some y → x ∈ ts → p x = true → x = y ∨ ltI y x = true
  | [], _, e, _, _ => by cases e
  | z :: ts, hp, e, hx, hpx => by
    rw [List.pairwise_cons] at hp
    cases hz : p z with
    | true =>
      rw [List.find?_cons_of_pos hz] at e
      cases e
      rcases List.mem_cons.mp hx with rfl | hx
      · exact .inl rfl
      · exact .inr (hp.1 x hx)
    | false =>
      rw [List.find?_cons_of_neg (by rw [hz]; simp)] at e
      rcases List.mem_cons.mp hx with rfl | hx
      · rw [hz] at hpx; cases hpx
      · exact find_min hp.2 e hx hpx
theorem some_min {f : List Int → Option (List Int × List Int)} (hf : ∀ {w r}, f w = some r → r.1 = w) {r : List Int × List Int} {x : List Int} : ∀ {ts : List (List Int)}, ts.Pairwise (fun a b => ltI a b = true) → ts.findSome? f = some r → x ∈ ts → (f x).isSome = true → (x = r.1 ∧ f x = some r) ∨ ltI r.1 x = true
  | [], _, e, _, _ => by cases e
  | z :: ts, hp, e, hx, hpx => by
    rw [List.pairwise_cons] at hp
    rw [List.findSome?_cons] at e
    cases hz : f z with
    | some r' =>
      rw [hz] at e
      cases e
      have hr := hf hz
      rcases List.mem_cons.mp hx with rfl | hx
      · exact .inl ⟨hr.symm, hz⟩
      · rw [hr]
        exact .inr (hp.1 x hx)
    | none =>
      rw [hz] at e
      rcases List.mem_cons.mp hx with rfl | hx
      · rw [hz] at hpx; cases hpx
      · exact some_min hf hp.2 e hx hpx
/-- what is told is no later than any good one -/
theorem sizeF_min {ok : List Int → List Int → Bool} {n : Nat} {w h : List Int} (hw : Trn n w) (hh : Trn n h) (hok : ok w h = true) : ∃ fw fh, sizeF ok (turns n) = some (fw, fh) ∧ ((fw = w ∧ (h = fh ∨ ltI fh h = true)) ∨ ltI fw w = true) := by
  have mw := turns_iff.mpr hw
  have mh := turns_iff.mpr hh
  have ff : ((turns n).find? (ok w)).isSome = true := List.find?_isSome.mpr ⟨h, mh, hok⟩
  have hs : ((fun w => ((turns n).find? (ok w)).map fun h => (w, h)) w).isSome = true := by
    show (((turns n).find? (ok w)).map _).isSome = true
    rw [Option.isSome_map]
    exact ff
  have hne : sizeF ok (turns n) ≠ none := fun e => by
    unfold sizeF at e
    rw [List.findSome?_eq_none_iff] at e
    have := e w mw
    have hs : (Option.map (fun h => (w, h)) (List.find? (ok w) (turns n))).isSome = true := hs
    rw [this] at hs
    cases hs
  cases e : sizeF ok (turns n) with
  | none => exact absurd e hne
  | some r =>
    obtain ⟨fw, fh⟩ := r
    refine ⟨fw, fh, rfl, ?_⟩
    have := some_min (f := fun w => ((turns n).find? (ok w)).map fun h => (w, h)) (fun {w r} hr => by
      rw [Option.map_eq_some_iff] at hr
      obtain ⟨y, _, rfl⟩ := hr
      rfl) (turnsK_pw n n) e mw hs
    rcases this with ⟨h1, h2⟩ | h1
    · left
      have h1 : w = fw := h1
      refine ⟨h1.symm, ?_⟩
      rw [Option.map_eq_some_iff] at h2
      obtain ⟨y, hy, e2⟩ := h2
      cases e2
      exact find_min (turnsK_pw n n) hy mh hok
    · exact .inr h1
/-! one part, all rules kept -/
noncomputable def oneB (w h : List Int) : Bool := decide ((compOf (clsN w h) w.length 0).length = w.length)
def keptB (w h : List Int) (rs : List Rule) : Bool := (List.range rs.length).all fun k => (List.range w.length).all fun c => !broken w h rs k c
theorem keptB_iff {w h : List Int} {rs : List Rule} : keptB w h rs = true ↔ ∀ k, k < rs.length → ∀ c, c < w.length → broken w h rs k c = false := by
  unfold keptB
  rw [List.all_eq_true]
  constructor
  · intro H k hk c hc
    have := List.all_eq_true.mp (H k (List.mem_range.mpr hk)) c (List.mem_range.mpr hc)
    simpa using this
  · intro H k hk
    rw [List.all_eq_true]
    intro c hc
    rw [H k (List.mem_range.mp hk) c (List.mem_range.mp hc)]
    rfl
theorem fst_kept {w h : List Int} {rs : List Rule} {n : Nat} (hn : w.length = n) {r : Option (Nat × Nat)} (hF : FstP (broken w h rs) rs.length n r) : (pairD r).isNon = keptB w h rs := by
  subst hn
  match r, hF with
  | none, hF => exact (keptB_iff.mpr hF).symm
  | some (k, c), hF =>
    obtain ⟨h1, h2, h3, _⟩ := hF
    cases e : keptB w h rs with
    | false => rfl
    | true =>
      have := keptB_iff.mp e k h1 c h2
      rw [h3] at this
      cases this
noncomputable def okT (rs : List Rule) (w h : List Int) : Bool := oneB w h && keptB w h rs
section
variable {n : Nat} {w h : List Int}
theorem comp0_len (T : Tab n w h) : (compOf (clsN w h) n 0).length ≤ n := by
  refine len_of_nodup ((comp_pw _ _ _).imp fun z => Nat.ne_of_lt z) fun b hb => (mem_comp.mp hb).1
theorem one_parts (T : Tab n w h) : decide ((partsUp (clsN w h) n n).length = 1) = oneB w h := by
  have h1 := T.one
  unfold oneB
  rw [T.w.len]
  have l0 : leastB (clsN w h) 0 = true := leastB_iff.mpr fun a ha => absurd ha (Nat.not_lt_zero a)
  have mem0 : 0 ∈ leasts (clsN w h) n := mem_leasts.mpr ⟨by omega, l0⟩
  refine decide_eq_decide.mpr ⟨fun e => ?_, fun e => ?_⟩
  · unfold partsUp at e
    rw [List.length_map] at e
    obtain ⟨a, ha⟩ := List.length_eq_one_iff.mp e
    rw [ha] at mem0
    have := List.mem_singleton.mp mem0
    subst this
    have hf : (partsUp (clsN w h) n n).flatten = compOf (clsN w h) n 0 := by
      unfold partsUp
      rw [ha]
      simp
    have hm := flat_mem T
    rw [hf] at hm
    have nd : (compOf (clsN w h) n 0).Nodup := (comp_pw _ _ _).imp fun z => Nat.ne_of_lt z
    have := nodup_le (xs := List.range n) (ys := compOf (clsN w h) n 0) List.nodup_range fun x hx => (hm x).mpr (List.mem_range.mp hx)
    rw [List.length_range] at this
    have := comp0_len T
    omega
  · have all : ∀ b, b < n → Rc (clsN w h) 0 b := fun b hb => by
      obtain ⟨x, hx, _⟩ : b ∈ compOf (clsN w h) n 0 ∧ True ∧ True := by
        refine ⟨?_, trivial, trivial⟩
        by_cases hm : b ∈ compOf (clsN w h) n 0
        · exact hm
        · exfalso
          have nd : (b :: compOf (clsN w h) n 0).Nodup := List.nodup_cons.mpr ⟨hm, (comp_pw _ _ _).imp fun z => Nat.ne_of_lt z⟩
          have := len_of_nodup nd (n := n) fun x hx => by
            rcases List.mem_cons.mp hx with rfl | hx
            · exact hb
            · exact (mem_comp.mp hx).1
          rw [List.length_cons, e] at this
          omega
      exact (mem_comp.mp x).2
    unfold partsUp
    rw [List.length_map]
    have : leasts (clsN w h) n = [0] := by
      refine pwN_uniq (leasts_pw _ _) (List.pairwise_singleton _ _) fun b => ?_
      rw [List.mem_singleton]
      constructor
      · intro hb
        obtain ⟨hb1, hb2⟩ := mem_leasts.mp hb
        by_cases z : b = 0
        · exact z
        · exact absurd (all b hb1) (leastB_iff.mp hb2 0 (by omega))
      · rintro rfl
        exact mem0
    rw [this]
    rfl
end
theorem ltI_irr : ∀ xs : List Int, ltI xs xs = false
  | [] => by rw [ltI_nil]; simp
  | x :: xs => by rw [ltI_cons, if_pos rfl]; exact ltI_irr xs
theorem ltI_asym : ∀ {xs ys : List Int}, xs.length = ys.length → ltI xs ys = true → ltI ys xs = false
  | [], [], _, h => by rw [ltI_nil] at h; simp at h
  | [], _ :: _, h, _ => by cases h
  | _ :: _, [], h, _ => by cases h
  | x :: xs, y :: ys, hl, h => by
    rw [ltI_cons] at h ⊢
    by_cases e : x = y
    · rw [if_pos e] at h
      rw [if_pos e.symm]
      exact ltI_asym (Nat.succ.inj hl) h
    · rw [if_neg e] at h
      rw [if_neg fun z => e z.symm]
      have := of_decide_eq_true h
      exact decide_eq_false (by omega)
theorem alike_intsL : ∀ xs ys : List Int, alikeAll (xs.map PyData.int) (ys.map PyData.int) = true
  | [], _ => by simp [alikeAll]
  | _ :: _, [] => by simp [alikeAll]
  | x :: xs, y :: ys => by
    rw [List.map_cons, List.map_cons, alikeAll, alike_intsL xs ys]
    rfl
theorem alike_L (xs ys : List Int) : alike (L xs).py (L ys).py = true := by
  rw [py_intsL, py_intsL, alike]
  exact alike_intsL xs ys
def pairD2 (w h : List Int) : D := .lst [L w, L h]
theorem pair_py (w h : List Int) : (pairD2 w h).py = .list [(L w).py, (L h).py] := by
  show (D.lst [L w, L h]).py = _
  rw [D.py]
  simp only [pys]
theorem alike_pair (w h a b : List Int) : alike (pairD2 w h).py (pairD2 a b).py = true := by
  rw [pair_py, pair_py, alike, alikeAll, alikeAll, alikeAll, alike_L, alike_L]
  rfl
theorem lt_pair {w h fw fh : List Int} (l1 : fw.length = w.length) (l2 : fh.length = h.length) (H : (fw = w ∧ (h = fh ∨ ltI fh h = true)) ∨ ltI fw w = true) : dataLt (pairD2 w h).py (pairD2 fw fh).py = false := by
  rw [pair_py, pair_py]
  show PyProof.Rows.lexLt itemOrd (keyToksAll [(L w).py, (L h).py]) (keyToksAll [(L fw).py, (L fh).py]) = false
  rcases H with ⟨rfl, H⟩ | H
  · rw [dataLt_all_yes (alike_L _ _) (by rw [eqv_ints]; simp)]
    rcases H with rfl | H
    · rw [dataLt_all_yes (alike_L _ _) (by rw [eqv_ints]; simp)]
      decide +kernel
    · rw [dataLt_all_no (alike_L _ _) (by
        rw [eqv_ints, decide_eq_false]
        rintro rfl
        rw [ltI_irr] at H
        cases H)]
      exact ltI_asym l2 H
  · rw [dataLt_all_no (alike_L _ _) (by
      rw [eqv_ints, decide_eq_false]
      rintro rfl
      rw [ltI_irr] at H
      cases H)]
    exact ltI_asym l1 H
theorem oneB_of {n : Nat} {w h : List Int} (T : Tab n w h) (H : ∀ b, b < n → Rc (clsN w h) 0 b) : oneB w h = true := by
  unfold oneB
  rw [T.w.len]
  have : compOf (clsN w h) n 0 = List.range n := pwN_uniq (comp_pw _ _ _) (List.pairwise_lt_range (n := n)) fun b => by
    rw [mem_comp, List.mem_range]
    exact ⟨fun z => z.1, fun z => ⟨z, H b z⟩⟩
  rw [this, List.length_range]
  exact decide_eq_true rfl
def ring4 : List Int := [1, 2, 3, 0]
theorem ring4_trn : Trn 4 ring4 := Trn.of (xs := ring4) (isT_of (n := 4) (by decide))
theorem ring4_one {w : List Int} (hw : Trn 4 w) : oneB w ring4 = true := by
  refine oneB_of (n := 4) ⟨hw, ring4_trn, by decide, by decide⟩ fun b hb => ?_
  have s1 : Rc (clsN w ring4) 0 1 := .step .refl (by unfold clsN; exact List.mem_cons_of_mem _ (List.mem_singleton.mpr rfl))
  have s2 : Rc (clsN w ring4) 0 2 := .step s1 (by unfold clsN; exact List.mem_cons_of_mem _ (List.mem_singleton.mpr rfl))
  have s3 : Rc (clsN w ring4) 0 3 := .step s2 (by unfold clsN; exact List.mem_cons_of_mem _ (List.mem_singleton.mpr rfl))
  match b, hb with
  | 0, _ => exact .refl
  | 1, _ => exact s1
  | 2, _ => exact s2
  | 3, _ => exact s3
/-! rules that a table keeps -/
def nine2 : List (List Nat) := [[109, 98, 100], [102, 122, 100], [122], [102, 102, 122, 115, 100], [102, 98, 100], [109, 109, 98, 100, 100], [109, 122, 100], [102, 122, 100, 100], [109, 98, 115, 100]]
theorem nine2_ix (c : Int) : ∃ (j : Nat) (l : List Nat), c % 9 = j ∧ nine2[j]? = some l ∧ l ∈ nine2 := by
  have h1 := Int.emod_nonneg c (b := 9) (by omega)
  have h2 := Int.emod_lt_of_pos c (b := 9) (by omega)
  have hj : (c % 9).toNat < nine2.length := by simp [nine2]; omega
  exact ⟨(c % 9).toNat, nine2[(c % 9).toNat], by omega, List.getElem?_eq_getElem hj, List.getElem_mem hj⟩
def nine2D : List D := [.str (S [109, 98, 100]), .str (S [102, 122, 100]), .str (S [122]), .str (S [102, 102, 122, 115, 100]), .str (S [102, 98, 100]), .str (S [109, 109, 98, 100, 100]), .str (S [109, 122, 100]), .str (S [102, 122, 100, 100]), .str (S [109, 98, 115, 100])]
theorem nine2D_eq : nine2D = nine2.map fun z => D.str (S z) := rfl
theorem nine2D_get {j : Nat} {l : List Nat} (h : nine2[j]? = some l) : nine2D[j]? = some (.str (S l)) := by rw [nine2D_eq, List.getElem?_map, h]; rfl
theorem nine2_good : ∀ l ∈ nine2, (okW l && !sexAt true l) = true ∧ l.length ≤ 60 := by decide
def metB (w h : List Int) (ls : List Nat) (c : Nat) : Bool := decide ((led w h ls (true, c)).2 = ap w c)
def walkK (cell : Int) : List Nat := nine2[(cell % 9).toNat]?.getD []
def ruleK (w h : List Int) (n : Nat) (cell : Int) : List Rule :=
  if (List.range n).all (metB w h (walkK cell)) = true then [(true, walkK cell)] else if (List.range n).any (metB w h (walkK cell)) = true then [] else [(false, walkK cell)]
def keptOf (w h : List Int) (n : Nat) (cells : List Int) : List Rule := cells.flatMap (ruleK w h n)
theorem walkK_good (cell : Int) : (okW (walkK cell) && !sexAt true (walkK cell)) = true := by
  obtain ⟨j, l, hj, hl, hm⟩ := nine2_ix cell
  have e : walkK cell = l := by
    unfold walkK
    rw [show (cell % 9).toNat = j by omega, hl]
    rfl
  rw [e]
  exact (nine2_good l hm).1
theorem ruleK_ok {w h : List Int} {n : Nat} {cell : Int} {r : Rule} (hr : r ∈ ruleK w h n cell) : good1 r = true ∧ ∀ c, c < n → metB w h r.2 c = r.1 := by
  have hg := walkK_good cell
  unfold ruleK at hr
  split at hr
  · rename_i h1
    rw [List.mem_singleton.mp hr]
    refine ⟨hg, fun c hc => ?_⟩
    exact List.all_eq_true.mp h1 c (List.mem_range.mpr hc)
  · split at hr
    · cases hr
    · rename_i h1 h2
      rw [List.mem_singleton.mp hr]
      refine ⟨hg, fun c hc => ?_⟩
      cases e : metB w h (walkK cell) c with
      | false => rfl
      | true => exact absurd (List.any_eq_true.mpr ⟨c, List.mem_range.mpr hc, e⟩) h2
theorem keptOf_good {w h : List Int} {n : Nat} {cells : List Int} : ∀ r ∈ keptOf w h n cells, good1 r = true := fun r hr => by
  obtain ⟨c, _, h2⟩ := List.mem_flatMap.mp hr
  exact (ruleK_ok h2).1
theorem ruleK_len (w h : List Int) (n : Nat) (cell : Int) : (ruleK w h n cell).length ≤ 1 := by
  unfold ruleK
  split
  · exact Nat.le_refl _
  · split
    · exact Nat.zero_le _
    · exact Nat.le_refl _
theorem keptOf_len (w h : List Int) (n : Nat) (cells : List Int) : (keptOf w h n cells).length ≤ cells.length := by
  have := flatM_len (ruleK w h n) 1 (ruleK_len w h n) cells
  unfold keptOf
  omega
theorem keptOf_kept {w h : List Int} {n : Nat} (hn : w.length = n) {cells : List Int} : keptB w h (keptOf w h n cells) = true := by
  subst hn
  rw [keptB_iff]
  intro k hk c hc
  have hr : (keptOf w h w.length cells)[k]? = some (keptOf w h w.length cells)[k] := List.getElem?_eq_getElem hk
  obtain ⟨x, _, h2⟩ := List.mem_flatMap.mp (List.getElem_mem hk)
  have h3 := (ruleK_ok h2).2 c hc
  unfold broken
  rw [hr]
  unfold metB at h3
  show (decide _ != _) = false
  rw [h3]
  simp
theorem pair_dep (w h : List Int) : (pairD2 w h).dep ≤ 20 := by
  have hi : ∀ x : Int, (D.int x).dep ≤ 0 := fun x => by simp [D.dep]
  have hl : ∀ xs : List Int, (L xs).dep ≤ 1 := fun xs => by
    show (D.lst (xs.map D.int)).dep ≤ 1
    rw [D.dep]
    have := deps_map D.int 0 xs hi
    omega
  show (D.lst ([w, h].map fun x => L x)).dep ≤ 20
  rw [D.dep]
  have := deps_map (fun x : List Int => L x) 1 [w, h] hl
  omega
theorem pair_pur (w h : List Int) : (pairD2 w h).pur = true := by
  unfold pairD2
  rw [D.pur, purs, purs, purs, pur_ints, pur_ints]
  rfl
theorem pair_nl2 (w h : List Int) : (pairD2 w h).nl = true := by
  unfold pairD2
  rw [D.nl, nls, nls, nls, nl_ints, nl_ints]
  rfl
end KT
namespace KT
open PySem PySem.Spec PySem.SeqAt PyProof.Rows L2
/-! a walk's sex and turn -/
abbrev Stt := Bool × List Nat
def mv (w h : List Int) (st : Stt) (l : Nat) : Stt := (nextS st.1 l, st.2.map fun c => nextC w h st.1 c l)
def runS (w h : List Int) (st : Stt) (ls : List Nat) : Stt := ls.foldl (mv w h) st
theorem runS_snoc (w h : List Int) (st : Stt) (ls : List Nat) (l : Nat) : runS w h st (ls ++ [l]) = mv w h (runS w h st ls) l := by
  unfold runS
  rw [List.foldl_append]
  rfl
theorem runS_led (w h : List Int) : ∀ (ls : List Nat) (s : Bool) (cs : List Nat), runS w h (s, cs) ls = (sexAt s ls, cs.map fun c => (led w h ls (s, c)).2)
  | [], s, cs => by
    show (s, cs) = (s, cs.map fun c => c)
    rw [List.map_id']
  | l :: ls, s, cs => by
    show runS w h (nextS s l, cs.map fun c => nextC w h s c l) ls = _
    rw [runS_led w h ls, List.map_map]
    rfl
def okL (ls : List Nat) : Prop := ∀ l ∈ ls, l ∈ lets
theorem okL_snoc {ls : List Nat} {l : Nat} (h : okL ls) (hl : l ∈ lets) : okL (ls ++ [l]) := fun x hx => by
  rcases List.mem_append.mp hx with hx | hx
  · exact h x hx
  · rw [List.mem_singleton.mp hx]; exact hl
/-- so far, and no nearer -/
def IsDist (w h : List Int) (st0 st : Stt) (k : Nat) : Prop := (∃ ls, okL ls ∧ ls.length = k ∧ runS w h st0 ls = st) ∧ ∀ ls, okL ls → runS w h st0 ls = st → k ≤ ls.length
section
variable {w h : List Int} {st0 st : Stt} {k : Nat}
theorem IsDist.uniq {j : Nat} (a : IsDist w h st0 st k) (b : IsDist w h st0 st j) : k = j := by
  obtain ⟨⟨l1, a1, a2, a3⟩, a4⟩ := a
  obtain ⟨⟨l2, b1, b2, b3⟩, b4⟩ := b
  have := a4 l2 b1 b3
  have := b4 l1 a1 a3
  omega
theorem exDist : ∀ (m : Nat) (ls : List Nat), ls.length ≤ m → okL ls → runS w h st0 ls = st → ∃ k, k ≤ ls.length ∧ IsDist w h st0 st k
  | 0, ls, hl, ok, e => ⟨ls.length, Nat.le_refl _, ⟨ls, ok, rfl, e⟩, fun l2 _ _ => by omega⟩
  | m + 1, ls, hl, ok, e => by
    by_cases hx : ∃ l2, okL l2 ∧ runS w h st0 l2 = st ∧ l2.length < ls.length
    · obtain ⟨l2, o2, e2, h2⟩ := hx
      obtain ⟨k, k1, k2⟩ := exDist m l2 (by omega) o2 e2
      exact ⟨k, by omega, k2⟩
    · refine ⟨ls.length, Nat.le_refl _, ⟨ls, ok, rfl, e⟩, fun l2 o2 e2 => ?_⟩
      by_cases z : ls.length ≤ l2.length
      · exact z
      · exact absurd ⟨l2, o2, e2, by omega⟩ hx
/-- one step on -/
theorem dist_step {st' : Stt} {l : Nat} (a : IsDist w h st0 st k) (hl : l ∈ lets) (e : mv w h st l = st') : ∃ j, j ≤ k + 1 ∧ IsDist w h st0 st' j := by
  obtain ⟨⟨ls, a1, a2, a3⟩, _⟩ := a
  obtain ⟨j, j1, j2⟩ := exDist (w := w) (h := h) (st0 := st0) (st := st') _ (ls ++ [l]) (Nat.le_refl _) (okL_snoc a1 hl) (by rw [runS_snoc, a3, e])
  rw [List.length_append, a2] at j1
  exact ⟨j, j1, j2⟩
theorem dist_back (a : IsDist w h st0 st (k + 1)) : ∃ p l, l ∈ lets ∧ IsDist w h st0 p k ∧ mv w h p l = st := by
  obtain ⟨⟨ls, a1, a2, a3⟩, a4⟩ := a
  have hne : ls ≠ [] := fun e => by rw [e] at a2; cases a2
  have e := List.dropLast_concat_getLast hne
  have ok' : okL ls.dropLast := fun x hx => a1 x ((List.dropLast_sublist ls).subset hx)
  have hl := a1 _ (List.getLast_mem hne)
  have el : ls.dropLast.length = k := by rw [List.length_dropLast, a2]; rfl
  refine ⟨runS w h st0 ls.dropLast, ls.getLast hne, hl, ⟨⟨ls.dropLast, ok', el, rfl⟩, fun l2 o2 e2 => ?_⟩, by rw [← runS_snoc, e, a3]⟩
  have := a4 (l2 ++ [ls.getLast hne]) (okL_snoc o2 hl) (by rw [runS_snoc, e2, ← runS_snoc, e, a3])
  rw [List.length_append] at this
  simp at this
  omega
theorem dist_zero : IsDist w h st0 st 0 ↔ st = st0 := by
  constructor
  · rintro ⟨⟨ls, _, a2, a3⟩, _⟩
    rw [List.eq_nil_of_length_eq_zero a2] at a3
    exact a3.symm
  · rintro rfl
    exact ⟨⟨[], (fun x hx => by cases hx), rfl, rfl⟩, fun ls _ _ => Nat.zero_le _⟩
end
/-! how many there are -/
theorem nodup_leG {α : Type} [DecidableEq α] {xs ys : List α} (h1 : xs.Nodup) (h2 : ∀ x ∈ xs, x ∈ ys) : xs.length ≤ ys.length := by
  by_cases h : xs.length ≤ ys.length
  · exact h
  · have := (perm_of_sub h1 h2 (by omega)).length_eq
    omega
def allS (n : Nat) : List Stt := (turns n).map (fun r => (true, r.map Int.toNat)) ++ (turns n).map (fun r => (false, r.map Int.toNat))
theorem allS_len {n : Nat} (hn : n ≤ 4) : (allS n).length ≤ 512 := by
  unfold allS
  rw [List.length_append, List.length_map, List.length_map]
  have : (turns n).length ≤ 256 := turnsK_len4 (n := n) (k := n) hn hn
  omega
section
variable {n : Nat} {w h : List Int}
theorem run_all (T : Tab n w h) {s : Bool} {ls : List Nat} (hl : okL ls) : runS w h (s, List.range n) ls ∈ allS n := by
  have Tr := turns_iff.mpr (turnW_trn T (s := s) hl)
  have e : (turnW w h s ls).map Int.toNat = (List.range n).map fun c => (led w h ls (s, c)).2 := by
    unfold turnW
    rw [List.map_map, T.w.len]
    exact List.map_congr_left fun c _ => Int.toNat_natCast _
  rw [runS_led]
  unfold allS
  rw [List.mem_append, List.mem_map, List.mem_map]
  cases hs : sexAt s ls with
  | true => exact .inl ⟨_, Tr, by rw [e]⟩
  | false => exact .inr ⟨_, Tr, by rw [e]⟩
theorem run_lt (T : Tab n w h) {s : Bool} {ls : List Nat} : (runS w h (s, List.range n) ls).2.length = n ∧ ∀ c ∈ (runS w h (s, List.range n) ls).2, c < n := by
  rw [runS_led]
  refine ⟨by rw [List.length_map, List.length_range], fun c hc => ?_⟩
  obtain ⟨x, hx, rfl⟩ := List.mem_map.mp hc
  exact T.led ls (List.mem_range.mp hx)
end
/-! the roads -/
abbrev Rd2 := Stt × List Nat
def addR (w h : List Int) (p : Rd2) (Ls : List Rd2) (l : Nat) : List Rd2 := if mv w h p.1 l ∈ Ls.map (·.1) then Ls else Ls ++ [(mv w h p.1 l, p.2 ++ [l])]
def expR (w h : List Int) (p : Rd2) (Ls : List Rd2) (xs : List Nat) : List Rd2 := xs.foldl (addR w h p) Ls
def wordR (Ls : List Rd2) (g : Stt) : List Nat := ((Ls.find? fun p => decide (p.1 = g)).map (·.2)).getD []
def bfsGo (w h : List Int) (g : Stt) : Nat → List Rd2 → Nat → List Nat
  | 0, Ls, _ => wordR Ls g
  | m + 1, Ls, a => if g ∈ Ls.map (·.1) then wordR Ls g else match Ls[a]? with
    | none => []
    | some p => bfsGo w h g m (expR w h p Ls lets) (a + 1)
def shortW (w h : List Int) (n : Nat) (s : Bool) (ls : List Nat) : List Nat := bfsGo w h (runS w h (s, List.range n) ls) 600 [((s, List.range n), [])] 0
structure Bfs (w h : List Int) (st0 : Stt) (Ls : List Rd2) (a : Nat) : Prop where
  walk : ∀ p ∈ Ls, okL p.2 ∧ runS w h st0 p.2 = p.1
  min : ∀ p ∈ Ls, ∀ ls, okL ls → runS w h st0 ls = p.1 → p.2.length ≤ ls.length
  nd : (Ls.map (·.1)).Nodup
  sorted : Ls.Pairwise fun p q => p.2.length ≤ q.2.length
  first : st0 ∈ Ls.map (·.1)
  done : ∀ i, i < a → ∀ p, Ls[i]? = some p → ∀ l ∈ lets, mv w h p.1 l ∈ Ls.map (·.1)
  near : ∀ p, Ls[a]? = some p → ∀ q ∈ Ls, q.2.length ≤ p.2.length + 1
  le : a ≤ Ls.length
  len : ∀ (i : Nat) (p : Rd2), Ls[i]? = some p → p.2.length ≤ i
section
variable {w h : List Int} {st0 g : Stt} {Ls : List Rd2} {a : Nat}
theorem Bfs.start (w h : List Int) (st0 : Stt) : Bfs w h st0 [(st0, [])] 0 where
  walk := fun p hp => by rw [List.mem_singleton.mp hp]; exact ⟨(fun x hx => by cases hx), rfl⟩
  min := fun p hp ls _ _ => by rw [List.mem_singleton.mp hp]; exact Nat.zero_le _
  nd := by simp
  sorted := List.pairwise_singleton _ _
  first := by simp
  done := fun i hi => absurd hi (Nat.not_lt_zero i)
  near := fun p _ q hq => by rw [List.mem_singleton.mp hq]; exact Nat.zero_le _
  le := Nat.zero_le _
  len := fun i p hp => by
    have := List.mem_of_getElem? hp
    rw [List.mem_singleton.mp this]
    exact Nat.zero_le _
theorem Bfs.mono (B : Bfs w h st0 Ls a) {p : Rd2} (hp : Ls[a]? = some p) {l : Nat} (hl : l ∈ lets) (hn : mv w h p.1 l ∉ Ls.map (·.1)) : Bfs w h st0 (Ls ++ [(mv w h p.1 l, p.2 ++ [l])]) a := by
  have hpm := List.mem_of_getElem? hp
  have hlt := (List.getElem?_eq_some_iff.mp hp).1
  obtain ⟨ok, hr⟩ := B.walk p hpm
  refine ⟨fun q hq => ?_, fun q hq ls ols els => ?_, ?_, ?_, ?_, fun i hi q hq l' hl' => ?_, fun q hq r hr' => ?_, by rw [List.length_append]; have := B.le; omega, fun i q hq => ?_⟩
  · rcases List.mem_append.mp hq with hq | hq
    · exact B.walk q hq
    · rw [List.mem_singleton.mp hq]
      exact ⟨okL_snoc ok hl, by rw [runS_snoc, hr]⟩
  · rcases List.mem_append.mp hq with hq | hq
    · exact B.min q hq ls ols els
    · rw [List.mem_singleton.mp hq] at els ⊢
      show (p.2 ++ [l]).length ≤ _
      rw [List.length_append, List.length_singleton]
      by_cases hc : p.2.length + 1 ≤ ls.length
      · exact hc
      · exfalso
        have claim : ∀ t, t ≤ ls.length → runS w h st0 (ls.take t) ∈ Ls.map (·.1) := fun t => by
          induction t with
          | zero => intro _; rw [List.take_zero]; exact B.first
          | succ t ih =>
            intro ht
            have hm := ih (by omega)
            obtain ⟨q', hq', e'⟩ := List.mem_map.mp hm
            obtain ⟨i, hi⟩ := List.mem_iff_getElem?.mp hq'
            have hil := (List.getElem?_eq_some_iff.mp hi).1
            have ml := B.min q' hq' (ls.take t) (fun x hx => ols x (List.mem_of_mem_take hx)) e'.symm
            rw [List.length_take] at ml
            have hia : i < a := by
              by_cases z : i < a
              · exact z
              · exfalso
                by_cases z2 : i = a
                · subst z2
                  rw [hp] at hi
                  cases hi
                  omega
                · have := List.pairwise_iff_getElem.mp B.sorted a i hlt hil (by omega)
                  rw [(List.getElem?_eq_some_iff.mp hp).2, (List.getElem?_eq_some_iff.mp hi).2] at this
                  omega
            have hx : ls[t]? = some ls[t] := List.getElem?_eq_getElem (by omega)
            have := B.done i hia q' hi ls[t] (ols _ (List.getElem_mem _))
            rw [take_snoc hx, runS_snoc, ← e']
            exact this
        have := claim ls.length (Nat.le_refl _)
        rw [List.take_length, els] at this
        exact hn this
  · rw [List.map_append, List.nodup_append]
    exact ⟨B.nd, by simp, fun x hx y hy e => by
      rw [List.map_cons, List.map_nil, List.mem_singleton] at hy
      rw [e, hy] at hx
      exact hn hx⟩
  · rw [List.pairwise_append]
    refine ⟨B.sorted, List.pairwise_singleton _ _, fun x hx y hy => ?_⟩
    rw [List.mem_singleton.mp hy]
    show _ ≤ (p.2 ++ [l]).length
    rw [List.length_append, List.length_singleton]
    exact B.near p hp x hx
  · rw [List.map_append]
    exact List.mem_append_left _ B.first
  · rw [List.map_append]
    rw [List.getElem?_append_left (by omega)] at hq
    exact List.mem_append_left _ (B.done i hi q hq l' hl')
  · rw [List.getElem?_append_left hlt, hp] at hq
    cases hq
    rcases List.mem_append.mp hr' with hr' | hr'
    · exact B.near p hp r hr'
    · rw [List.mem_singleton.mp hr']
      show (p.2 ++ [l]).length ≤ _
      rw [List.length_append, List.length_singleton]
      exact Nat.le_refl _
  · by_cases z : i < Ls.length
    · rw [List.getElem?_append_left z] at hq
      exact B.len i q hq
    · rw [List.getElem?_append_right (by omega)] at hq
      have := List.mem_of_getElem? hq
      rw [List.mem_singleton.mp this]
      show (p.2 ++ [l]).length ≤ _
      rw [List.length_append, List.length_singleton]
      have := B.len a p hp
      omega
theorem Bfs.add (B : Bfs w h st0 Ls a) {p : Rd2} (hp : Ls[a]? = some p) {l : Nat} (hl : l ∈ lets) : Bfs w h st0 (addR w h p Ls l) a ∧ (addR w h p Ls l)[a]? = some p ∧ mv w h p.1 l ∈ (addR w h p Ls l).map (·.1) ∧ ∀ x ∈ Ls.map (·.1), x ∈ (addR w h p Ls l).map (·.1) := by
  unfold addR
  by_cases hn : mv w h p.1 l ∈ Ls.map (·.1)
  · rw [if_pos hn]
    exact ⟨B, hp, hn, fun x hx => hx⟩
  · rw [if_neg hn]
    refine ⟨B.mono hp hl hn, ?_, ?_, fun x hx => ?_⟩
    · rw [List.getElem?_append_left (List.getElem?_eq_some_iff.mp hp).1]
      exact hp
    · rw [List.map_append]
      exact List.mem_append_right _ (by simp)
    · rw [List.map_append]
      exact List.mem_append_left _ hx
theorem Bfs.exp {p : Rd2} : ∀ (xs : List Nat), (∀ l ∈ xs, l ∈ lets) → ∀ {Ls : List Rd2}, Bfs w h st0 Ls a → Ls[a]? = some p → Bfs w h st0 (expR w h p Ls xs) a ∧ (expR w h p Ls xs)[a]? = some p ∧ (∀ l ∈ xs, mv w h p.1 l ∈ (expR w h p Ls xs).map (·.1)) ∧ ∀ x ∈ Ls.map (·.1), x ∈ (expR w h p Ls xs).map (·.1)
  | [], _, Ls, B, hp => ⟨B, hp, (fun l hl => by cases hl), fun x hx => hx⟩
  | l :: xs, hl, Ls, B, hp => by
    obtain ⟨b1, b2, b3, b4⟩ := B.add hp (hl l List.mem_cons_self)
    obtain ⟨c1, c2, c3, c4⟩ := Bfs.exp xs (fun y hy => hl y (List.mem_cons_of_mem _ hy)) b1 b2
    refine ⟨c1, c2, fun y hy => ?_, fun x hx => c4 x (b4 x hx)⟩
    rcases List.mem_cons.mp hy with rfl | hy
    · exact c4 _ b3
    · exact c3 y hy
theorem Bfs.next (B : Bfs w h st0 Ls a) {p : Rd2} (hp : Ls[a]? = some p) : Bfs w h st0 (expR w h p Ls lets) (a + 1) := by
  obtain ⟨c1, c2, c3, _⟩ := Bfs.exp lets (fun l hl => hl) B hp
  have hlt := (List.getElem?_eq_some_iff.mp c2).1
  refine ⟨c1.walk, c1.min, c1.nd, c1.sorted, c1.first, fun i hi q hq l hl => ?_, fun q hq r hr => ?_, by omega, c1.len⟩
  · by_cases z : i = a
    · subst z
      rw [c2] at hq
      cases hq
      exact c3 l hl
    · exact c1.done i (by omega) q hq l hl
  · have h1 := c1.near p c2 r hr
    have hl2 := (List.getElem?_eq_some_iff.mp hq).1
    have := List.pairwise_iff_getElem.mp c1.sorted a (a + 1) hlt hl2 (by omega)
    rw [(List.getElem?_eq_some_iff.mp c2).2, (List.getElem?_eq_some_iff.mp hq).2] at this
    omega
theorem Bfs.more (B : Bfs w h st0 Ls a) {ls : List Nat} (ok : okL ls) (e : runS w h st0 ls = g) (hg : g ∉ Ls.map (·.1)) : a < Ls.length := by
  by_cases z : a < Ls.length
  · exact z
  · exfalso
    have claim : ∀ t, t ≤ ls.length → runS w h st0 (ls.take t) ∈ Ls.map (·.1) := fun t => by
      induction t with
      | zero => intro _; rw [List.take_zero]; exact B.first
      | succ t ih =>
        intro ht
        obtain ⟨q', hq', e'⟩ := List.mem_map.mp (ih (by omega))
        obtain ⟨i, hi⟩ := List.mem_iff_getElem?.mp hq'
        have hil := (List.getElem?_eq_some_iff.mp hi).1
        have hx : ls[t]? = some ls[t] := List.getElem?_eq_getElem (by omega)
        have := B.done i (by omega) q' hi ls[t] (ok _ (List.getElem_mem _))
        rw [take_snoc hx, runS_snoc, ← e']
        exact this
    have := claim ls.length (Nat.le_refl _)
    rw [List.take_length, e] at this
    exact hg this
theorem Bfs.bound {n : Nat} {s : Bool} (T : Tab n w h) (hn : n ≤ 4) (B : Bfs w h (s, List.range n) Ls a) : Ls.length ≤ 512 := by
  have h1 := nodup_leG B.nd (ys := allS n) fun x hx => by
    obtain ⟨p, hp, rfl⟩ := List.mem_map.mp hx
    obtain ⟨o, e⟩ := B.walk p hp
    rw [← e]
    exact run_all T o
  rw [List.length_map] at h1
  exact Nat.le_trans h1 (allS_len hn)
theorem Bfs.word (B : Bfs w h st0 Ls a) (hg : g ∈ Ls.map (·.1)) : ∃ p ∈ Ls, p.1 = g ∧ wordR Ls g = p.2 := by
  obtain ⟨p, hp, e⟩ := List.mem_map.mp hg
  cases hf : Ls.find? (fun p => decide (p.1 = g)) with
  | none =>
    have := List.find?_eq_none.mp hf p hp
    simp [e] at this
  | some q =>
    refine ⟨q, List.mem_of_find?_eq_some hf, ?_, ?_⟩
    · have := List.find?_some hf
      simpa using this
    · unfold wordR
      rw [hf]
      rfl
theorem bfs_ok {n : Nat} {s : Bool} (T : Tab n w h) (hn : n ≤ 4) {ls : List Nat} (ok : okL ls) (e : runS w h (s, List.range n) ls = g) : ∀ (m : Nat) {Ls : List Rd2} {a : Nat}, m + a = 600 → Bfs w h (s, List.range n) Ls a → okL (bfsGo w h g m Ls a) ∧ runS w h (s, List.range n) (bfsGo w h g m Ls a) = g ∧ IsDist w h (s, List.range n) g (bfsGo w h g m Ls a).length
  | 0, Ls, a, hm, B => by
    have := B.bound T hn
    have := B.le
    omega
  | m + 1, Ls, a, hm, B => by
    unfold bfsGo
    by_cases hg : g ∈ Ls.map (·.1)
    · rw [if_pos hg]
      obtain ⟨p, hp, e1, e2⟩ := B.word hg
      obtain ⟨o, er⟩ := B.walk p hp
      rw [e2]
      exact ⟨o, er.trans e1, ⟨p.2, o, rfl, er.trans e1⟩, fun l2 o2 e3 => B.min p hp l2 o2 (e3.trans e1.symm)⟩
    · rw [if_neg hg]
      have hlt := B.more ok e hg
      have hp : Ls[a]? = some Ls[a] := List.getElem?_eq_getElem hlt
      rw [hp]
      exact bfs_ok T hn ok e m (by omega) (B.next hp)
theorem short_ok {n : Nat} {s : Bool} (T : Tab n w h) (hn : n ≤ 4) {ls : List Nat} (ok : okL ls) : okL (shortW w h n s ls) ∧ runS w h (s, List.range n) (shortW w h n s ls) = runS w h (s, List.range n) ls ∧ IsDist w h (s, List.range n) (runS w h (s, List.range n) ls) (shortW w h n s ls).length :=
  bfs_ok T hn ok rfl 600 rfl (Bfs.start w h _)
end
/-! the states as data -/
def pL (st : Stt) : List D := [sxD st.1, .tup (st.2.map fun (c : Nat) => D.int (c : Int))]
abbrev pD (st : Stt) : D := .tup (pL st)
def lL (st : Stt) : List D := st.2.map fun (c : Nat) => D.tup [sxD st.1, .int (c : Int)]
abbrev lD (st : Stt) : D := .tup (lL st)
theorem nkeys_map {α : Type} (f : α → D) : ∀ xs : List α, nkeys (xs.map f) = xs.map fun x => nkey (f x)
  | [] => by rw [List.map_nil, nkeys]; rfl
  | x :: xs => by rw [List.map_cons, nkeys, nkeys_map f xs, List.map_cons]
theorem noks_map {α : Type} {f : α → D} (h : ∀ x, nok (f x) = true) : ∀ xs : List α, noks (xs.map f) = true
  | [] => by rw [List.map_nil, noks]
  | x :: xs => by rw [List.map_cons, noks, h, noks_map h xs]; rfl
theorem depthAll_map {α : Type} {f : α → NestedKey} {k : Nat} (h : ∀ x, (f x).depth ≤ k) : ∀ xs : List α, NestedKey.depthAll (xs.map f) ≤ k
  | [] => by rw [List.map_nil, NestedKey.depthAll]; exact Nat.zero_le _
  | x :: xs => by
    rw [List.map_cons, NestedKey.depthAll]
    exact Nat.max_le.mpr ⟨h x, depthAll_map h xs⟩
def numB : NestedKey → Nat
  | .num i => i.toNat
  | _ => 0
theorem sx_injZ {s t : Bool} (h : sx s = sx t) : s = t := by
  have := sx_eq s t
  rw [decide_eq_true h] at this
  exact (eq_of_beq this.symm)
theorem nums_inj {as bs : List Nat} (h : (as.map fun (c : Nat) => NestedKey.num (c : Int)) = bs.map fun (c : Nat) => NestedKey.num (c : Int)) : as = bs := by
  have e : ∀ xs : List Nat, (xs.map fun (c : Nat) => NestedKey.num (c : Int)).map numB = xs := fun xs => by
    rw [List.map_map]
    exact (List.map_congr_left fun (c : Nat) _ => by show numB (.num (c : Int)) = c; exact Int.toNat_natCast c).trans (List.map_id _)
  rw [← e as, h, e]
theorem nkey_p (st : Stt) : nkey (pD st) = .tup [.text (sx st.1), .tup (st.2.map fun (c : Nat) => NestedKey.num (c : Int))] := by
  show nkey (.tup [sxD st.1, .tup (st.2.map fun (c : Nat) => D.int (c : Int))]) = _
  simp only [nkey, nkeys, nkeys_map]
theorem nkey_l (st : Stt) : nkey (lD st) = .tup (st.2.map fun (c : Nat) => .tup [.text (sx st.1), .num (c : Int)]) := by
  show nkey (.tup (st.2.map fun (c : Nat) => D.tup [sxD st.1, .int (c : Int)])) = _
  simp only [nkey, nkeys, nkeys_map]
theorem nkey_p_inj {a b : Stt} (h : nkey (pD a) = nkey (pD b)) : a = b := by
  rw [nkey_p, nkey_p] at h
  injection h with h
  injection h with h1 h2
  injection h1 with h1
  injection h2 with h2
  injection h2 with h2
  exact Prod.ext (sx_injZ h1) (nums_inj h2)
theorem nkey_l_inj {a b : Stt} (ha : a.2 ≠ []) (h : nkey (lD a) = nkey (lD b)) : a = b := by
  rw [nkey_l, nkey_l] at h
  injection h with h
  obtain ⟨s, as⟩ := a
  obtain ⟨t, bs⟩ := b
  have h : (as.map fun (c : Nat) => NestedKey.tup [.text (sx s), .num (c : Int)]) = bs.map fun (c : Nat) => NestedKey.tup [.text (sx t), .num (c : Int)] := h
  have snd : ∀ (u : Bool) (xs : List Nat), (xs.map fun (c : Nat) => NestedKey.tup [.text (sx u), .num (c : Int)]).map (fun k => match k with | .tup [_, .num i] => i.toNat | _ => 0) = xs := fun u xs => by
    rw [List.map_map]
    exact (List.map_congr_left fun (c : Nat) _ => by show ((c : Int)).toNat = c; exact Int.toNat_natCast c).trans (List.map_id _)
  have e : as = bs := by rw [← snd s as, h, snd]
  subst e
  cases as with
  | nil => exact absurd rfl ha
  | cons c cs =>
    rw [List.map_cons, List.map_cons] at h
    injection h with h _
    injection h with h
    injection h with h _
    injection h with h
    rw [sx_injZ h]
theorem p_noks (st : Stt) : noks (pL st) = true := by
  unfold pL
  have : noks (st.2.map fun (c : Nat) => D.int (c : Int)) = true := noks_map (fun c => by rw [nok]) _
  simp only [noks, nok, this, Bool.and_self]
theorem l_noks (st : Stt) : noks (lL st) = true := noks_map (fun c => by simp only [nok, noks, Bool.and_self]) _
theorem p_dep (st : Stt) : (nkey (.tup (pL st))).depth ≤ 8 := by
  have := depthAll_map (f := fun (c : Nat) => NestedKey.num (c : Int)) (k := 0) (fun c => by simp [NestedKey.depth]) st.2
  rw [nkey_p]
  simp only [NestedKey.depth, NestedKey.depthAll]
  omega
theorem l_dep (st : Stt) : (nkey (.tup (lL st))).depth ≤ 8 := by
  have := depthAll_map (f := fun (c : Nat) => NestedKey.tup [.text (sx st.1), .num (c : Int)]) (k := 3) (fun c => by simp [NestedKey.depth, NestedKey.depthAll]) st.2
  rw [nkey_l]
  simp only [NestedKey.depth]
  omega
/-- roads as a dict -/
def kvR (Ls : List Rd2) : List (D × D) := Ls.map fun p => (pD p.1, .str (S p.2))
theorem kvR_ok {Ls : List Rd2} (nd : (Ls.map (·.1)).Nodup) : KOk (kvR Ls) := by
  refine ⟨fun kv hkv => ?_, ?_⟩
  · obtain ⟨p, _, rfl⟩ := List.mem_map.mp hkv
    exact ⟨by rw [nok]; exact p_noks _, p_dep _⟩
  · unfold kvR
    rw [List.map_map]
    rw [List.nodup_iff_pairwise_ne, List.pairwise_map] at nd ⊢
    exact nd.imp fun h e => h (nkey_p_inj e)
theorem kvR_val (Ls : List Rd2) (g : Stt) : valN (kvR Ls) (nkey (pD g)) = (Ls.find? fun p => decide (p.1 = g)).map fun p => .str (S p.2) := by
  unfold valN kvR
  induction Ls with
  | nil => rfl
  | cons p Ls ih =>
    rw [List.map_cons, List.find?_cons, List.find?_cons]
    by_cases e : p.1 = g
    · have : decide (nkey (pD p.1) = nkey (pD g)) = true := by rw [e]; exact decide_eq_true rfl
      simp only [this, e, decide_true]
      rfl
    · have : decide (nkey (pD p.1) = nkey (pD g)) = false := decide_eq_false fun z => e (nkey_p_inj z)
      simp only [this, e, decide_false]
      exact ih
theorem kvR_in (Ls : List Rd2) (g : Stt) : (valN (kvR Ls) (nkey (pD g))).isSome = decide (g ∈ Ls.map (·.1)) := by
  rw [kvR_val, Option.isSome_map]
  rw [Bool.eq_iff_iff, decide_eq_true_eq, List.find?_isSome, List.mem_map]
  constructor
  · rintro ⟨p, h1, h2⟩
    exact ⟨p, h1, by simpa using h2⟩
  · rintro ⟨p, h1, h2⟩
    exact ⟨p, h1, by simpa using h2⟩
theorem kvR_word {Ls : List Rd2} {g : Stt} (hg : g ∈ Ls.map (·.1)) : valN (kvR Ls) (nkey (pD g)) = some (.str (S (wordR Ls g))) := by
  rw [kvR_val]
  unfold wordR
  cases e : Ls.find? (fun p => decide (p.1 = g)) with
  | some p => rfl
  | none =>
    obtain ⟨p, hp, e2⟩ := List.mem_map.mp hg
    have := List.find?_eq_none.mp e p hp
    simp [e2] at this
theorem kvR_snoc (Ls : List Rd2) (p : Rd2) : kvR (Ls ++ [p]) = kvR Ls ++ [(pD p.1, .str (S p.2))] := by unfold kvR; rw [List.map_append]; rfl
/-- what is seen, as a dict -/
def kvZ (Z : List Stt) : List (D × D) := Z.map fun st => (lD st, .bl true)
theorem kvZ_ok {Z : List Stt} (nd : Z.Nodup) (hz : ∀ st ∈ Z, st.2 ≠ []) : KOk (kvZ Z) := by
  refine ⟨fun kv hkv => ?_, ?_⟩
  · obtain ⟨p, _, rfl⟩ := List.mem_map.mp hkv
    exact ⟨by rw [nok]; exact l_noks _, l_dep _⟩
  · unfold kvZ
    rw [List.map_map]
    induction Z with
    | nil => exact List.nodup_nil
    | cons z Z ih =>
      rw [List.nodup_cons] at nd
      rw [List.map_cons, List.nodup_cons]
      refine ⟨fun hm => ?_, ih nd.2 fun st h => hz st (List.mem_cons_of_mem _ h)⟩
      obtain ⟨y, hy, e⟩ := List.mem_map.mp hm
      have := nkey_l_inj (hz y (List.mem_cons_of_mem _ hy)) e
      exact nd.1 (this ▸ hy)
theorem kvZ_in (Z : List Stt) {g : Stt} (hg : g.2 ≠ []) : (valN (kvZ Z) (nkey (lD g))).isSome = decide (g ∈ Z) := by
  unfold valN kvZ
  rw [Option.isSome_map, Bool.eq_iff_iff, decide_eq_true_eq, List.find?_isSome]
  constructor
  · rintro ⟨kv, h1, h2⟩
    obtain ⟨z, hz, rfl⟩ := List.mem_map.mp h1
    have h2 : nkey (lD z) = nkey (lD g) := by simpa using h2
    have := nkey_l_inj hg h2.symm
    exact this ▸ hz
  · intro hm
    exact ⟨(lD g, .bl true), List.mem_map.mpr ⟨g, hm, rfl⟩, by simp⟩
theorem kvZ_none {Z : List Stt} {g : Stt} (hg : g.2 ≠ []) (hn : g ∉ Z) : valN (kvZ Z) (nkey (lD g)) = none := by
  have := kvZ_in Z hg
  rw [decide_eq_false hn] at this
  exact Option.isSome_eq_false_iff.mp this |> Option.isNone_iff_eq_none.mp
theorem kvZ_snoc (Z : List Stt) (st : Stt) : kvZ (Z ++ [st]) = kvZ Z ++ [(lD st, .bl true)] := by unfold kvZ; rw [List.map_append]; rfl
/-! a ring asked -/
theorem eqvAll_l (s t : Bool) : ∀ as bs : List Nat, PyData.eqvAll (pys (as.map fun (c : Nat) => D.tup [sxD s, .int (c : Int)])) (pys (bs.map fun (c : Nat) => D.tup [sxD t, .int (c : Int)])) = (decide (as = bs) && (as.isEmpty || s == t))
  | [], [] => by simp [pys, PyData.eqvAll]
  | [], b :: bs => by simp [pys, PyData.eqvAll]
  | a :: as, [] => by simp [pys, PyData.eqvAll]
  | a :: as, b :: bs => by
    rw [List.map_cons, List.map_cons, pys, pys, PyData.eqvAll, eqvAll_l s t as bs, eqv_sx]
    by_cases e1 : s = t <;> by_cases e2 : a = b <;> by_cases e3 : as = bs <;> simp [e1, e2, e3] <;> omega
theorem eqv_l {a b : Stt} (ha : a.2 ≠ []) : PyData.eqv (lD a).py (lD b).py = decide (a = b) := by
  obtain ⟨s, as⟩ := a
  obtain ⟨t, bs⟩ := b
  show PyData.eqv (D.tup (as.map fun (c : Nat) => D.tup [sxD s, .int (c : Int)])).py (D.tup (bs.map fun (c : Nat) => D.tup [sxD t, .int (c : Int)])).py = _
  rw [D.py, D.py, PyData.eqv, eqvAll_l]
  have : as.isEmpty = false := by cases as with
    | nil => exact absurd rfl ha
    | cons _ _ => rfl
  rw [this, Bool.false_or, Bool.eq_iff_iff, Bool.and_eq_true, decide_eq_true_eq, decide_eq_true_eq, beq_iff_eq, Prod.mk.injEq]
  exact And.comm
theorem any_l {R : List Stt} (hR : ∀ st ∈ R, st.2 ≠ []) (g : Stt) : ((pys (R.map lD)).any fun z => PyData.eqv z (lD g).py) = decide (g ∈ R) := by
  induction R with
  | nil => simp [pys]
  | cons z R ih =>
    rw [List.map_cons, pys, List.any_cons, ih fun st h => hR st (List.mem_cons_of_mem _ h), eqv_l (hR z List.mem_cons_self)]
    rw [Bool.eq_iff_iff, Bool.or_eq_true, decide_eq_true_eq, decide_eq_true_eq, decide_eq_true_eq, List.mem_cons]
    exact ⟨fun z => z.elim (fun e => .inl e.symm) .inr, fun z => z.elim (fun e => .inl e.symm) .inr⟩
theorem pL_nls (st : Stt) : nls (pL st) = true := by
  have : nls (st.2.map fun (c : Nat) => D.int (c : Int)) = true := nls_map _ (fun c => rfl) _
  simp only [pL, nls, D.nl, this, Bool.and_self]
theorem lL_nls (st : Stt) : nls (lL st) = true := nls_map _ (fun c => nl_sx _ _) _
theorem lD_nl (st : Stt) : (lD st).nl = true := by rw [D.nl]; exact lL_nls st
theorem pD_nl (st : Stt) : (pD st).nl = true := by rw [D.nl]; exact pL_nls st
theorem purs_mapZ {α : Type} {f : α → D} (h : ∀ x, (f x).pur = true) : ∀ xs : List α, purs (xs.map f) = true
  | [] => by rw [List.map_nil, purs]
  | x :: xs => by rw [List.map_cons, purs, h, purs_mapZ h xs]; rfl
theorem lD_pur (st : Stt) : (lD st).pur = true := by rw [D.pur]; exact purs_mapZ (fun c => pur_sx _ _) _
theorem lD_dep (st : Stt) : (lD st).dep ≤ 5 := by
  have hc : ∀ c : Nat, (D.tup [sxD st.1, .int (c : Int)]).dep ≤ 1 := fun c => by simp [D.dep, deps]
  rw [D.dep]
  have := deps_map (fun (c : Nat) => D.tup [sxD st.1, .int (c : Int)]) 1 st.2 hc
  unfold lL
  omega
theorem ring_pur (R : List Stt) : purs (R.map lD) = true := purs_mapZ lD_pur R
theorem ring_dep (R : List Stt) : deps (R.map lD) ≤ 19 := Nat.le_trans (deps_map lD 5 R lD_dep) (by omega)
theorem wordR_at {Ls : List Rd2} {a : Nat} {p : Rd2} (nd : (Ls.map (·.1)).Nodup) (hp : Ls[a]? = some p) : wordR Ls p.1 = p.2 := by
  unfold wordR
  have : ∀ {Ls : List Rd2}, (Ls.map (·.1)).Nodup → p ∈ Ls → Ls.find? (fun q => decide (q.1 = p.1)) = some p := fun {Ls} => by
    induction Ls with
    | nil => intro _ h; cases h
    | cons q Ls ih =>
      intro nd hm
      rw [List.map_cons, List.nodup_cons] at nd
      rcases List.mem_cons.mp hm with rfl | hm
      · rw [List.find?_cons_of_pos (by simp)]
      · have hne : ¬ q.1 = p.1 := fun e => nd.1 (e ▸ List.mem_map.mpr ⟨p, hm, rfl⟩)
        rw [List.find?_cons_of_neg (by simpa using hne)]
        exact ih nd.2 hm
  rw [this nd (List.mem_of_getElem? hp)]
  rfl
theorem rngD_nat (n : Nat) : rngD 0 n = (List.range n).map fun (c : Nat) => D.int (c : Int) := by
  unfold rngD
  exact List.map_congr_left fun c _ => by rw [Int.zero_add]
theorem pD_run {n : Nat} {wi he : List Int} (T : Tab n wi he) (s : Bool) (ls : List Nat) : D.tup [sxD (sexAt s ls), .tup ((turnW wi he s ls).map .int)] = pD (runS wi he (s, List.range n) ls) := by
  rw [runS_led]
  unfold turnW
  rw [List.map_map, T.w.len]
  show _ = D.tup [sxD (sexAt s ls), .tup (((List.range n).map fun c => (led wi he ls (s, c)).2).map fun (c : Nat) => D.int (c : Int))]
  rw [List.map_map]
  rfl
theorem mv_map (wi he : List Int) (st : Stt) (l : Nat) : (((st.2.map fun (c : Nat) => D.int (c : Int)).filter fun _ => true).map fun d => match d with | .int c => D.int ((nextC wi he st.1 c.toNat l : Nat) : Int) | _ => .non) = (mv wi he st l).2.map fun (c : Nat) => D.int (c : Int) := by
  rw [flt_all, List.map_map]
  show _ = (st.2.map fun c => nextC wi he st.1 c l).map _
  rw [List.map_map]
  refine List.map_congr_left fun c _ => ?_
  show D.int ((nextC wi he st.1 ((c : Int)).toNat l : Nat) : Int) = _
  rw [Int.toNat_natCast]
  rfl
theorem mv_mapL (wi he : List Int) (st : Stt) (l : Nat) : (((lL st).filter fun _ => true).map fun d => match d with | .tup [_, .int c] => D.tup [sxD (nextS st.1 l), .int ((nextC wi he st.1 c.toNat l : Nat) : Int)] | _ => .non) = lL (mv wi he st l) := by
  rw [flt_all]
  unfold lL
  rw [List.map_map]
  show _ = (st.2.map fun c => nextC wi he st.1 c l).map _
  rw [List.map_map]
  refine List.map_congr_left fun c _ => ?_
  show D.tup [sxD (nextS st.1 l), .int ((nextC wi he st.1 ((c : Int)).toNat l : Nat) : Int)] = _
  rw [Int.toNat_natCast]
  rfl
/-! rings -/
section
variable {n : Nat} {w h : List Int} {s : Bool} {st : Stt} {k : Nat}
theorem dist_all (T : Tab n w h) (d : IsDist w h (s, List.range n) st k) : st ∈ allS n := by
  obtain ⟨⟨ls, a1, _, a3⟩, _⟩ := d
  rw [← a3]
  exact run_all T a1
theorem dist_lt (T : Tab n w h) (d : IsDist w h (s, List.range n) st k) : st.2 ≠ [] ∧ ∀ c ∈ st.2, c < n := by
  obtain ⟨⟨ls, a1, _, a3⟩, _⟩ := d
  have := run_lt T (s := s) (ls := ls)
  rw [a3] at this
  refine ⟨fun e => ?_, this.2⟩
  rw [e] at this
  have := T.one
  simp at *
  omega
structure Ring (w h : List Int) (st0 : Stt) (R Z : List Stt) (k : Nat) : Prop where
  nd : R.Nodup
  all : ∀ st, st ∈ R ↔ IsDist w h st0 st k
  znd : Z.Nodup
  zall : ∀ st, st ∈ Z ↔ ∃ j, j < k ∧ IsDist w h st0 st j
theorem Ring.start (w h : List Int) (st0 : Stt) : Ring w h st0 [st0] [] 0 :=
  ⟨by simp, fun st => by rw [List.mem_singleton, dist_zero], List.nodup_nil, fun st => ⟨fun h => (by cases h), fun ⟨j, hj, _⟩ => absurd hj (Nat.not_lt_zero j)⟩⟩
/-- the next ring, so far: i turns done, j letters of the next -/
structure More (w h : List Int) (st0 : Stt) (R Z W : List Stt) (k i j : Nat) : Prop where
  nd : W.Nodup
  all : ∀ st ∈ W, IsDist w h st0 st (k + 1)
  done : ∀ i', i' < i → ∀ p, R[i']? = some p → ∀ l ∈ lets, mv w h p l ∈ Z ∨ mv w h p l ∈ W
  here : ∀ p, R[i]? = some p → ∀ l ∈ lets.take j, mv w h p l ∈ Z ∨ mv w h p l ∈ W
variable {st0 : Stt} {R Z W : List Stt} {i j l : Nat} {p : Stt}
theorem More.start : More w h st0 R Z [] k 0 0 := ⟨List.nodup_nil, fun st h => (by cases h), fun i' hi => absurd hi (Nat.not_lt_zero _), fun p _ l hl => (by rw [List.take_zero] at hl; cases hl)⟩
theorem More.turn (M : More w h st0 R Z W k i 7) : More w h st0 R Z W k (i + 1) 0 :=
  ⟨M.nd, M.all, fun i' hi p hp l hl => by
    by_cases e : i' = i
    · subst e
      exact M.here p hp l (by rw [show lets.take 7 = lets from rfl]; exact hl)
    · exact M.done i' (by omega) p hp l hl, fun p _ l hl => (by rw [List.take_zero] at hl; cases hl)⟩
theorem More.old (M : More w h st0 R Z W k i j) (hp : R[i]? = some p) (hl : lets[j]? = some l) (hm : mv w h p l ∈ Z ∨ mv w h p l ∈ W) : More w h st0 R Z W k i (j + 1) :=
  ⟨M.nd, M.all, M.done, fun q hq x hx => by
    rw [hp] at hq
    cases hq
    rw [take_snoc hl] at hx
    rcases List.mem_append.mp hx with hx | hx
    · exact M.here p hp x hx
    · rw [List.mem_singleton.mp hx]; exact hm⟩
/-- Z: all that is no farther than k -/
theorem More.new (M : More w h st0 R Z W k i j) (hR : ∀ st, st ∈ R ↔ IsDist w h st0 st k) (hZ : ∀ st, st ∈ Z ↔ ∃ j, j < k + 1 ∧ IsDist w h st0 st j) (hp : R[i]? = some p) (hl : lets[j]? = some l) (n1 : mv w h p l ∉ Z) (n2 : mv w h p l ∉ W) : More w h st0 R Z (W ++ [mv w h p l]) k i (j + 1) := by
  have hd : IsDist w h st0 (mv w h p l) (k + 1) := by
    obtain ⟨d, d1, d2⟩ := dist_step ((hR p).mp (List.mem_of_getElem? hp)) (List.mem_of_getElem? hl) rfl
    by_cases e : d = k + 1
    · rw [← e]; exact d2
    · exact absurd ((hZ _).mpr ⟨d, by omega, d2⟩) n1
  refine ⟨?_, fun st hs => ?_, fun i' hi q hq x hx => (M.done i' hi q hq x hx).imp id fun z => List.mem_append_left _ z, fun q hq x hx => ?_⟩
  · rw [List.nodup_append]
    exact ⟨M.nd, by simp, fun a ha b hb e => by
      rw [List.mem_singleton] at hb
      rw [e, hb] at ha
      exact n2 ha⟩
  · rcases List.mem_append.mp hs with hs | hs
    · exact M.all st hs
    · rw [List.mem_singleton.mp hs]; exact hd
  · rw [hp] at hq
    cases hq
    rw [take_snoc hl] at hx
    rcases List.mem_append.mp hx with hx | hx
    · exact (M.here p hp x hx).imp id fun z => List.mem_append_left _ z
    · rw [List.mem_singleton.mp hx]
      exact .inr (List.mem_append_right _ (List.mem_singleton.mpr rfl))
theorem Ring.seen (H : Ring w h st0 R Z k) : (Z ++ R).Nodup ∧ ∀ st, st ∈ Z ++ R ↔ ∃ j, j < k + 1 ∧ IsDist w h st0 st j := by
  refine ⟨?_, fun st => ?_⟩
  · rw [List.nodup_append]
    refine ⟨H.znd, H.nd, fun a ha b hb e => ?_⟩
    subst e
    obtain ⟨j, hj, d⟩ := (H.zall a).mp ha
    have := ((H.all a).mp hb).uniq d
    omega
  · rw [List.mem_append, H.zall, H.all]
    constructor
    · rintro (⟨j, hj, d⟩ | d)
      · exact ⟨j, by omega, d⟩
      · exact ⟨k, by omega, d⟩
    · rintro ⟨j, hj, d⟩
      by_cases e : j = k
      · exact .inr (e ▸ d)
      · exact .inl ⟨j, by omega, d⟩
theorem Ring.next (H : Ring w h st0 R Z k) (M : More w h st0 R (Z ++ R) W k R.length 0) : Ring w h st0 W (Z ++ R) (k + 1) := by
  obtain ⟨h1, h2⟩ := H.seen
  refine ⟨M.nd, fun st => ⟨M.all st, fun d => ?_⟩, h1, h2⟩
  obtain ⟨p, l, hl, dp, e⟩ := dist_back d
  have hp := (H.all p).mpr dp
  obtain ⟨i, hi⟩ := List.mem_iff_getElem?.mp hp
  have := M.done i (List.getElem?_eq_some_iff.mp hi).1 p hi l hl
  rw [e] at this
  rcases this with hz | hw
  · obtain ⟨j, hj, dj⟩ := (h2 st).mp hz
    have := d.uniq dj
    omega
  · exact hw
theorem ring_len (T : Tab n w h) (hn : n ≤ 4) {X : List Stt} (nd : X.Nodup) (hx : ∀ st ∈ X, ∃ j, IsDist w h (s, List.range n) st j) : X.length ≤ 512 := by
  refine Nat.le_trans (nodup_leG nd (ys := allS n) fun st hs => ?_) (allS_len hn)
  obtain ⟨j, d⟩ := hx st hs
  exact dist_all T d
end
end KT
namespace Toy
open PySem L2 KT
def top (i : Nat) : Stmt := PySem.Challenge.pw_kinturns_k06_the_shortest_walk.main.body.getD i (.Pass ⟨0, 0, 0, 0⟩)
abbrev s_see_walk : Stmt := top 8
abbrev s_next_sex : Stmt := top 9
abbrev s_end_sex : Stmt := top 10
abbrev s_next_class : Stmt := top 11
abbrev s_walked : Stmt := top 12
abbrev s_turn_of : Stmt := top 13
abbrev s_shortest : Stmt := top 14
abbrev s_is_turn : Stmt := top 16
abbrev s_back_of : Stmt := top 17
abbrev s_Table_init : Stmt := inClass (top 18) 0
abbrev s_Table_size : Stmt := inClass (top 18) 1
abbrev s_Table_see_class : Stmt := inClass (top 18) 2
abbrev s_Table_wife_of : Stmt := inClass (top 18) 3
abbrev s_Table_husband_of : Stmt := inClass (top 18) 4
abbrev s_Table_heir_of : Stmt := inClass (top 18) 5
abbrev s_Table_father_of : Stmt := inClass (top 18) 6
abbrev s_Table_wives : Stmt := inClass (top 18) 7
abbrev s_Table_heirs : Stmt := inClass (top 18) 8
abbrev s_l_cell_at : Stmt := top 20
abbrev s_l_turn_by : Stmt := top 21
abbrev s_l_walk_by : Stmt := top 22
abbrev s_l_step : Stmt := top 23
abbrev s_l_led : Stmt := top 24
abbrev s_l_turn_of : Stmt := top 25
abbrev s_l_fewest : Stmt := top 26
abbrev s_l_refused : Stmt := top 27
abbrev s_law : Stmt := top 28
theorem sc_see_walk : FnScope ["walk", "letter"] ["walk"] (defScope s_see_walk) := ⟨rfl, rfl, rfl, by decide +kernel, rfl, by decide +kernel, by decide +kernel⟩
theorem sc_next_sex : FnScope ["sex", "letter"] ["sex", "letter"] (defScope s_next_sex) := ⟨rfl, rfl, rfl, by decide +kernel, rfl, by decide +kernel, by decide +kernel⟩
theorem sc_end_sex : FnScope ["sex", "walk", "letter"] ["sex", "walk"] (defScope s_end_sex) := ⟨rfl, rfl, rfl, by decide +kernel, rfl, by decide +kernel, by decide +kernel⟩
theorem sc_next_class : FnScope ["table", "sex", "c", "letter"] ["table", "sex", "c", "letter"] (defScope s_next_class) := ⟨rfl, rfl, rfl, by decide +kernel, rfl, by decide +kernel, by decide +kernel⟩
theorem sc_walked : FnScope ["table", "sex", "c", "walk", "letter"] ["table", "sex", "c", "walk"] (defScope s_walked) := ⟨rfl, rfl, rfl, by decide +kernel, rfl, by decide +kernel, by decide +kernel⟩
theorem sc_turn_of : FnScope ["table", "sex", "walk", "c"] ["table", "sex", "walk"] (defScope s_turn_of) := ⟨rfl, rfl, rfl, by decide +kernel, rfl, by decide +kernel, by decide +kernel⟩
theorem sc_shortest : FnScope ["table", "sex", "walk", "goal", "here", "roads", "line", "at", "letter", "turn", "there", "c"] ["table", "sex", "walk"] (defScope s_shortest) := ⟨rfl, rfl, rfl, by decide +kernel, rfl, by decide +kernel, by decide +kernel⟩
theorem sc_is_turn : FnScope ["row"] ["row"] (defScope s_is_turn) := ⟨rfl, rfl, rfl, by decide +kernel, rfl, by decide +kernel, by decide +kernel⟩
theorem sc_back_of : FnScope ["turn", "found", "c"] ["turn"] (defScope s_back_of) := ⟨rfl, rfl, rfl, by decide +kernel, rfl, by decide +kernel, by decide +kernel⟩
theorem sc_Table_init : FnScope ["self", "wives", "heirs"] ["self", "wives", "heirs"] (defScope s_Table_init) := ⟨rfl, rfl, rfl, by decide +kernel, rfl, by decide +kernel, by decide +kernel⟩
theorem sc_Table_size : FnScope ["self"] ["self"] (defScope s_Table_size) := ⟨rfl, rfl, rfl, by decide +kernel, rfl, by decide +kernel, by decide +kernel⟩
theorem sc_Table_see_class : FnScope ["self", "c"] ["self", "c"] (defScope s_Table_see_class) := ⟨rfl, rfl, rfl, by decide +kernel, rfl, by decide +kernel, by decide +kernel⟩
theorem sc_Table_wife_of : FnScope ["self", "c"] ["self", "c"] (defScope s_Table_wife_of) := ⟨rfl, rfl, rfl, by decide +kernel, rfl, by decide +kernel, by decide +kernel⟩
theorem sc_Table_husband_of : FnScope ["self", "c"] ["self", "c"] (defScope s_Table_husband_of) := ⟨rfl, rfl, rfl, by decide +kernel, rfl, by decide +kernel, by decide +kernel⟩
theorem sc_Table_heir_of : FnScope ["self", "c"] ["self", "c"] (defScope s_Table_heir_of) := ⟨rfl, rfl, rfl, by decide +kernel, rfl, by decide +kernel, by decide +kernel⟩
theorem sc_Table_father_of : FnScope ["self", "c"] ["self", "c"] (defScope s_Table_father_of) := ⟨rfl, rfl, rfl, by decide +kernel, rfl, by decide +kernel, by decide +kernel⟩
theorem sc_Table_wives : FnScope ["self"] ["self"] (defScope s_Table_wives) := ⟨rfl, rfl, rfl, by decide +kernel, rfl, by decide +kernel, by decide +kernel⟩
theorem sc_Table_heirs : FnScope ["self"] ["self"] (defScope s_Table_heirs) := ⟨rfl, rfl, rfl, by decide +kernel, rfl, by decide +kernel, by decide +kernel⟩
theorem sc_l_cell_at : FnScope ["script", "k"] ["script", "k"] (defScope s_l_cell_at) := ⟨rfl, rfl, rfl, by decide +kernel, rfl, by decide +kernel, by decide +kernel⟩
theorem sc_l_turn_by : FnScope ["cell", "many", "rest", "out", "c"] ["cell", "many"] (defScope s_l_turn_by) := ⟨rfl, rfl, rfl, by decide +kernel, rfl, by decide +kernel, by decide +kernel⟩
theorem sc_l_walk_by : FnScope ["cell", "most", "walk", "k"] ["cell", "most"] (defScope s_l_walk_by) := ⟨rfl, rfl, rfl, by decide +kernel, rfl, by decide +kernel, by decide +kernel⟩
theorem sc_l_step : FnScope ["wives", "heirs", "sex", "c", "letter", "elder", "groom"] ["wives", "heirs", "sex", "c", "letter"] (defScope s_l_step) := ⟨rfl, rfl, rfl, by decide +kernel, rfl, by decide +kernel, by decide +kernel⟩
theorem sc_l_led : FnScope ["wives", "heirs", "sex", "c", "walk", "letter", "there"] ["wives", "heirs", "sex", "c", "walk"] (defScope s_l_led) := ⟨rfl, rfl, rfl, by decide +kernel, rfl, by decide +kernel, by decide +kernel⟩
theorem sc_l_turn_of : FnScope ["wives", "heirs", "sex", "walk", "c"] ["wives", "heirs", "sex", "walk"] (defScope s_l_turn_of) := ⟨rfl, rfl, rfl, by decide +kernel, rfl, by decide +kernel, by decide +kernel⟩
theorem sc_l_fewest : FnScope ["wives", "heirs", "sex", "goal", "seen", "ring", "steps", "more", "turn", "letter", "there", "c", "one"] ["wives", "heirs", "sex", "goal"] (defScope s_l_fewest) := ⟨rfl, rfl, rfl, by decide +kernel, rfl, by decide +kernel, by decide +kernel⟩
theorem sc_l_refused : FnScope ["table", "sex", "walk", "marks", "e"] ["table", "sex", "walk"] (defScope s_l_refused) := ⟨rfl, rfl, rfl, by decide +kernel, rfl, by decide +kernel, by decide +kernel⟩
theorem sc_law : FnScope ["script", "first", "many", "wives", "heirs", "table", "sex", "walk", "found", "goal", "letter"] ["script"] (defScope s_law) := ⟨rfl, rfl, rfl, by decide +kernel, rfl, by decide +kernel, by decide +kernel⟩
/-- the addresses of the classes -/
structure Ads where
  (KinError NoTable NoClass NoWalk TooMany Table : Addr)
/-- what the top has left -/
structure Txt (K : PySem.W.Frag) (mg : Str → Option Value) (ad : Ads) : Prop where
  isinstance : mg "isinstance" = none
  len : mg "len" = none
  list : mg "list" = none
  range : mg "range" = none
  sorted : mg "sorted" = none
  str : mg "str" = none
  tuple : mg "tuple" = none
  c_LETTERS : ∃ u, mg "LETTERS" = some u ∧ RelV (.str "fmsdpbz") u
  ex_KinError : ExA K mg "KinError" ad.KinError
  cc_KinError : ExcC K ad.KinError
  ex_NoTable : ExA K mg "NoTable" ad.NoTable
  cc_NoTable : ExcC K ad.NoTable
  ex_NoClass : ExA K mg "NoClass" ad.NoClass
  cc_NoClass : ExcC K ad.NoClass
  ex_NoWalk : ExA K mg "NoWalk" ad.NoWalk
  cc_NoWalk : ExcC K ad.NoWalk
  ex_TooMany : ExA K mg "TooMany" ad.TooMany
  cc_TooMany : ExcC K ad.TooMany
  kit_KinError_KinError : PySem.W.kitOne K (.ref ad.KinError) (.ref ad.KinError) = some true
  exm_KinError_KinError : PySem.W.exmOne K (.ref ad.KinError) (.ref ad.KinError) = some true
  kit_KinError_NoTable : PySem.W.kitOne K (.ref ad.KinError) (.ref ad.NoTable) = some false
  exm_KinError_NoTable : PySem.W.exmOne K (.ref ad.KinError) (.ref ad.NoTable) = some false
  kit_KinError_NoClass : PySem.W.kitOne K (.ref ad.KinError) (.ref ad.NoClass) = some false
  exm_KinError_NoClass : PySem.W.exmOne K (.ref ad.KinError) (.ref ad.NoClass) = some false
  kit_KinError_NoWalk : PySem.W.kitOne K (.ref ad.KinError) (.ref ad.NoWalk) = some false
  exm_KinError_NoWalk : PySem.W.exmOne K (.ref ad.KinError) (.ref ad.NoWalk) = some false
  kit_KinError_TooMany : PySem.W.kitOne K (.ref ad.KinError) (.ref ad.TooMany) = some false
  exm_KinError_TooMany : PySem.W.exmOne K (.ref ad.KinError) (.ref ad.TooMany) = some false
  kit_KinError_ValueError : PySem.W.kitOne K (.ref ad.KinError) (.type "ValueError") = some true
  kit_NoTable_KinError : PySem.W.kitOne K (.ref ad.NoTable) (.ref ad.KinError) = some true
  exm_NoTable_KinError : PySem.W.exmOne K (.ref ad.NoTable) (.ref ad.KinError) = some true
  kit_NoTable_NoTable : PySem.W.kitOne K (.ref ad.NoTable) (.ref ad.NoTable) = some true
  exm_NoTable_NoTable : PySem.W.exmOne K (.ref ad.NoTable) (.ref ad.NoTable) = some true
  kit_NoTable_NoClass : PySem.W.kitOne K (.ref ad.NoTable) (.ref ad.NoClass) = some false
  exm_NoTable_NoClass : PySem.W.exmOne K (.ref ad.NoTable) (.ref ad.NoClass) = some false
  kit_NoTable_NoWalk : PySem.W.kitOne K (.ref ad.NoTable) (.ref ad.NoWalk) = some false
  exm_NoTable_NoWalk : PySem.W.exmOne K (.ref ad.NoTable) (.ref ad.NoWalk) = some false
  kit_NoTable_TooMany : PySem.W.kitOne K (.ref ad.NoTable) (.ref ad.TooMany) = some false
  exm_NoTable_TooMany : PySem.W.exmOne K (.ref ad.NoTable) (.ref ad.TooMany) = some false
  kit_NoTable_ValueError : PySem.W.kitOne K (.ref ad.NoTable) (.type "ValueError") = some true
  kit_NoClass_KinError : PySem.W.kitOne K (.ref ad.NoClass) (.ref ad.KinError) = some true
  exm_NoClass_KinError : PySem.W.exmOne K (.ref ad.NoClass) (.ref ad.KinError) = some true
  kit_NoClass_NoTable : PySem.W.kitOne K (.ref ad.NoClass) (.ref ad.NoTable) = some false
  exm_NoClass_NoTable : PySem.W.exmOne K (.ref ad.NoClass) (.ref ad.NoTable) = some false
  kit_NoClass_NoClass : PySem.W.kitOne K (.ref ad.NoClass) (.ref ad.NoClass) = some true
  exm_NoClass_NoClass : PySem.W.exmOne K (.ref ad.NoClass) (.ref ad.NoClass) = some true
  kit_NoClass_NoWalk : PySem.W.kitOne K (.ref ad.NoClass) (.ref ad.NoWalk) = some false
  exm_NoClass_NoWalk : PySem.W.exmOne K (.ref ad.NoClass) (.ref ad.NoWalk) = some false
  kit_NoClass_TooMany : PySem.W.kitOne K (.ref ad.NoClass) (.ref ad.TooMany) = some false
  exm_NoClass_TooMany : PySem.W.exmOne K (.ref ad.NoClass) (.ref ad.TooMany) = some false
  kit_NoClass_ValueError : PySem.W.kitOne K (.ref ad.NoClass) (.type "ValueError") = some true
  kit_NoWalk_KinError : PySem.W.kitOne K (.ref ad.NoWalk) (.ref ad.KinError) = some true
  exm_NoWalk_KinError : PySem.W.exmOne K (.ref ad.NoWalk) (.ref ad.KinError) = some true
  kit_NoWalk_NoTable : PySem.W.kitOne K (.ref ad.NoWalk) (.ref ad.NoTable) = some false
  exm_NoWalk_NoTable : PySem.W.exmOne K (.ref ad.NoWalk) (.ref ad.NoTable) = some false
  kit_NoWalk_NoClass : PySem.W.kitOne K (.ref ad.NoWalk) (.ref ad.NoClass) = some false
  exm_NoWalk_NoClass : PySem.W.exmOne K (.ref ad.NoWalk) (.ref ad.NoClass) = some false
  kit_NoWalk_NoWalk : PySem.W.kitOne K (.ref ad.NoWalk) (.ref ad.NoWalk) = some true
  exm_NoWalk_NoWalk : PySem.W.exmOne K (.ref ad.NoWalk) (.ref ad.NoWalk) = some true
  kit_NoWalk_TooMany : PySem.W.kitOne K (.ref ad.NoWalk) (.ref ad.TooMany) = some false
  exm_NoWalk_TooMany : PySem.W.exmOne K (.ref ad.NoWalk) (.ref ad.TooMany) = some false
  kit_NoWalk_ValueError : PySem.W.kitOne K (.ref ad.NoWalk) (.type "ValueError") = some true
  kit_TooMany_KinError : PySem.W.kitOne K (.ref ad.TooMany) (.ref ad.KinError) = some true
  exm_TooMany_KinError : PySem.W.exmOne K (.ref ad.TooMany) (.ref ad.KinError) = some true
  kit_TooMany_NoTable : PySem.W.kitOne K (.ref ad.TooMany) (.ref ad.NoTable) = some false
  exm_TooMany_NoTable : PySem.W.exmOne K (.ref ad.TooMany) (.ref ad.NoTable) = some false
  kit_TooMany_NoClass : PySem.W.kitOne K (.ref ad.TooMany) (.ref ad.NoClass) = some false
  exm_TooMany_NoClass : PySem.W.exmOne K (.ref ad.TooMany) (.ref ad.NoClass) = some false
  kit_TooMany_NoWalk : PySem.W.kitOne K (.ref ad.TooMany) (.ref ad.NoWalk) = some false
  exm_TooMany_NoWalk : PySem.W.exmOne K (.ref ad.TooMany) (.ref ad.NoWalk) = some false
  kit_TooMany_TooMany : PySem.W.kitOne K (.ref ad.TooMany) (.ref ad.TooMany) = some true
  exm_TooMany_TooMany : PySem.W.exmOne K (.ref ad.TooMany) (.ref ad.TooMany) = some true
  kit_TooMany_ValueError : PySem.W.kitOne K (.ref ad.TooMany) (.type "ValueError") = some true
  cl_Table : Cls K ad.Table
  na_Table_brides : NoAttr K ad.Table "brides"
  na_Table_elders : NoAttr K ad.Table "elders"
  na_Table_grooms : NoAttr K ad.Table "grooms"
  na_Table_lines : NoAttr K ad.Table "lines"
  g_Table : mg "Table" = some (.ref ad.Table)
  std_see_walk : Std K mg "see_walk" s_see_walk ["walk"]
  std_next_sex : Std K mg "next_sex" s_next_sex ["sex", "letter"]
  std_end_sex : Std K mg "end_sex" s_end_sex ["sex", "walk"]
  std_next_class : Std K mg "next_class" s_next_class ["table", "sex", "c", "letter"]
  std_walked : Std K mg "walked" s_walked ["table", "sex", "c", "walk"]
  std_turn_of : Std K mg "turn_of" s_turn_of ["table", "sex", "walk"]
  std_shortest : Std K mg "shortest" s_shortest ["table", "sex", "walk"]
  std_is_turn : Std K mg "is_turn" s_is_turn ["row"]
  std_back_of : Std K mg "back_of" s_back_of ["turn"]
  std_Table_init : ∃ f fd, Mk K ad.Table f ∧ Fun K "__init__" "Table.__init__" s_Table_init f fd ∧ Binds K fd ["self", "wives", "heirs"] []
  std_Table_size : StdM K ad.Table "size" "Table.size" s_Table_size ["self"]
  std_Table_see_class : StdM K ad.Table "see_class" "Table.see_class" s_Table_see_class ["self", "c"]
  std_Table_wife_of : StdM K ad.Table "wife_of" "Table.wife_of" s_Table_wife_of ["self", "c"]
  std_Table_husband_of : StdM K ad.Table "husband_of" "Table.husband_of" s_Table_husband_of ["self", "c"]
  std_Table_heir_of : StdM K ad.Table "heir_of" "Table.heir_of" s_Table_heir_of ["self", "c"]
  std_Table_father_of : StdM K ad.Table "father_of" "Table.father_of" s_Table_father_of ["self", "c"]
  std_l_cell_at : Std K mg "_law_cell_at" s_l_cell_at ["script", "k"]
  std_l_turn_by : Std K mg "_law_turn_by" s_l_turn_by ["cell", "many"]
  std_l_walk_by : Std K mg "_law_walk_by" s_l_walk_by ["cell", "most"]
  std_l_step : Std K mg "_law_step" s_l_step ["wives", "heirs", "sex", "c", "letter"]
  std_l_led : Std K mg "_law_led" s_l_led ["wives", "heirs", "sex", "c", "walk"]
  std_l_turn_of : Std K mg "_law_turn_of" s_l_turn_of ["wives", "heirs", "sex", "walk"]
  std_l_fewest : Std K mg "_law_fewest" s_l_fewest ["wives", "heirs", "sex", "goal"]
  std_l_refused : Std K mg "_law_refused" s_l_refused ["table", "sex", "walk"]
  std_law : Std K mg "law" s_law ["script"]
section
variable {P : Program} {w : World} {K : PySem.W.Frag} {mg : Str → Option Value} {base : Heap} {ad : Ads}
/-! _law_cell_at -/
def sg_l_cell_at (_ : Ads) : List D → Out → Prop := fun ds o => ∃ (ns : List Int) (i : Nat), ds = [.scr ns, .int i] ∧ o = .ok (.int (ns.getD i 0))
theorem ok_l_cell_at {k : Nat} {f : Addr} {fd : FuncData} (F : Fun K "_law_cell_at" "_law_cell_at" s_l_cell_at f fd) (T : Txt K mg ad)  : FnOk P w K mg base (L2.CX P w) (k + 1) f fd ["script", "k"] (spX K (sg_l_cell_at ad)) := by
  refine okX F sc_l_cell_at (fun ds o ⟨n, w, e, _⟩ => by rw [e]; rfl) fun cdv A outer s H E ds o hr hs => ?_
  obtain ⟨ns, i, rfl, rfl⟩ := hs
  refine db_if (dt_lt (de_var 1) (de_lenI .s T.len bt_len (da_cons (de_var 0) da_nil))) (fun h => ?_) (fun h => ?_)
  · have hl : i < ns.length := by simpa using h
    exact db_ret ((de_ixL (de_var 0) (de_var 1) .s (atI_ints (List.getElem?_eq_getElem hl))).is (by rw [List.getD_eq_getElem?_getD, List.getElem?_eq_getElem hl]; rfl)) (fit rfl)
  refine db_nil ?_
  have hl : ns.length ≤ i := by simpa using h
  exact db_ret (de_int.is (by rw [List.getD_eq_getElem?_getD, List.getElem?_eq_none hl]; rfl)) (fit rfl)
/-! _law_turn_by -/
def sg_l_turn_by (_ : Ads) : List D → Out → Prop := fun ds o => ∃ (c : Int) (n : Nat), ds = [.int c, .int n] ∧ n ≤ 1000 ∧ o = .ok (L (turnBy c n))
theorem ok_l_turn_by {k : Nat} {f : Addr} {fd : FuncData} (F : Fun K "_law_turn_by" "_law_turn_by" s_l_turn_by f fd) (T : Txt K mg ad)  : FnOk P w K mg base (L2.CX P w) (k + 1) f fd ["cell", "many"] (spX K (sg_l_turn_by ad)) := by
  refine okX F sc_l_turn_by (fun ds o ⟨n, w, e, _⟩ => by rw [e]; rfl) fun cdv A outer s H E ds o hr hs => ?_
  obtain ⟨c, n, rfl, hn, rfl⟩ := hs
  have nd := sc_l_turn_by.nd
  refine db_setLcE (own := [("c", 4)]) (out := (rng n).map .int) 2 4 (fun _ => true) (fun d => d) (di_rng1 (n := (n : Int)) (da_cons (de_var 1) da_nil) T.range (by omega)) trivial (blkOk_by rfl) nd (by simp [rngD_length]; omega) (by rw [flt_all]; simp [rngD_rng]) (fun s H Cc cl fp d hd => dts_nil) (fun s H Cc cl fp d hd hc => (de_var 4)) ?_
  refine db_set 3 (df_lst da_nil).own ?_ nd
  refine db_while (fun m M env => ∃ (cell : Int) (rest out : List Int) (u : Option D), M = [.lst (rest.map .int), .lst (out.map .int)] ∧ env = [some (.int cell), some (.int n), some (.loc 0), some (.loc 1), u] ∧ rest.length = m ∧ out.length + m = n ∧ out ++ turnGo m cell rest = turnBy c n) n
    ⟨c, rng n, [], _, rfl, rfl, rng_length n, by simp, rfl⟩ (fun m M env hJ => ?_) (passes_of rfl)
  obtain ⟨cell, rest, out, u, rfl, rfl, hm, hmn, ht⟩ := hJ
  refine ⟨_, _, (dt_gt (de_lenI (xs := rest) (.o rfl) T.len bt_len (da_cons (de_var 2) da_nil)) de_int), (fun h => ?_), (fun h => ?_)⟩
  · have hp : 0 < rest.length := by simpa using h
    have hne : rest ≠ [] := List.length_pos_iff.mp hp
    cases m with
    | zero => omega
    | succ m =>
    refine db_set 0 (d := .int (stepC cell)) (de_mod (de_add (de_mul (de_var 0) de_int (.inr (by decide))) de_int) de_int (by decide)) ?_ nd
    have hi := turn_ix (c := cell) hne
    generalize hj : (stepC cell / 3 % (rest.length : Int)).toNat = j at hi
    have hjz : stepC cell / 3 % (rest.length : Int) = (j : Int) := by
      have := Int.emod_nonneg (stepC cell / 3) (b := (rest.length : Int)) (by omega)
      omega
    have hv : rest[j]? = some rest[j] := List.getElem?_eq_getElem hi
    refine db_expr (de_append (ds := out.map .int) (de_var 3) (de_popAt (ds := rest.map .int) (j := j) (d := .int rest[j]) (de_var 2) ((de_mod (de_fdiv (de_var 0) de_int ⟨by decide, by decide⟩) (de_lenI (xs := rest) (.o rfl) T.len bt_len (da_cons (de_var 2) da_nil)) (by omega)).is (congrArg D.int hjz)) rfl (ixN_nat (by simpa using hi)) (ints_get hv) (by simp; omega)) rfl (by simp; omega)) ?_
    refine db_nil ⟨m, by omega, stepC cell, rest.eraseIdx j, out ++ [rest[j]], u, ?_, rfl, ?_, ?_, ?_⟩
    · simp [map_erase]
    · rw [List.length_eraseIdx, if_pos hi]; omega
    · simp; omega
    · rw [← ht, turnGo, hj, hv]; simp
  · have hp : rest.length = 0 := by simpa using h
    have : m = 0 := by omega
    subst this
    have e : out = turnBy c n := by simpa [turnGo] using ht
    subst e
    exact db_ret (de_var 3) (fitR (.cell rfl (Ress.flat (nls_ints _))))
/-! _law_walk_by -/
def sg_l_walk_by (_ : Ads) : List D → Out → Prop := fun ds o => ∃ c m : Int, ds = [.int c, .int m] ∧ 0 ≤ m ∧ m ≤ 60 ∧ o = .ok (.str (S (walkBy c m)))
theorem ok_l_walk_by {k : Nat} {f : Addr} {fd : FuncData} (F : Fun K "_law_walk_by" "_law_walk_by" s_l_walk_by f fd) (T : Txt K mg ad)  : FnOk P w K mg base (L2.CX P w) (k + 1) f fd ["cell", "most"] (spX K (sg_l_walk_by ad)) := by
  refine okX F sc_l_walk_by (fun ds o ⟨c, m, e, _⟩ => by rw [e]; rfl) fun cdv A outer st H E ds o hr hs => ?_
  obtain ⟨c, m, rfl, hm0, hm60, rfl⟩ := hs
  have nd := sc_l_walk_by.nd
  have b1 := Int.emod_nonneg c (b := m + 1) (by omega)
  have b2 := Int.emod_lt_of_pos c (b := m + 1) (by omega)
  generalize hn : (c % (m + 1)).toNat = n
  refine db_set 2 (de_strC s_nil) ?_ nd
  refine db_forR 3 (n := n) (da_cons ((de_mod (de_var 0) (de_add (de_var 1) de_int) (by omega)).is (congrArg D.int (by omega))) da_nil) T.range (by omega) nd (fun i M env => ∃ (cc : Int) (out : List Nat) (u : Option D), env = [some (.int cc), some (.int m), some (.str (S out)), u] ∧ out.length = i ∧ out ++ walkGo (n - i) cc = walkBy c m) ⟨c, [], none, rfl, rfl, by unfold walkBy; rw [hn]; rfl⟩ (fun i M env hi hJ => ?_) (fun M env hJ => ?_) (passes_of rfl)
  · obtain ⟨cc, out, u, rfl, hlen, ht⟩ := hJ
    obtain ⟨j, l, hj, hl, hm⟩ := let_ix (stepW cc / 5)
    refine db_set 0 (d := .int (stepW cc)) (de_mod (de_add (de_mul (de_var 0) de_int (.inr (by decide))) de_int) de_int (by decide)) ?_ nd
    refine db_set 2 (de_addC (de_var 2) (de_ixC (de_strC s_lets) ((de_mod (de_fdiv (de_var 0) de_int ⟨by decide, by decide⟩) de_int (by decide)).is (congrArg D.int hj)) (by decide) hl) (by simp; omega)) ?_ nd
    refine db_nil ⟨stepW cc, out ++ [l], _, rfl, by simp; omega, ?_⟩
    rw [← ht]
    have e : n - i = (n - (i + 1)) + 1 := by omega
    rw [e, walkGo]
    have : (stepW cc / 5 % 7).toNat = j := by omega
    rw [this, hl]
    simp
  · obtain ⟨cc, out, u, rfl, hlen, ht⟩ := hJ
    rw [Nat.sub_self, walkGo, List.append_nil] at ht
    rw [ht]
    exact db_ret (de_var 2) (fit rfl)
/-! _law_step -/
def sg_l_step (_ : Ads) : List D → Out → Prop := fun ds o => ∃ (n : Nat) (w h : List Int) (s : Bool) (c l : Nat), Tab n w h ∧ c < n ∧ l ∈ lets ∧ ds = [L w, L h, sxD s, .int (c : Int), .str (S [l])] ∧ o = .ok (.tup [sxD (nextS s l), .int ((nextC w h s c l : Nat) : Int)])
theorem ok_l_step {k : Nat} {f : Addr} {fd : FuncData} (F : Fun K "_law_step" "_law_step" s_l_step f fd) (T : Txt K mg ad)  : FnOk P w K mg base (L2.CX P w) (k + 1) f fd ["wives", "heirs", "sex", "c", "letter"] (spX K (sg_l_step ad)) := by
  refine okX F sc_l_step (fun ds o ⟨n, w, h, s, c, l, _, _, _, e, _⟩ => by rw [e]; rfl) fun cdv A outer st H E ds o hr hs => ?_
  obtain ⟨n, w, h, s, c, l, TT, hc, hl, rfl, rfl⟩ := hs
  have nd := sc_l_step.nd
  have ix : ∀ {xs : List Int}, Trn n xs → xs[ap (backOf xs) c]? = some (c : Int) ∧ ∀ m z, m < ap (backOf xs) c → xs[m]? = some z → z ≠ (c : Int) := fun {xs} X => by
    have h1 := backOf_back X hc ((backOf_trn X).ap hc).1
    exact ⟨h1, fun m z hm hz e => by subst e; have := X.inj hz h1; omega⟩
  refine db_set 5 (de_index (de_var 1) (de_var 3) ⟨_, .d⟩ .d (ix TT.h).1 (ix TT.h).2) ?_ nd
  refine db_set 6 (de_var 3) ?_ nd
  refine db_ifK (fun M env => M = [] ∧ env = [some (L w), some (L h), some (sxD s), some (.int (c : Int)), some (.str (S [l])), some (.int ((ap (backOf h) c : Nat) : Int)), some (.int (((if s = true then c else ap (backOf w) c : Nat)) : Int))]) ((dt_eqS (de_var 2) de_str).is (sx_woman s)) (fun hq => ?_) (fun hq => ?_) (fun M env hJ => ?_)
  · have hs : s = false := by simpa using hq
    subst hs
    exact db_set 6 (de_index (de_var 0) (de_var 3) ⟨_, .d⟩ .d (ix TT.w).1 (ix TT.w).2) (db_nil ⟨rfl, rfl⟩) nd
  · have hs : s = true := by simpa using hq
    subst hs
    exact db_nil ⟨rfl, rfl⟩
  obtain ⟨rfl, rfl⟩ := hJ
  have hfa := ((backOf_trn TT.h).ap hc).2
  have hgr : (if s = true then c else ap (backOf w) c) < n := by split; exact hc; exact ((backOf_trn TT.w).ap hc).2
  refine db_if (dt_eqC (x := 102) (de_var 4) de_str s_f) (fun hq => ?_) (fun hq => ?_)
  · have := of_decide_eq_true hq
    subst this
    exact db_ret (de_tup (da_cons de_str (da_cons (de_var 5) da_nil))) (fit (nl_sx true _))
  refine db_nil ?_
  have h1 := of_decide_eq_false hq
  refine db_if (dt_eqC (x := 109) (de_var 4) de_str s_m) (fun hq => ?_) (fun hq => ?_)
  · have := of_decide_eq_true hq
    subst this
    exact db_ret (de_tup (da_cons de_str (da_cons (de_ixL (de_var 0) (de_var 5) .d (atI_ints (TT.w.ap hfa).1)) da_nil))) (fit (nl_sx false _))
  refine db_nil ?_
  have h2 := of_decide_eq_false hq
  refine db_if (dt_eqC (x := 112) (de_var 4) de_str s_p) (fun hq => ?_) (fun hq => ?_)
  · have := of_decide_eq_true hq
    subst this
    exact db_ret (de_if ((dt_eqS (de_var 2) de_str).is (sx_man s)) (fun e => by subst e; exact de_tup (da_cons de_str (da_cons (de_ixL (de_var 0) (de_var 3) .d (atI_ints (TT.w.ap hc).1)) da_nil))) (fun e => by subst e; exact de_tup (da_cons de_str (da_cons (de_var 6) da_nil)))) (fit (nl_sx _ _))
  refine db_nil ?_
  have h3 := of_decide_eq_false hq
  refine db_if (dt_inC (de_var 4) de_str c_sd) (fun hq => ?_) (fun hq => ?_)
  · have hm := of_decide_eq_true hq
    have hn : nextC w h s c l = ap h (if s = true then c else ap (backOf w) c) := by
      unfold nextC
      rw [if_neg h1, if_neg h2, if_neg (fun z => h3 z.1), if_neg h3]
      cases s
      · rw [if_neg (by simp), if_pos hm]; rfl
      · rw [if_pos ⟨hm, rfl⟩]; rfl
    have hS : nextS s l = decide (l = 115) := by
      simp only [List.mem_cons, List.not_mem_nil, or_false] at hm
      rcases hm with rfl | rfl <;> rfl
    rw [hn, hS]
    exact db_ret (de_tup (da_cons (de_if (d := sxD (decide (l = 115))) (dt_eqC (x := 115) (de_var 4) de_str s_s) (fun e => de_str.is (by rw [e]; rfl)) (fun e => de_str.is (by rw [e]; rfl))) (da_cons (de_ixL (de_var 1) (de_var 6) .d (atI_ints (TT.h.ap hgr).1)) da_nil))) (fit (nl_sx _ _))
  refine db_nil ?_
  have h4 := of_decide_eq_false hq
  have hn : nextC w h s c l = c := by
    unfold nextC
    rw [if_neg h1, if_neg h2, if_neg (fun z => h3 z.1), if_neg h3, if_neg (fun z => h4 z.1), if_neg h4]
  have hS : nextS s l = decide (l = 98) := by
    simp only [lets, List.mem_cons, List.not_mem_nil, or_false] at hl h4
    rcases hl with rfl | rfl | rfl | rfl | rfl | rfl | rfl
    · exact absurd rfl h1
    · exact absurd rfl h2
    · exact absurd (.inl rfl) h4
    · exact absurd (.inr rfl) h4
    · exact absurd rfl h3
    · rfl
    · rfl
  rw [hn, hS]
  exact db_ret (de_tup (da_cons (de_if (d := sxD (decide (l = 98))) (dt_eqC (x := 98) (de_var 4) de_str s_b) (fun e => de_str.is (by rw [e]; rfl)) (fun e => de_str.is (by rw [e]; rfl))) (da_cons (de_var 3) da_nil))) (fit (nl_sx _ _))
/-! _law_led -/
def sg_l_led (_ : Ads) : List D → Out → Prop := fun ds o => ∃ (n : Nat) (w h : List Int) (s : Bool) (c : Nat) (ls : List Nat), Tab n w h ∧ c < n ∧ okW ls = true ∧ ds = [L w, L h, sxD s, .int (c : Int), .str (S ls)] ∧ o = .ok (.tup [sxD (led w h ls (s, c)).1, .int (((led w h ls (s, c)).2 : Nat) : Int)])
theorem ok_l_led {k : Nat} {f : Addr} {fd : FuncData} (F : Fun K "_law_led" "_law_led" s_l_led f fd) (T : Txt K mg ad) (d_l_step : Dfn P w K mg base "_law_step" k ["wives", "heirs", "sex", "c", "letter"] (spX K (sg_l_step ad))) : FnOk P w K mg base (L2.CX P w) (k + 1) f fd ["wives", "heirs", "sex", "c", "walk"] (spX K (sg_l_led ad)) := by
  refine okX F sc_l_led (fun ds o ⟨n, w, h, s, c, ls, _, _, _, e, _⟩ => by rw [e]; rfl) fun cdv A outer st H E ds o hr hs => ?_
  obtain ⟨n, w, h, s, c, ls, TT, hc, hok, rfl, rfl⟩ := hs
  have nd := sc_l_led.nd
  have hl := (okW_iff.mp hok).2
  refine db_forS 5 (ls := ls) (de_var 4) nd (fun j M env => ∃ u v, env = [some (L w), some (L h), some (sxD (led w h (ls.take j) (s, c)).1), some (.int (((led w h (ls.take j) (s, c)).2 : Nat) : Int)), some (.str (S ls)), u, v]) ⟨none, none, rfl⟩ (fun j l M env hj hJ => ?_) (fun M env hJ => ?_) (passes_of rfl)
  · obtain ⟨u, v, rfl⟩ := hJ
    have hlt := TT.led (ls.take j) (s := s) hc
    have e := led_snoc w h (ls.take j) l (s, c)
    refine db_set 6 (de_call d_l_step hr (da_cons (de_var 0) (da_cons (de_var 1) (da_cons (de_var 2) (da_cons (de_var 3) (da_cons (de_var 5) da_nil))))) ⟨n, w, h, _, _, l, TT, hlt, hl l (List.mem_of_getElem? hj), rfl, rfl⟩ (by simp [nls, D.nl, nls_ints]) (nl_sx _ _)) ?_ nd
    refine db_set 2 (de_ixT (i := 0) (de_var 6) de_int rfl) ?_ nd
    refine db_set 3 (de_ixT (i := 1) (de_var 6) de_int rfl) ?_ nd
    refine db_nil ⟨some (.str (S [l])), some (.tup [sxD (nextS (led w h (ls.take j) (s, c)).1 l), .int ((nextC w h (led w h (ls.take j) (s, c)).1 (led w h (ls.take j) (s, c)).2 l : Nat) : Int)]), ?_⟩
    rw [take_snoc hj, e]
    rfl
  · obtain ⟨u, v, rfl⟩ := hJ
    rw [List.take_length]
    exact db_ret (de_tup (da_cons (de_var 2) (da_cons (de_var 3) da_nil))) (fit (nl_sx _ _))
/-! _law_turn_of -/
theorem led_mapL {n : Nat} {wi he : List Int} (s : Bool) (ls : List Nat) : (((rngD 0 n).filter fun _ => true).map fun d => match d with | .int c => D.tup [sxD (sexAt s ls), .int (((led wi he ls (s, c.toNat)).2 : Nat) : Int)] | _ => .non) = lL (runS wi he (s, List.range n) ls) := by
  rw [flt_all, rngD_nat, runS_led, List.map_map]
  show _ = ((List.range n).map fun c => (led wi he ls (s, c)).2).map fun (c : Nat) => D.tup [sxD (sexAt s ls), .int (c : Int)]
  rw [List.map_map]
  refine List.map_congr_left fun c _ => ?_
  show D.tup [sxD (sexAt s ls), .int (((led wi he ls (s, ((c : Int)).toNat)).2 : Nat) : Int)] = _
  rw [Int.toNat_natCast]
  rfl
def sg_l_turn_of (_ : Ads) : List D → Out → Prop := fun ds o => ∃ (n : Nat) (wi he : List Int) (s : Bool) (ls : List Nat), Tab n wi he ∧ okW ls = true ∧ ds = [L wi, L he, sxD s, .str (S ls)] ∧ o = .ok (lD (runS wi he (s, List.range n) ls))
theorem ok_l_turn_of {k : Nat} {f : Addr} {fd : FuncData} (F : Fun K "_law_turn_of" "_law_turn_of" s_l_turn_of f fd) (T : Txt K mg ad) (d_l_led : Dfn P w K mg base "_law_led" k ["wives", "heirs", "sex", "c", "walk"] (spX K (sg_l_led ad))) : FnOk P w K mg base (L2.CX P w) (k + 1) f fd ["wives", "heirs", "sex", "walk"] (spX K (sg_l_turn_of ad)) := by
  refine okX F sc_l_turn_of (fun ds o ⟨_, _, _, _, _, _, _, e, _⟩ => by rw [e]; rfl) fun cdv A outer st H E ds o hr hs => ?_
  obtain ⟨n, wi, he, s, ls, TT, hok, rfl, rfl⟩ := hs
  have nd := sc_l_turn_of.nd
  have h8 := TT.eight
  have lw := TT.w.len
  refine db_ret (de_tuple .d T.tuple (by decide +kernel) (da_cons ((df_lc (own := [("c", 4)]) 4 (fun _ => true) (fun d => match d with | .int c => D.tup [sxD (sexAt s ls), .int (((led wi he ls (s, c.toNat)).2 : Nat) : Int)] | _ => .non) (di_rng1 (n := (n : Int)) (da_cons ((de_lenI .d T.len bt_len (da_cons (de_var 0) da_nil)).is (by rw [lw])) da_nil) T.range (by omega)) trivial (blkOk_by rfl) nd (by rw [rngD_length]; omega) (fun s H Cc cl fp d hd => dts_nil) (fun _ H Cc cl fp d hd hc => ?_)).is (by rw [Int.toNat_natCast]; exact led_mapL s ls)).de da_nil)) (fit (lD_nl _))
  obtain ⟨c, hc⟩ := List.mem_iff_getElem?.mp hd
  obtain ⟨hcn, rfl⟩ := rngD_at hc
  rw [Int.toNat_natCast] at hcn
  have e0 : (0 : Int) + (c : Nat) = (c : Int) := by omega
  rw [e0]
  refine (de_call d_l_led hr (da_cons (de_var 0) (da_cons (de_var 1) (da_cons (de_var 2) (da_cons (de_var 4) (da_cons (de_var 3) da_nil))))) ⟨n, wi, he, s, c, ls, TT, hcn, hok, rfl, rfl⟩ (by simp [nls, D.nl, nls_ints]) (nl_sx _ _)).is ?_
  rw [led_sex]
  show _ = D.tup [sxD (sexAt s ls), .int (((led wi he ls (s, ((c : Int)).toNat)).2 : Nat) : Int)]
  rw [Int.toNat_natCast]
/-! _law_fewest -/
theorem ring0 (n : Nat) (s : Bool) : (((rngD 0 n).filter fun _ => true).map fun d => D.tup [sxD s, d]) = lL (s, List.range n) := by
  rw [flt_all, rngD_nat, List.map_map]
  rfl
theorem set_last' (M : List C) (c c' : C) : (M ++ [c]).set M.length c' = M ++ [c'] := by simp
theorem kvZ_app (Z : List Stt) (R : List Stt) {i : Nat} {p : Stt} (h : R[i]? = some p) : kvZ (Z ++ R.take (i + 1)) = kvZ (Z ++ R.take i) ++ [(lD p, .bl true)] := by
  rw [take_snoc h, ← List.append_assoc, kvZ_snoc]
def sg_l_fewest (_ : Ads) : List D → Out → Prop := fun ds o => ∃ (n : Nat) (wi he : List Int) (s : Bool) (g : Stt) (Dk : Nat), Tab n wi he ∧ n ≤ 4 ∧ IsDist wi he (s, List.range n) g Dk ∧ ds = [L wi, L he, sxD s, lD g] ∧ o = .ok (.int (Dk : Int))
theorem ok_l_fewest {k : Nat} {f : Addr} {fd : FuncData} (F : Fun K "_law_fewest" "_law_fewest" s_l_fewest f fd) (T : Txt K mg ad) (d_l_step : Dfn P w K mg base "_law_step" k ["wives", "heirs", "sex", "c", "letter"] (spX K (sg_l_step ad))) : FnOk P w K mg base (L2.CX P w) (k + 1) f fd ["wives", "heirs", "sex", "goal"] (spX K (sg_l_fewest ad)) := by
  refine okX F sc_l_fewest (fun ds o ⟨_, _, _, _, _, _, _, _, _, e, _⟩ => by rw [e]; rfl) fun cdv A outer st H E ds o hr hs => ?_
  obtain ⟨n, wi, he, s, g, Dk, TT, h4, hD, rfl, rfl⟩ := hs
  have nd := sc_l_fewest.nd
  have hu : ∀ {A : Around}, Room k A → A.units + 20 < cLine := fun h => by have := h.un; omega
  have hu5 : ∀ {A : Around}, Room k A → A.units + 65 < cLine := fun h => by have := h.un; omega
  have lw := TT.w.len
  refine db_set 4 de_nnew ?_ nd
  refine db_set 5 (df_lst (ds := [lD (s, List.range n)]) (da_cons (de_tuple .d T.tuple (by decide +kernel) (da_cons ((df_lc (own := [("c", 11)]) 11 (fun _ => true) (fun d => .tup [sxD s, d]) (di_rng1 (n := (n : Int)) (da_cons ((de_lenI .d T.len bt_len (da_cons (de_var 0) da_nil)).is (by rw [lw])) da_nil) T.range (by omega)) trivial (blkOk_by rfl) nd (by rw [rngD_length]; omega) (fun s H Cc cl fp d hd => dts_nil) (fun _ H Cc cl fp d hd hc => de_tup (da_cons (de_var 2) (da_cons (de_var 11) da_nil)))).is (by rw [Int.toNat_natCast]; exact ring0 n s)).de da_nil)) da_nil)).own ?_ nd
  refine db_set 6 de_int ?_ nd
  have ne : ∀ {st : Stt} {j : Nat}, IsDist wi he (s, List.range n) st j → st.2 ≠ [] := fun d => (dist_lt TT d).1
  have gne := ne hD
  refine db_while (fun m M env => ∃ (kk : Nat) (R Z : List Stt) (l : Nat) (rest : List C) (u7 u8 u9 u10 : Option D), m = Dk - kk ∧ kk ≤ Dk ∧ Ring wi he (s, List.range n) R Z kk ∧ M = .nd (ents w (kvZ Z)) :: rest ∧ rest[l]? = some (.lst (R.map lD)) ∧
    env = [some (L wi), some (L he), some (sxD s), some (lD g), some (.loc 0), some (.loc (l + 1)), some (.int (kk : Int)), u7, u8, u9, u10, none, none]) Dk ⟨0, [(s, List.range n)], [], 0, _, none, none, none, none, rfl, Nat.zero_le _, Ring.start wi he _, rfl, rfl, rfl⟩ (fun m M env hJ => ?_) (passes_of rfl)
  obtain ⟨kk, R, Z, l, rest, u7, u8, u9, u10, rfl, hkk, HR, rfl, hl, rfl⟩ := hJ
  have Rne : ∀ st ∈ R, st.2 ≠ [] := fun st hst => ne ((HR.all st).mp hst)
  obtain ⟨hs1, hs2⟩ := HR.seen
  have Zl : (Z ++ R).length ≤ 512 := ring_len TT h4 hs1 fun st hst => by obtain ⟨j, _, d⟩ := (hs2 st).mp hst; exact ⟨j, d⟩
  rw [List.length_append] at Zl
  refine ⟨_, _, (dt_ninD (x' := lD g) (es := R.map lD) (hu5 hr) (de_var 3) (de_var 5) (.flat (lD_nl g)) (.cell (k := l + 1) hl (Ress.flat (nls_map _ lD_nl _))) (lD_pur g) (ring_pur R) (Nat.le_trans (lD_dep g) (by omega)) (ring_dep R)).is (by rw [any_l Rne g]), fun hq => ?_, fun hq => ?_⟩
  · have hg : g ∉ R := by simpa using hq
    have hlt : kk < Dk := by
      by_cases e : kk = Dk
      · exact absurd ((HR.all g).mpr (e ▸ hD)) hg
      · omega
    have hll := (List.getElem?_eq_some_iff.mp hl).1
    refine db_set 7 (df_lst da_nil).own ?_ nd
    have pre : ∀ (Z' W : List Stt), (.nd (ents w (kvZ Z')) :: rest ++ [.lst (W.map lD)] : List C)[l + 1]? = some (.lst (R.map lD)) := fun Z' W => by
      show (rest ++ [.lst (W.map lD)])[l]? = _
      rw [List.getElem?_append_left hll]
      exact hl
    have lst : ∀ (Z' W : List Stt), (.nd (ents w (kvZ Z')) :: rest ++ [.lst (W.map lD)] : List C)[rest.length + 1]? = some (.lst (W.map lD)) := fun Z' W => last_get (.nd (ents w (kvZ Z')) :: rest) _
    refine db_forL 8 (ds := R.map lD) (di_list (de_var 5) (.o (pre Z []))) nd (fun i M env => M = .nd (ents w (kvZ (Z ++ R.take i))) :: rest ++ [.lst (([] : List Stt).map lD)] ∧ ∃ u8 u9 u10, env = [some (L wi), some (L he), some (sxD s), some (lD g), some (.loc 0), some (.loc (l + 1)), some (.int (kk : Int)), some (.loc (rest.length + 1)), u8, u9, u10, none, none]) ⟨by simp, _, _, _, rfl⟩ (fun i M env hJ => by obtain ⟨rfl, _⟩ := hJ; exact .o (pre _ _)) (fun i d M env hd hJ => ?_) (fun M env hJ => ?_) (passes_of rfl)
    · obtain ⟨rfl, v8, v9, v10, rfl⟩ := hJ
      obtain ⟨p, hp, rfl⟩ : ∃ p, R[i]? = some p ∧ d = lD p := by
        rw [List.getElem?_map] at hd
        cases e : R[i]? with
        | none => rw [e] at hd; cases hd
        | some y => rw [e] at hd; exact ⟨y, rfl, (Option.some.inj hd).symm⟩
      have pne := Rne p (List.mem_of_getElem? hp)
      have nsub : (Z ++ R.take (i + 1)).Nodup := hs1.sublist ((List.take_sublist _ _).append_left Z)
      rw [take_snoc hp, ← List.append_assoc] at nsub
      obtain ⟨n1, _, n3⟩ := List.nodup_append.mp nsub
      have pnot : p ∉ Z ++ R.take i := fun hm => n3 p hm p (List.mem_singleton.mpr rfl) rfl
      have zne : ∀ st ∈ Z ++ R.take i, st.2 ≠ [] := fun st hst => by
        have : st ∈ Z ++ R := by
          rcases List.mem_append.mp hst with h | h
          · exact List.mem_append_left _ h
          · exact List.mem_append_right _ (List.mem_of_mem_take h)
        obtain ⟨j, _, d⟩ := (hs2 st).mp this
        exact ne d
      have NZ : NOk (kvZ (Z ++ R.take i)) (lL p) := ⟨kvZ_ok n1 zne, l_noks _, l_dep _, by unfold kvZ; rw [List.length_map, List.length_append, List.length_take]; omega⟩
      refine db_putN (k := 0) (kvs := kvZ (Z ++ R.take i)) (ds := lL p) (hu hr) NZ de_bl (de_var 4) (de_var 8) rfl (kvZ_none pne pnot) (db_nil ⟨?_, _, _, _, rfl⟩)
      rw [kvZ_app Z R hp]
      rfl
    obtain ⟨rfl, v8, v9, v10, rfl⟩ := hJ
    rw [List.length_map, List.take_length]
    have zne : ∀ st ∈ Z ++ R, st.2 ≠ [] := fun st hst => by
      obtain ⟨j, _, d⟩ := (hs2 st).mp hst
      exact ne d
    have NZ : ∀ st : Stt, NOk (kvZ (Z ++ R)) (lL st) := fun st => ⟨kvZ_ok hs1 zne, l_noks _, l_dep _, by unfold kvZ; rw [List.length_map, List.length_append]; omega⟩
    refine db_forL 8 (ds := R.map lD) (di_list (de_var 5) (.o (pre (Z ++ R) []))) nd (fun i M env => ∃ W, More wi he (s, List.range n) R (Z ++ R) W kk i 0 ∧ M = .nd (ents w (kvZ (Z ++ R))) :: rest ++ [.lst (W.map lD)] ∧ ∃ u8 u9 u10, env = [some (L wi), some (L he), some (sxD s), some (lD g), some (.loc 0), some (.loc (l + 1)), some (.int (kk : Int)), some (.loc (rest.length + 1)), u8, u9, u10, none, none]) ⟨[], More.start, rfl, _, _, _, rfl⟩ (fun i M env hJ => by obtain ⟨W, _, rfl, _⟩ := hJ; exact .o (pre _ _)) (fun i d M env hd hJ => ?_) (fun M env hJ => ?_) (passes_of rfl)
    · obtain ⟨W0, MM0, rfl, x8, x9, x10, rfl⟩ := hJ
      obtain ⟨p, hp, rfl⟩ : ∃ p, R[i]? = some p ∧ d = lD p := by
        rw [List.getElem?_map] at hd
        cases e : R[i]? with
        | none => rw [e] at hd; cases hd
        | some y => rw [e] at hd; exact ⟨y, rfl, (Option.some.inj hd).symm⟩
      have dp := (HR.all p).mp (List.mem_of_getElem? hp)
      obtain ⟨pne, plt⟩ := dist_lt TT dp
      refine db_forS 9 (ls := lets) (de_strC s_lets) nd (fun j M env => ∃ W, More wi he (s, List.range n) R (Z ++ R) W kk i j ∧ M = .nd (ents w (kvZ (Z ++ R))) :: rest ++ [.lst (W.map lD)] ∧ ∃ u9 u10, env = [some (L wi), some (L he), some (sxD s), some (lD g), some (.loc 0), some (.loc (l + 1)), some (.int (kk : Int)), some (.loc (rest.length + 1)), some (lD p), u9, u10, none, none]) ⟨W0, MM0, rfl, _, _, rfl⟩ (fun j lt M env hj hJ => ?_) (fun M env hJ => ?_) (passes_of rfl)
      · obtain ⟨W, MM, rfl, y9, y10, rfl⟩ := hJ
        have hlt2 := List.mem_of_getElem? hj
        have Wne : ∀ st ∈ W, st.2 ≠ [] := fun st hst => ne (MM.all st hst)
        have Wl : W.length ≤ 512 := ring_len TT h4 MM.nd fun st hst => ⟨_, MM.all st hst⟩
        obtain ⟨jq, _, dq⟩ := dist_step dp hlt2 rfl
        have qne := ne dq
        have pl : p.2.length ≤ 1000 := by
          obtain ⟨⟨ls, _, _, e⟩, _⟩ := dp
          have := (run_lt TT (s := s) (ls := ls)).1
          rw [e] at this
          omega
        refine db_set 10 (d := lD (mv wi he p lt)) (de_tuple .d T.tuple (by decide +kernel) (da_cons ((df_lc (own := [("one", 12)]) 12 (fun _ => true) (fun d => match d with | .tup [_, .int c] => D.tup [sxD (nextS p.1 lt), .int ((nextC wi he p.1 c.toNat lt : Nat) : Int)] | _ => .non) (di_tup (ds := lL p) (de_var 8)) trivial (blkOk_by rfl) nd (by unfold lL; rw [List.length_map]; omega) (fun s H Cc cl fp d hd => dts_nil) (fun _ H Cc cl fp d hd hc => ?_)).is (mv_mapL wi he p lt)).de da_nil)) ?_ nd
        · obtain ⟨c, hc, rfl⟩ := List.mem_map.mp hd
          refine (de_call d_l_step hr (da_cons (de_var 0) (da_cons (de_var 1) (da_cons (de_ixT (ds := [sxD p.1, .int (c : Int)]) (i := 0) (d := sxD p.1) (de_var 12) de_int rfl) (da_cons (de_ixT (ds := [sxD p.1, .int (c : Int)]) (i := 1) (d := .int (c : Int)) (de_var 12) de_int rfl) (da_cons (de_var 9) da_nil))))) ⟨n, wi, he, p.1, c, lt, TT, plt c hc, hlt2, rfl, rfl⟩ (by simp [nls, D.nl, nls_ints]) (nl_sx _ _)).is ?_
          show _ = D.tup [sxD (nextS p.1 lt), .int ((nextC wi he p.1 ((c : Int)).toNat lt : Nat) : Int)]
          rw [Int.toNat_natCast]
        by_cases hz : mv wi he p lt ∈ Z ++ R
        · refine db_if (q := false) (dw_andF ((dt_ninN (k := 0) (kvs := kvZ (Z ++ R)) (ds := lL (mv wi he p lt)) (hu hr) (NZ _) (de_var 10) (de_var 4) rfl).is (by rw [kvZ_in _ qne, decide_eq_true hz]; rfl))).dt (fun h => by cases h) (fun _ => db_nil (db_nil ⟨W, MM.old hp hj (.inl hz), rfl, _, _, rfl⟩))
        have c1 : ((!(valN (kvZ (Z ++ R)) (nkey (.tup (lL (mv wi he p lt))))).isSome) = true) := by rw [kvZ_in _ qne, decide_eq_false hz]; rfl
        by_cases hw : mv wi he p lt ∈ W
        · refine db_if (q := false) (dw_andT ((dt_ninN (k := 0) (kvs := kvZ (Z ++ R)) (ds := lL (mv wi he p lt)) (hu hr) (NZ _) (de_var 10) (de_var 4) rfl).is c1) (dw_and1 (op := true) ((dt_ninD (x' := lD (mv wi he p lt)) (es := W.map lD) (hu5 hr) (de_var 10) (de_var 7) (.flat (lD_nl _)) (.cell (k := rest.length + 1) (lst _ _) (Ress.flat (nls_map _ lD_nl _))) (lD_pur _) (ring_pur W) (Nat.le_trans (lD_dep _) (by omega)) (ring_dep W)).is (by rw [any_l Wne, decide_eq_true hw]; rfl)))).dt (fun h => by cases h) (fun _ => db_nil (db_nil ⟨W, MM.old hp hj (.inr hw), rfl, _, _, rfl⟩))
        · refine db_if (q := true) (dw_andT ((dt_ninN (k := 0) (kvs := kvZ (Z ++ R)) (ds := lL (mv wi he p lt)) (hu hr) (NZ _) (de_var 10) (de_var 4) rfl).is c1) (dw_and1 (op := true) ((dt_ninD (x' := lD (mv wi he p lt)) (es := W.map lD) (hu5 hr) (de_var 10) (de_var 7) (.flat (lD_nl _)) (.cell (k := rest.length + 1) (lst _ _) (Ress.flat (nls_map _ lD_nl _))) (lD_pur _) (ring_pur W) (Nat.le_trans (lD_dep _) (by omega)) (ring_dep W)).is (by rw [any_l Wne, decide_eq_false hw]; rfl)))).dt (fun _ => ?_) (fun h => by cases h)
          refine db_expr (de_append (k := rest.length + 1) (ds := W.map lD) (d := lD (mv wi he p lt)) (de_var 7) (de_var 10) (lst _ _) (by rw [List.length_map]; omega) (hm1 := ⟨_, lst _ _⟩)) (db_nil (db_nil ⟨W ++ [mv wi he p lt], MM.new HR.all hs2 hp hj hz hw, ?_, _, _, rfl⟩))
          have := set_last' (.nd (ents w (kvZ (Z ++ R))) :: rest) (.lst (W.map lD)) (.lst (W.map lD ++ [lD (mv wi he p lt)]))
          rw [List.map_append]
          exact this
      · obtain ⟨W, MM, rfl, y9, y10, rfl⟩ := hJ
        exact db_nil ⟨W, MM.turn, rfl, _, _, _, rfl⟩
    · obtain ⟨W, MM, rfl, x8, x9, x10, rfl⟩ := hJ
      rw [List.length_map] at MM
      refine db_set 5 (de_var 7) ?_ nd
      refine db_set 6 (d := .int ((kk + 1 : Nat) : Int)) ((de_add (de_var 6) de_int).is rfl) ?_ nd
      exact db_nil ⟨Dk - (kk + 1), by omega, kk + 1, W, Z ++ R, rest.length, rest ++ [.lst (W.map lD)], _, _, _, _, rfl, by omega, HR.next MM, rfl, last_get _ _, rfl⟩
  · have hg : g ∈ R := by simpa using hq
    have := ((HR.all g).mp hg).uniq hD
    subst this
    exact db_ret (de_var 6) (fit rfl)
/-! see_walk -/
def sg_see_walk (ad : Ads) : List D → Out → Prop := fun ds o => ∃ ls : List Nat, ds = [.str (S ls)] ∧ ls.length ≤ 1000 ∧ ((okW ls = true ∧ o = .ok .non) ∨ (okW ls = false ∧ o = .er ad.NoWalk))
theorem ok_see_walk {k : Nat} {f : Addr} {fd : FuncData} (F : Fun K "see_walk" "see_walk" s_see_walk f fd) (T : Txt K mg ad)  : FnOk P w K mg base (L2.CX P w) (k + 1) f fd ["walk"] (spX K (sg_see_walk ad)) := by
  refine okX F sc_see_walk (fun ds o ⟨ls, e, _⟩ => by rw [e]; rfl) fun cdv A outer s H E ds o hr hs => ?_
  obtain ⟨ls, rfl, hl, hs⟩ := hs
  have nd := sc_see_walk.nd
  refine db_if (dt_gt (de_lenC (ls := ls) (by omega) T.len bt_len (da_cons (de_var 0) da_nil)) de_int) (fun hq => ?_) (fun hq => ?_)
  · rcases hs with ⟨g, _⟩ | ⟨_, rfl⟩
    · have := (okW_iff.mp g).1
      simp at hq; omega
    · exact db_raise T.ex_NoWalk rfl
  refine db_nil ?_
  have h60 : ls.length ≤ 60 := by simp at hq; omega
  obtain ⟨ul, hul, rul⟩ := T.c_LETTERS
  refine db_forS 1 (ls := ls) (de_var 0) nd (fun i M env => (∀ l ∈ ls.take i, l ∈ lets) ∧ ∃ u, env = [some (.str (S ls)), u]) ⟨by simp, none, rfl⟩ (fun i l M env hi hJ => ?_) (fun M env hJ => ?_) (passes_of rfl)
  · obtain ⟨hp, u, rfl⟩ := hJ
    refine db_if (dt_ninC (xs := lets) (de_var 1) (de_globS rfl hul rul) c_lets) (fun hq => ?_) (fun hq => ?_)
    · rcases hs with ⟨g, _⟩ | ⟨_, rfl⟩
      · have := (okW_iff.mp g).2 l (List.mem_of_getElem? hi)
        simp [this] at hq
      · exact db_raise T.ex_NoWalk rfl
    refine db_nil (db_nil ⟨fun z hz => ?_, _, rfl⟩)
    rw [take_snoc hi] at hz
    rcases List.mem_append.mp hz with hz | hz
    · exact hp z hz
    · rw [List.mem_singleton.mp hz]; simpa using hq
  · obtain ⟨hp, u, rfl⟩ := hJ
    rw [List.take_length] at hp
    rcases hs with ⟨_, rfl⟩ | ⟨g, _⟩
    · exact db_nil rfl
    · rw [okW_of h60 hp] at g; cases g
/-! next_sex -/
def sg_next_sex (_ : Ads) : List D → Out → Prop := fun ds o => ∃ (s : Bool) (l : Nat), ds = [sxD s, .str (S [l])] ∧ o = .ok (sxD (nextS s l))
theorem ok_next_sex {k : Nat} {f : Addr} {fd : FuncData} (F : Fun K "next_sex" "next_sex" s_next_sex f fd) (T : Txt K mg ad)  : FnOk P w K mg base (L2.CX P w) (k + 1) f fd ["sex", "letter"] (spX K (sg_next_sex ad)) := by
  refine okX F sc_next_sex (fun ds o ⟨s, l, e, _⟩ => by rw [e]; rfl) fun cdv A outer st H E ds o hr hs => ?_
  obtain ⟨s, l, rfl, rfl⟩ := hs
  refine db_if (dt_inC (de_var 1) de_str c_fsb) (fun hq => ?_) (fun hq => ?_)
  · exact db_ret (de_str.is (by unfold nextS; rw [if_pos (of_decide_eq_true hq)]; rfl)) (fit rfl)
  refine db_nil ?_
  have h1 := of_decide_eq_false hq
  refine db_if (dt_inC (de_var 1) de_str c_mdz) (fun hq => ?_) (fun hq => ?_)
  · exact db_ret (de_str.is (by unfold nextS; rw [if_neg h1, if_pos (of_decide_eq_true hq)]; rfl)) (fit rfl)
  refine db_nil ?_
  have h2 := of_decide_eq_false hq
  refine db_if ((dt_eqS (de_var 0) de_str).is (sx_man s)) (fun hq => ?_) (fun hq => ?_)
  · exact db_ret (de_str.is (by unfold nextS; rw [if_neg h1, if_neg h2, hq]; rfl)) (fit rfl)
  refine db_nil ?_
  exact db_ret (de_str.is (by unfold nextS; rw [if_neg h1, if_neg h2, hq]; rfl)) (fit rfl)
/-! end_sex -/
def sg_end_sex (ad : Ads) : List D → Out → Prop := fun ds o => ∃ (s : Bool) (ls : List Nat), ds = [sxD s, .str (S ls)] ∧ ls.length ≤ 1000 ∧ ((okW ls = true ∧ o = .ok (sxD (sexAt s ls))) ∨ (okW ls = false ∧ o = .er ad.NoWalk))
theorem ok_end_sex {k : Nat} {f : Addr} {fd : FuncData} (F : Fun K "end_sex" "end_sex" s_end_sex f fd) (T : Txt K mg ad) (d_see_walk : Dfn P w K mg base "see_walk" k ["walk"] (spX K (sg_see_walk ad))) (d_next_sex : Dfn P w K mg base "next_sex" k ["sex", "letter"] (spX K (sg_next_sex ad))) : FnOk P w K mg base (L2.CX P w) (k + 1) f fd ["sex", "walk"] (spX K (sg_end_sex ad)) := by
  refine okX F sc_end_sex (fun ds o ⟨s, ls, e, _⟩ => by rw [e]; rfl) fun cdv A outer st H E ds o hr hs => ?_
  obtain ⟨s, ls, rfl, hl, hs⟩ := hs
  have nd := sc_end_sex.nd
  rcases hs with ⟨g, rfl⟩ | ⟨g, rfl⟩
  · refine db_expr (de_call d_see_walk hr (da_cons (de_var 1) da_nil) ⟨ls, rfl, hl, .inl ⟨g, rfl⟩⟩) ?_
    refine db_forS 2 (ls := ls) (de_var 1) nd (fun i M env => ∃ u, env = [some (sxD (sexAt s (ls.take i))), some (.str (S ls)), u]) ⟨none, rfl⟩ (fun i l M env hi hJ => ?_) (fun M env hJ => ?_) (passes_of rfl)
    · obtain ⟨u, rfl⟩ := hJ
      refine db_set 0 (de_call d_next_sex hr (da_cons (de_var 0) (da_cons (de_var 2) da_nil)) ⟨_, l, rfl, rfl⟩) ?_ nd
      refine db_nil ⟨some (.str (S [l])), ?_⟩
      rw [take_snoc hi, sexAt_app]
      rfl
    · obtain ⟨u, rfl⟩ := hJ
      rw [List.take_length]
      exact db_ret (de_var 0) (fit rfl)
  · exact db_exprX (dx_call d_see_walk hr (da_cons (de_var 1) da_nil) (Ress.flat rfl) ⟨ls, rfl, hl, .inr ⟨g, rfl⟩⟩) rfl
/-! Table.see_class -/
def sg_Table_see_class (ad : Ads) : List D → Out → Prop := fun ds o => ∃ (n : Nat) (w h : List Int) (c : Int), Tab n w h ∧ ds = [tabD ad.Table w h, .int c] ∧ ((0 ≤ c ∧ c < n ∧ o = .ok .non) ∨ (¬ (0 ≤ c ∧ c < n) ∧ o = .er ad.NoClass))
def sgGet (ad : Ads) (sel : List Int → List Int → List Int) : List D → Out → Prop := fun ds o => ∃ (n : Nat) (w h : List Int) (c : Int), Tab n w h ∧ ds = [tabD ad.Table w h, .int c] ∧
  ((∃ (i : Nat) (v : Int), c = i ∧ i < n ∧ (sel w h)[i]? = some v ∧ o = .ok (.int v)) ∨ (¬ (0 ≤ c ∧ c < n) ∧ o = .er ad.NoClass))
theorem ok_Table_see_class {k : Nat} {f : Addr} {fd : FuncData} (F : Fun K "see_class" "Table.see_class" s_Table_see_class f fd) (T : Txt K mg ad)  : FnOk P w K mg base (L2.CX P w) (k + 1) f fd ["self", "c"] (spX K (sg_Table_see_class ad)) := by
  refine okX F sc_Table_see_class (fun ds o ⟨n, w, h, c, _, e, _⟩ => by rw [e]; rfl) fun cdv A outer s H E ds o hr hs => ?_
  obtain ⟨n, w, h, c, TT, rfl, hs⟩ := hs
  have hl := TT.w.len
  refine db_if (dw_or (dt_lt (de_var 1) de_int) (fun _ => (dw_or1 (dt_ge (de_var 1) (de_lenI .d T.len bt_len (da_cons (de_fld (de_var 0) T.cl_Table T.na_Table_brides rfl) da_nil)))))).dt (fun hq => ?_) (fun hq => ?_)
  · rcases hs with ⟨h1, h2, _⟩ | ⟨_, rfl⟩
    · simp at hq; omega
    · exact db_raise T.ex_NoClass rfl
  refine db_nil ?_
  rcases hs with ⟨_, _, rfl⟩ | ⟨h1, _⟩
  · exact db_nil rfl
  · simp at hq; omega
/-! Table.wife_of -/
abbrev sg_Table_wife_of (ad : Ads) : List D → Out → Prop := sgGet ad fun w h => w
theorem ok_Table_wife_of {k : Nat} {f : Addr} {fd : FuncData} (F : Fun K "wife_of" "Table.wife_of" s_Table_wife_of f fd) (T : Txt K mg ad) (m_see_class : Mtd P w K mg base ad.Table "see_class" k ["self", "c"] (spX K (sg_Table_see_class ad))) : FnOk P w K mg base (L2.CX P w) (k + 1) f fd ["self", "c"] (spX K (sg_Table_wife_of ad)) := by
  refine okX F sc_Table_wife_of (fun ds o ⟨n, w, h, c, _, e, _⟩ => by rw [e]; rfl) fun cdv A outer s H E ds o hr hs => ?_
  obtain ⟨n, w, h, c, TT, rfl, hs⟩ := hs
  rcases hs with ⟨i, v, rfl, hi, hv, rfl⟩ | ⟨hc, rfl⟩
  · refine db_expr (de_meth m_see_class T.cl_Table hr (de_var 0) (.d rfl) (da_cons (de_var 1) da_nil) ⟨n, w, h, _, TT, rfl, .inl ⟨by omega, by omega, rfl⟩⟩ (tab_nls1 _ _ _ _) rfl) ?_
    exact db_ret (de_ixL (de_fld (de_var 0) T.cl_Table T.na_Table_brides rfl) (de_var 1) .d (atI_ints hv)) (fit rfl)
  · exact db_exprX (dx_meth m_see_class T.cl_Table hr (de_var 0) (.d rfl) (da_cons (de_var 1) da_nil) (Ress.flat (tab_nls1 _ _ _ _)) ⟨n, w, h, c, TT, rfl, .inr ⟨hc, rfl⟩⟩) rfl
/-! Table.husband_of -/
abbrev sg_Table_husband_of (ad : Ads) : List D → Out → Prop := sgGet ad fun w h => (backOf w)
theorem ok_Table_husband_of {k : Nat} {f : Addr} {fd : FuncData} (F : Fun K "husband_of" "Table.husband_of" s_Table_husband_of f fd) (T : Txt K mg ad) (m_see_class : Mtd P w K mg base ad.Table "see_class" k ["self", "c"] (spX K (sg_Table_see_class ad))) : FnOk P w K mg base (L2.CX P w) (k + 1) f fd ["self", "c"] (spX K (sg_Table_husband_of ad)) := by
  refine okX F sc_Table_husband_of (fun ds o ⟨n, w, h, c, _, e, _⟩ => by rw [e]; rfl) fun cdv A outer s H E ds o hr hs => ?_
  obtain ⟨n, w, h, c, TT, rfl, hs⟩ := hs
  rcases hs with ⟨i, v, rfl, hi, hv, rfl⟩ | ⟨hc, rfl⟩
  · refine db_expr (de_meth m_see_class T.cl_Table hr (de_var 0) (.d rfl) (da_cons (de_var 1) da_nil) ⟨n, w, h, _, TT, rfl, .inl ⟨by omega, by omega, rfl⟩⟩ (tab_nls1 _ _ _ _) rfl) ?_
    exact db_ret (de_ixL (de_fld (de_var 0) T.cl_Table T.na_Table_grooms rfl) (de_var 1) .d (atI_ints hv)) (fit rfl)
  · exact db_exprX (dx_meth m_see_class T.cl_Table hr (de_var 0) (.d rfl) (da_cons (de_var 1) da_nil) (Ress.flat (tab_nls1 _ _ _ _)) ⟨n, w, h, c, TT, rfl, .inr ⟨hc, rfl⟩⟩) rfl
/-! Table.heir_of -/
abbrev sg_Table_heir_of (ad : Ads) : List D → Out → Prop := sgGet ad fun w h => h
theorem ok_Table_heir_of {k : Nat} {f : Addr} {fd : FuncData} (F : Fun K "heir_of" "Table.heir_of" s_Table_heir_of f fd) (T : Txt K mg ad) (m_see_class : Mtd P w K mg base ad.Table "see_class" k ["self", "c"] (spX K (sg_Table_see_class ad))) : FnOk P w K mg base (L2.CX P w) (k + 1) f fd ["self", "c"] (spX K (sg_Table_heir_of ad)) := by
  refine okX F sc_Table_heir_of (fun ds o ⟨n, w, h, c, _, e, _⟩ => by rw [e]; rfl) fun cdv A outer s H E ds o hr hs => ?_
  obtain ⟨n, w, h, c, TT, rfl, hs⟩ := hs
  rcases hs with ⟨i, v, rfl, hi, hv, rfl⟩ | ⟨hc, rfl⟩
  · refine db_expr (de_meth m_see_class T.cl_Table hr (de_var 0) (.d rfl) (da_cons (de_var 1) da_nil) ⟨n, w, h, _, TT, rfl, .inl ⟨by omega, by omega, rfl⟩⟩ (tab_nls1 _ _ _ _) rfl) ?_
    exact db_ret (de_ixL (de_fld (de_var 0) T.cl_Table T.na_Table_lines rfl) (de_var 1) .d (atI_ints hv)) (fit rfl)
  · exact db_exprX (dx_meth m_see_class T.cl_Table hr (de_var 0) (.d rfl) (da_cons (de_var 1) da_nil) (Ress.flat (tab_nls1 _ _ _ _)) ⟨n, w, h, c, TT, rfl, .inr ⟨hc, rfl⟩⟩) rfl
/-! Table.father_of -/
abbrev sg_Table_father_of (ad : Ads) : List D → Out → Prop := sgGet ad fun w h => (backOf h)
theorem ok_Table_father_of {k : Nat} {f : Addr} {fd : FuncData} (F : Fun K "father_of" "Table.father_of" s_Table_father_of f fd) (T : Txt K mg ad) (m_see_class : Mtd P w K mg base ad.Table "see_class" k ["self", "c"] (spX K (sg_Table_see_class ad))) : FnOk P w K mg base (L2.CX P w) (k + 1) f fd ["self", "c"] (spX K (sg_Table_father_of ad)) := by
  refine okX F sc_Table_father_of (fun ds o ⟨n, w, h, c, _, e, _⟩ => by rw [e]; rfl) fun cdv A outer s H E ds o hr hs => ?_
  obtain ⟨n, w, h, c, TT, rfl, hs⟩ := hs
  rcases hs with ⟨i, v, rfl, hi, hv, rfl⟩ | ⟨hc, rfl⟩
  · refine db_expr (de_meth m_see_class T.cl_Table hr (de_var 0) (.d rfl) (da_cons (de_var 1) da_nil) ⟨n, w, h, _, TT, rfl, .inl ⟨by omega, by omega, rfl⟩⟩ (tab_nls1 _ _ _ _) rfl) ?_
    exact db_ret (de_ixL (de_fld (de_var 0) T.cl_Table T.na_Table_elders rfl) (de_var 1) .d (atI_ints hv)) (fit rfl)
  · exact db_exprX (dx_meth m_see_class T.cl_Table hr (de_var 0) (.d rfl) (da_cons (de_var 1) da_nil) (Ress.flat (tab_nls1 _ _ _ _)) ⟨n, w, h, c, TT, rfl, .inr ⟨hc, rfl⟩⟩) rfl
/-! next_class -/
def sg_next_class (ad : Ads) : List D → Out → Prop := fun ds o => ∃ (n : Nat) (w h : List Int) (s : Bool) (c l : Nat), Tab n w h ∧ c < n ∧ ds = [tabD ad.Table w h, sxD s, .int (c : Int), .str (S [l])] ∧ o = .ok (.int ((nextC w h s c l : Nat) : Int))
theorem ok_next_class {k : Nat} {f : Addr} {fd : FuncData} (F : Fun K "next_class" "next_class" s_next_class f fd) (T : Txt K mg ad) (m_wife_of : Mtd P w K mg base ad.Table "wife_of" k ["self", "c"] (spX K (sg_Table_wife_of ad))) (m_husband_of : Mtd P w K mg base ad.Table "husband_of" k ["self", "c"] (spX K (sg_Table_husband_of ad))) (m_heir_of : Mtd P w K mg base ad.Table "heir_of" k ["self", "c"] (spX K (sg_Table_heir_of ad))) (m_father_of : Mtd P w K mg base ad.Table "father_of" k ["self", "c"] (spX K (sg_Table_father_of ad))) : FnOk P w K mg base (L2.CX P w) (k + 1) f fd ["table", "sex", "c", "letter"] (spX K (sg_next_class ad)) := by
  refine okX F sc_next_class (fun ds o ⟨n, w, h, s, c, l, _, _, e, _⟩ => by rw [e]; rfl) fun cdv A outer st H E ds o hr hs => ?_
  obtain ⟨n, w, h, s, c, l, TT, hc, rfl, rfl⟩ := hs
  have tn : ∀ c : Int, nls [tabD ad.Table w h, .int c] = true := tab_nls1 _ _ _
  have wi : ∀ {c : Nat}, c < n → sg_Table_wife_of ad [tabD ad.Table w h, .int c] (.ok (.int ((ap w c : Nat) : Int))) := fun {c} hc => ⟨n, w, h, _, TT, rfl, .inl ⟨c, _, rfl, hc, (TT.w.ap hc).1, rfl⟩⟩
  have hu : ∀ {c : Nat}, c < n → sg_Table_husband_of ad [tabD ad.Table w h, .int c] (.ok (.int ((ap (backOf w) c : Nat) : Int))) := fun {c} hc => ⟨n, w, h, _, TT, rfl, .inl ⟨c, _, rfl, hc, ((backOf_trn TT.w).ap hc).1, rfl⟩⟩
  have he : ∀ {c : Nat}, c < n → sg_Table_heir_of ad [tabD ad.Table w h, .int c] (.ok (.int ((ap h c : Nat) : Int))) := fun {c} hc => ⟨n, w, h, _, TT, rfl, .inl ⟨c, _, rfl, hc, (TT.h.ap hc).1, rfl⟩⟩
  have fa : ∀ {c : Nat}, c < n → sg_Table_father_of ad [tabD ad.Table w h, .int c] (.ok (.int ((ap (backOf h) c : Nat) : Int))) := fun {c} hc => ⟨n, w, h, _, TT, rfl, .inl ⟨c, _, rfl, hc, ((backOf_trn TT.h).ap hc).1, rfl⟩⟩
  refine db_if (dt_eqC (x := 102) (de_var 3) de_str s_f) (fun hq => ?_) (fun hq => ?_)
  · have e : nextC w h s c l = ap (backOf h) c := by unfold nextC; rw [if_pos (of_decide_eq_true hq)]
    rw [e]
    exact db_ret (de_meth m_father_of T.cl_Table hr (de_var 0) (.d rfl) (da_cons (de_var 2) da_nil) (fa hc) (tn _) rfl) (fit rfl)
  refine db_nil ?_
  have h1 := of_decide_eq_false hq
  refine db_if (dt_eqC (x := 109) (de_var 3) de_str s_m) (fun hq => ?_) (fun hq => ?_)
  · have e : nextC w h s c l = ap w (ap (backOf h) c) := by unfold nextC; rw [if_neg h1, if_pos (of_decide_eq_true hq)]
    rw [e]
    exact db_ret (de_meth m_wife_of T.cl_Table hr (de_var 0) (.d rfl) (da_cons (de_meth m_father_of T.cl_Table hr (de_var 0) (.d rfl) (da_cons (de_var 2) da_nil) (fa hc) (tn _) rfl) da_nil) (wi ((backOf_trn TT.h).ap hc).2) (tn _) rfl) (fit rfl)
  refine db_nil ?_
  have h2 := of_decide_eq_false hq
  refine db_if (dw_and (dt_eqC (x := 112) (de_var 3) de_str s_p) (fun _ => (dw_and1 (op := true) ((dt_eqS (de_var 1) de_str).is (sx_man s))))).dt (fun hq => ?_) (fun hq => ?_)
  · have e : nextC w h s c l = ap w c := by unfold nextC; rw [if_neg h1, if_neg h2, if_pos (by simpa using hq)]
    rw [e]
    exact db_ret (de_meth m_wife_of T.cl_Table hr (de_var 0) (.d rfl) (da_cons (de_var 2) da_nil) (wi hc) (tn _) rfl) (fit rfl)
  refine db_nil ?_
  have h3 : ¬ (l = 112 ∧ s = true) := by intro z; simp [z.1, z.2] at hq
  refine db_if (dt_eqC (x := 112) (de_var 3) de_str s_p) (fun hq => ?_) (fun hq => ?_)
  · have e : nextC w h s c l = ap (backOf w) c := by unfold nextC; rw [if_neg h1, if_neg h2, if_neg h3, if_pos (of_decide_eq_true hq)]
    rw [e]
    exact db_ret (de_meth m_husband_of T.cl_Table hr (de_var 0) (.d rfl) (da_cons (de_var 2) da_nil) (hu hc) (tn _) rfl) (fit rfl)
  refine db_nil ?_
  have h4 := of_decide_eq_false hq
  refine db_if (dw_and (dt_inC (de_var 3) de_str c_sd) (fun _ => (dw_and1 (op := true) ((dt_eqS (de_var 1) de_str).is (sx_man s))))).dt (fun hq => ?_) (fun hq => ?_)
  · have hq : l ∈ [115, 100] ∧ s = true := by rw [Bool.and_eq_true] at hq; exact ⟨of_decide_eq_true hq.1, hq.2⟩
    have e : nextC w h s c l = ap h c := by unfold nextC; rw [if_neg h1, if_neg h2, if_neg h3, if_neg h4, if_pos hq]
    rw [e]
    exact db_ret (de_meth m_heir_of T.cl_Table hr (de_var 0) (.d rfl) (da_cons (de_var 2) da_nil) (he hc) (tn _) rfl) (fit rfl)
  refine db_nil ?_
  have h5 : ¬ (l ∈ [115, 100] ∧ s = true) := by intro z; rw [z.2, decide_eq_true z.1] at hq; cases hq
  refine db_if (dt_inC (de_var 3) de_str c_sd) (fun hq => ?_) (fun hq => ?_)
  · have e : nextC w h s c l = ap h (ap (backOf w) c) := by unfold nextC; rw [if_neg h1, if_neg h2, if_neg h3, if_neg h4, if_neg h5, if_pos (of_decide_eq_true hq)]
    rw [e]
    exact db_ret (de_meth m_heir_of T.cl_Table hr (de_var 0) (.d rfl) (da_cons (de_meth m_husband_of T.cl_Table hr (de_var 0) (.d rfl) (da_cons (de_var 2) da_nil) (hu hc) (tn _) rfl) da_nil) (he ((backOf_trn TT.w).ap hc).2) (tn _) rfl) (fit rfl)
  refine db_nil ?_
  have e : nextC w h s c l = c := by unfold nextC; rw [if_neg h1, if_neg h2, if_neg h3, if_neg h4, if_neg h5, if_neg (of_decide_eq_false hq)]
  rw [e]
  exact db_ret (de_var 2) (fit rfl)
/-! walked -/
def sg_walked (ad : Ads) : List D → Out → Prop := fun ds o => ∃ (n : Nat) (w h : List Int) (s : Bool) (c : Int) (ls : List Nat), Tab n w h ∧ ls.length ≤ 1000 ∧ ds = [tabD ad.Table w h, sxD s, .int c, .str (S ls)] ∧
  ((okW ls = true ∧ ∃ i : Nat, c = i ∧ i < n ∧ o = .ok (.tup [sxD (led w h ls (s, i)).1, .int (((led w h ls (s, i)).2 : Nat) : Int)])) ∨
   (okW ls = true ∧ ¬ (0 ≤ c ∧ c < n) ∧ o = .er ad.NoClass) ∨ (okW ls = false ∧ o = .er ad.NoWalk))
theorem ok_walked {k : Nat} {f : Addr} {fd : FuncData} (F : Fun K "walked" "walked" s_walked f fd) (T : Txt K mg ad) (d_see_walk : Dfn P w K mg base "see_walk" k ["walk"] (spX K (sg_see_walk ad))) (m_see_class : Mtd P w K mg base ad.Table "see_class" k ["self", "c"] (spX K (sg_Table_see_class ad))) (d_next_class : Dfn P w K mg base "next_class" k ["table", "sex", "c", "letter"] (spX K (sg_next_class ad))) (d_next_sex : Dfn P w K mg base "next_sex" k ["sex", "letter"] (spX K (sg_next_sex ad))) : FnOk P w K mg base (L2.CX P w) (k + 1) f fd ["table", "sex", "c", "walk"] (spX K (sg_walked ad)) := by
  refine okX F sc_walked (fun ds o ⟨n, w, h, s, c, ls, _, _, e, _⟩ => by rw [e]; rfl) fun cdv A outer st H E ds o hr hs => ?_
  obtain ⟨n, w, h, s, c, ls, TT, hl, rfl, hs⟩ := hs
  have nd := sc_walked.nd
  rcases hs with ⟨g, i, rfl, hi, rfl⟩ | ⟨g, hc, rfl⟩ | ⟨g, rfl⟩
  · refine db_expr (de_call d_see_walk hr (da_cons (de_var 3) da_nil) ⟨ls, rfl, hl, .inl ⟨g, rfl⟩⟩) ?_
    refine db_expr (de_meth m_see_class T.cl_Table hr (de_var 0) (.d rfl) (da_cons (de_var 2) da_nil) ⟨n, w, h, _, TT, rfl, .inl ⟨by omega, by omega, rfl⟩⟩ (tab_nls1 _ _ _ _) rfl) ?_
    refine db_forS 4 (ls := ls) (de_var 3) nd (fun j M env => ∃ u, env = [some (tabD ad.Table w h), some (sxD (led w h (ls.take j) (s, i)).1), some (.int (((led w h (ls.take j) (s, i)).2 : Nat) : Int)), some (.str (S ls)), u]) ⟨none, rfl⟩ (fun j l M env hj hJ => ?_) (fun M env hJ => ?_) (passes_of rfl)
    · obtain ⟨u, rfl⟩ := hJ
      have hlt := TT.led (ls.take j) (s := s) hi
      have e := led_snoc w h (ls.take j) l (s, i)
      refine db_set 2 (de_call d_next_class hr (da_cons (de_var 0) (da_cons (de_var 1) (da_cons (de_var 2) (da_cons (de_var 4) da_nil)))) ⟨n, w, h, _, _, l, TT, hlt, rfl, rfl⟩ (by simp [nls, tabD_nl, D.nl])) ?_ nd
      refine db_set 1 (de_call d_next_sex hr (da_cons (de_var 1) (da_cons (de_var 4) da_nil)) ⟨_, l, rfl, rfl⟩) ?_ nd
      refine db_nil ⟨some (.str (S [l])), ?_⟩
      rw [take_snoc hj, e]
      rfl
    · obtain ⟨u, rfl⟩ := hJ
      rw [List.take_length]
      exact db_ret (de_tup (da_cons (de_var 1) (da_cons (de_var 2) da_nil))) (fit (nl_sx _ _))
  · refine db_expr (de_call d_see_walk hr (da_cons (de_var 3) da_nil) ⟨ls, rfl, hl, .inl ⟨g, rfl⟩⟩) ?_
    exact db_exprX (dx_meth m_see_class T.cl_Table hr (de_var 0) (.d rfl) (da_cons (de_var 2) da_nil) (Ress.flat (tab_nls1 _ _ _ _)) ⟨n, w, h, _, TT, rfl, .inr ⟨hc, rfl⟩⟩) rfl
  · exact db_exprX (dx_call d_see_walk hr (da_cons (de_var 3) da_nil) (Ress.flat rfl) ⟨ls, rfl, hl, .inr ⟨g, rfl⟩⟩) rfl
/-! Table.size -/
def sg_Table_size (ad : Ads) : List D → Out → Prop := fun ds o => ∃ (n : Nat) (w h : List Int), Tab n w h ∧ ds = [tabD ad.Table w h] ∧ o = .ok (.int n)
theorem ok_Table_size {k : Nat} {f : Addr} {fd : FuncData} (F : Fun K "size" "Table.size" s_Table_size f fd) (T : Txt K mg ad)  : FnOk P w K mg base (L2.CX P w) (k + 1) f fd ["self"] (spX K (sg_Table_size ad)) := by
  refine okX F sc_Table_size (fun ds o ⟨n, w, h, _, e, _⟩ => by rw [e]; rfl) fun cdv A outer s H E ds o hr hs => ?_
  obtain ⟨n, w, h, TT, rfl, rfl⟩ := hs
  exact db_ret ((de_lenI .d T.len bt_len (da_cons (de_fld (de_var 0) T.cl_Table T.na_Table_brides rfl) da_nil)).is (by rw [TT.w.len])) (fit rfl)
/-! turn_of -/
def sg_turn_of (ad : Ads) : List D → Out → Prop := fun ds o => ∃ (n : Nat) (w h : List Int) (s : Bool) (ls : List Nat), Tab n w h ∧ ls.length ≤ 1000 ∧ ds = [tabD ad.Table w h, sxD s, .str (S ls)] ∧ okW ls = true ∧ o = .own (.loc 0) [.lst ((turnW w h s ls).map .int)]
theorem ok_turn_of {k : Nat} {f : Addr} {fd : FuncData} (F : Fun K "turn_of" "turn_of" s_turn_of f fd) (T : Txt K mg ad) (d_walked : Dfn P w K mg base "walked" k ["table", "sex", "c", "walk"] (spX K (sg_walked ad))) (m_size : Mtd P w K mg base ad.Table "size" k ["self"] (spX K (sg_Table_size ad))) : FnOk P w K mg base (L2.CX P w) (k + 1) f fd ["table", "sex", "walk"] (spX K (sg_turn_of ad)) := by
  refine okX F sc_turn_of (fun ds o ⟨n, w, h, s, ls, _, _, e, _⟩ => by rw [e]; rfl) fun cdv A outer st H E ds o hr hs => ?_
  obtain ⟨n, w, h, s, ls, TT, hl, rfl, g, rfl⟩ := hs
  have nd := sc_turn_of.nd
  have lw := TT.w.len
  have h8 := TT.eight
  refine db_ret ((df_lc (own := [("c", 3)]) 3 (fun _ => true) (fun d => match d with | .int c => .int (((led w h ls (s, c.toNat)).2 : Nat) : Int) | _ => .non) (di_rng1 (da_cons (de_meth0 m_size T.cl_Table hr (de_var 0) (.d rfl) ⟨n, w, h, TT, rfl, rfl⟩ (tabD_nl _ _ _) rfl) da_nil) T.range (by omega)) trivial (blkOk_by rfl) nd (by simp [rngD_length]; omega) (fun s H Cc cl fp d hd => dts_nil) (fun _ H Cc cl fp d hd _ => ?_)).is (es := (turnW w h s ls).map .int) ?_).own fitO
  · obtain ⟨i, hi⟩ := List.mem_iff_getElem?.mp hd
    obtain ⟨hin, rfl⟩ := rngD_at hi
    rw [Int.zero_add]
    exact de_ixT (i := 1) (de_call d_walked hr (da_cons (de_var 0) (da_cons (de_var 1) (da_cons (de_var 3) (da_cons (de_var 2) da_nil)))) ⟨n, w, h, s, (i : Nat), ls, TT, hl, rfl, .inl ⟨g, i, rfl, hin, rfl⟩⟩ (by simp [nls, tabD_nl, D.nl]) (nl_sx _ _)) de_int rfl
  · rw [flt_all]
    simp [rngD, turnW, lw, Function.comp_def]
/-! shortest -/
def sg_shortest (ad : Ads) : List D → Out → Prop := fun ds o => ∃ (n : Nat) (wi he : List Int) (s : Bool) (ls : List Nat), Tab n wi he ∧ ls.length ≤ 1000 ∧ ds = [tabD ad.Table wi he, sxD s, .str (S ls)] ∧
  ((okW ls = false ∧ o = .er ad.NoWalk) ∨ (okW ls = true ∧ 4 < n ∧ o = .er ad.TooMany) ∨ (okW ls = true ∧ n ≤ 4 ∧ o = .ok (.str (S (shortW wi he n s ls)))))
theorem ok_shortest {k : Nat} {f : Addr} {fd : FuncData} (F : Fun K "shortest" "shortest" s_shortest f fd) (T : Txt K mg ad) (d_end_sex : Dfn P w K mg base "end_sex" k ["sex", "walk"] (spX K (sg_end_sex ad))) (d_turn_of : Dfn P w K mg base "turn_of" k ["table", "sex", "walk"] (spX K (sg_turn_of ad))) (m_size : Mtd P w K mg base ad.Table "size" k ["self"] (spX K (sg_Table_size ad))) (d_next_class : Dfn P w K mg base "next_class" k ["table", "sex", "c", "letter"] (spX K (sg_next_class ad))) (d_next_sex : Dfn P w K mg base "next_sex" k ["sex", "letter"] (spX K (sg_next_sex ad))) : FnOk P w K mg base (L2.CX P w) (k + 1) f fd ["table", "sex", "walk"] (spX K (sg_shortest ad)) := by
  refine okX F sc_shortest (fun ds o ⟨_, _, _, _, _, _, _, e, _⟩ => by rw [e]; rfl) fun cdv A outer st H E ds o hr hs => ?_
  obtain ⟨n, wi, he, s, ls, TT, hll, rfl, hs⟩ := hs
  have nd := sc_shortest.nd
  have h8 := TT.eight
  have hu : ∀ {A : Around}, Room k A → A.units + 20 < cLine := fun h => by have := h.un; omega
  have n2 : nls [sxD s, D.str (S ls)] = true := rfl
  have n3 : nls [tabD ad.Table wi he, sxD s, .str (S ls)] = true := by simp [nls, tabD_nl, D.nl]
  cases hok : okW ls with
  | false =>
    have ho : o = .er ad.NoWalk := by
      rcases hs with ⟨_, e⟩ | ⟨e, _⟩ | ⟨e, _⟩
      · exact e
      · rw [hok] at e; cases e
      · rw [hok] at e; cases e
    rw [ho]
    exact db_setX 3 (dx_tup1 (dx_call d_end_sex hr (da_cons (de_var 1) (da_cons (de_var 2) da_nil)) (Ress.flat n2) ⟨s, ls, rfl, hll, .inr ⟨hok, rfl⟩⟩)) rfl nd
  | true =>
  have hokl := (okW_iff.mp hok).2
  refine db_set 3 (d := pD (runS wi he (s, List.range n) ls)) (M1 := [.lst ((turnW wi he s ls).map .int)]) ((de_tup (da_cons (de_call d_end_sex hr (da_cons (de_var 1) (da_cons (de_var 2) da_nil)) ⟨s, ls, rfl, hll, .inl ⟨hok, rfl⟩⟩) (da_cons (de_tuple (ds := (turnW wi he s ls).map .int) (.o rfl) T.tuple (by decide +kernel) (da_cons (de_callL d_turn_of hr (da_cons (de_var 0) (da_cons (de_var 1) (da_cons (de_var 2) da_nil))) ⟨n, wi, he, s, ls, TT, hll, rfl, hok, rfl⟩ n3) da_nil)) da_nil))).is (pD_run TT s ls)) ?_ nd
  generalize hg0 : runS wi he (s, List.range n) ls = g
  by_cases h4 : n ≤ 4
  case neg =>
    have ho : o = .er ad.TooMany := by
      rcases hs with ⟨e, _⟩ | ⟨_, _, e⟩ | ⟨_, e, _⟩
      · rw [hok] at e; cases e
      · exact e
      · omega
    rw [ho]
    refine db_if (q := true) ((dt_gt (de_meth0 m_size T.cl_Table hr (de_var 0) (.d rfl) ⟨n, wi, he, TT, rfl, rfl⟩ (tabD_nl _ _ _) rfl) de_int).is (decide_eq_true (by omega))) (fun _ => ?_) (fun h => by cases h)
    exact db_raise T.ex_TooMany rfl
  have ho : o = .ok (.str (S (shortW wi he n s ls))) := by
    rcases hs with ⟨e, _⟩ | ⟨_, e, _⟩ | ⟨_, _, e⟩
    · rw [hok] at e; cases e
    · omega
    · exact e
  rw [ho]
  refine db_if (q := false) ((dt_gt (de_meth0 m_size T.cl_Table hr (de_var 0) (.d rfl) ⟨n, wi, he, TT, rfl, rfl⟩ (tabD_nl _ _ _) rfl) de_int).is (decide_eq_false (by omega))) (fun h => by cases h) (fun _ => db_nil ?_)
  generalize hst0 : ((s, List.range n) : Stt) = st0
  refine db_set 4 (d := pD st0) ((de_tup (da_cons (de_var 1) (da_cons (de_tupRg (n := (n : Int)) (de_meth0 m_size T.cl_Table hr (de_var 0) (.d rfl) ⟨n, wi, he, TT, rfl, rfl⟩ (tabD_nl _ _ _) rfl) ⟨by omega, by omega⟩ T.tuple T.range) da_nil))).is (by rw [Int.toNat_natCast, rngD_nat, ← hst0]; rfl)) ?_ nd
  have N0 : NOk [] (pL st0) := ⟨⟨(fun kv h => by cases h), List.nodup_nil⟩, p_noks _, p_dep _, Nat.zero_le _⟩
  refine db_set 5 (de_ndisp (d := .str (S [])) (hu hr) N0 (de_var 4) (de_strC s_nil)) ?_ nd
  refine db_set 6 (df_lst (ds := [pD st0]) (da_cons (de_var 4) da_nil)).own ?_ nd
  refine db_set 7 de_int ?_ nd
  have hres : shortW wi he n s ls = bfsGo wi he g 600 [(st0, [])] 0 := by unfold shortW; rw [hg0, hst0]
  rw [hres]
  generalize hG : (turnW wi he s ls).map D.int = g0
  have runlt : ∀ ls, (runS wi he st0 ls).2.length = n ∧ ∀ c ∈ (runS wi he st0 ls).2, c < n := fun ls => by rw [← hst0]; exact run_lt TT
  have bound : ∀ {Ls : List Rd2} {a : Nat}, Bfs wi he st0 Ls a → Ls.length ≤ 512 := fun {Ls a} B => by
    subst hst0
    exact B.bound TT h4
  rw [hst0] at hg0
  refine db_while (fun m M env => ∃ (Ls : List Rd2) (a : Nat) (u4 u8 u9 u10 : Option D), bfsGo wi he g m Ls a = bfsGo wi he g 600 [(st0, [])] 0 ∧ m + a = 600 ∧ Bfs wi he st0 Ls a ∧ M = [.lst g0, .nd (ents w (kvR Ls)), .lst (Ls.map fun p => pD p.1)] ∧
    env = [some (tabD ad.Table wi he), some (sxD s), some (.str (S ls)), some (pD g), u4, some (.loc 1), some (.loc 2), some (.int (a : Int)), u8, u9, u10, none]) 600 ⟨[(st0, [])], 0, _, none, none, none, rfl, rfl, Bfs.start wi he st0, rfl, rfl⟩ (fun m M env hJ => ?_) (passes_of rfl)
  obtain ⟨Ls, a, u4, u8, u9, u10, eb, hma, B, rfl, rfl⟩ := hJ
  have hL := bound B
  have NG : ∀ {Ls : List Rd2} {a : Nat} (B : Bfs wi he st0 Ls a) (x : Stt), NOk (kvR Ls) (pL x) := fun {Ls a} B x => ⟨kvR_ok B.nd, p_noks _, p_dep _, by unfold kvR; rw [List.length_map]; have := bound B; omega⟩
  refine ⟨_, _, (dt_ninN (kvs := kvR Ls) (hu hr) (NG B g) (de_var 3) (de_var 5) rfl).is (by rw [kvR_in]), fun hq => ?_, fun hq => ?_⟩
  · have hg : g ∉ Ls.map (·.1) := by simpa using hq
    have hlt := B.more hokl hg0 hg
    have hp : Ls[a]? = some Ls[a] := List.getElem?_eq_getElem hlt
    generalize Ls[a] = p at hp
    match m, hma, eb with
    | 0, hma, _ => omega
    | m + 1, hma, eb =>
    unfold bfsGo at eb
    rw [if_neg hg, hp] at eb
    have eb : bfsGo wi he g m (expR wi he p Ls lets) (a + 1) = bfsGo wi he g 600 [(st0, [])] 0 := eb
    have hpD : (Ls.map fun p => pD p.1)[a]? = some (pD p.1) := by rw [List.getElem?_map, hp]; rfl
    refine db_set 4 (de_ixL (ds := Ls.map fun p => pD p.1) (de_var 6) (de_var 7) (.o rfl) (atI_nat hpD)) ?_ nd
    refine db_set 7 (d := .int ((a + 1 : Nat) : Int)) ((de_add (de_var 7) de_int).is rfl) ?_ nd
    obtain ⟨ul, hul, rul⟩ := T.c_LETTERS
    refine db_forS 8 (ls := lets) ((de_globS (by rfl) (by exact hul) rul).is (by rw [s_lets])) nd (fun i M env => M = [.lst g0, .nd (ents w (kvR (expR wi he p Ls (lets.take i)))), .lst ((expR wi he p Ls (lets.take i)).map fun p => pD p.1)] ∧ ∃ u8 u9 u10, env = [some (tabD ad.Table wi he), some (sxD s), some (.str (S ls)), some (pD g), some (pD p.1), some (.loc 1), some (.loc 2), some (.int ((a + 1 : Nat) : Int)), u8, u9, u10, none]) ⟨rfl, _, _, _, rfl⟩ (fun i l M env hi hJ => ?_) (fun M env hJ => ?_) (passes_of rfl)
    · obtain ⟨rfl, v8, v9, v10, rfl⟩ := hJ
      have hlm := List.mem_of_getElem? hi
      obtain ⟨B1, hp1, _, _⟩ := Bfs.exp (lets.take i) (fun x hx => List.mem_of_mem_take hx) B hp
      have eex : expR wi he p Ls (lets.take (i + 1)) = addR wi he p (expR wi he p Ls (lets.take i)) l := by
        unfold expR
        rw [take_snoc hi, List.foldl_append]
        rfl
      rw [eex]
      generalize expR wi he p Ls (lets.take i) = Ls1 at B1 hp1
      have hL1 := bound B1
      obtain ⟨okp, erp⟩ := B1.walk p (List.mem_of_getElem? hp1)
      have plt : ∀ c ∈ p.1.2, c < n := by
        have := (runlt p.2).2
        rwa [erp] at this
      have pll : p.1.2.length = n := by
        have := (runlt p.2).1
        rwa [erp] at this
      refine db_set 9 (d := .tup ((mv wi he p.1 l).2.map fun (c : Nat) => D.int (c : Int))) (de_tuple .d T.tuple (by decide +kernel) (da_cons ((df_lc (own := [("c", 11)]) 11 (fun _ => true) (fun d => match d with | .int c => .int ((nextC wi he p.1.1 c.toNat l : Nat) : Int) | _ => .non) (di_tup (ds := p.1.2.map fun (c : Nat) => D.int (c : Int)) (de_ixT (ds := pL p.1) (i := 1) (de_var 4) de_int rfl)) trivial (blkOk_by rfl) nd (by rw [List.length_map]; omega) (fun s H Cc cl fp d hd => dts_nil) (fun s H Cc cl fp d hd hc => ?_)).is (mv_map wi he p.1 l)).de da_nil)) ?_ nd
      · obtain ⟨c, hc, rfl⟩ := List.mem_map.mp hd
        exact (de_call d_next_class hr (da_cons (de_var 0) (da_cons (de_ixT (ds := pL p.1) (i := 0) (d := sxD p.1.1) (de_var 4) de_int rfl) (da_cons (de_var 11) (da_cons (de_var 8) da_nil)))) ⟨n, wi, he, p.1.1, c, l, TT, plt c hc, rfl, rfl⟩ (by simp [nls, tabD_nl, D.nl])).is (by show _ = D.int ((nextC wi he p.1.1 ((c : Int)).toNat l : Nat) : Int); rw [Int.toNat_natCast])
      refine db_set 10 (d := pD (mv wi he p.1 l)) ((de_tup (da_cons (de_call d_next_sex hr (da_cons (de_ixT (ds := pL p.1) (i := 0) (d := sxD p.1.1) (de_var 4) de_int rfl) (da_cons (de_var 8) da_nil)) ⟨p.1.1, l, rfl, rfl⟩) (da_cons (de_var 9) da_nil))).is rfl) ?_ nd
      unfold addR
      by_cases hm : mv wi he p.1 l ∈ Ls1.map (·.1)
      · rw [if_pos hm]
        exact db_if (q := false) ((dt_ninN (kvs := kvR Ls1) (hu hr) (NG B1 (mv wi he p.1 l)) (de_var 10) (de_var 5) rfl).is (by rw [kvR_in, decide_eq_true hm]; rfl)) (fun h => by cases h) (fun _ => db_nil (db_nil ⟨rfl, _, _, _, rfl⟩))
      · rw [if_neg hm]
        have hw : valN (kvR Ls1) (nkey (pD p.1)) = some (.str (S p.2)) := by
          rw [kvR_word (List.mem_map.mpr ⟨p, List.mem_of_getElem? hp1, rfl⟩), wordR_at B1.nd hp1]
        have plen := B1.len a p hp1
        have hn : valN (kvR Ls1) (nkey (pD (mv wi he p.1 l))) = none := by
          have := kvR_in Ls1 (mv wi he p.1 l)
          rw [decide_eq_false hm] at this
          exact Option.not_isSome_iff_eq_none.mp (by rw [this]; exact Bool.false_ne_true)
        refine db_if (q := true) ((dt_ninN (kvs := kvR Ls1) (hu hr) (NG B1 (mv wi he p.1 l)) (de_var 10) (de_var 5) rfl).is (by rw [kvR_in, decide_eq_false hm]; rfl)) (fun _ => ?_) (fun h => by cases h)
        refine db_putN (kvs := kvR Ls1) (ds := pL (mv wi he p.1 l)) (hu hr) (NG B1 (mv wi he p.1 l)) (de_addC (s := p.2) (t := [l]) (de_getN (kvs := kvR Ls1) (ds := pL p.1) (hu hr) (NG B1 p.1) (de_var 5) (de_var 4) rfl hw) (de_var 8) (by show _ + 1 ≤ _; omega)) (de_var 5) (de_var 10) rfl hn ?_
        refine db_expr (de_append (k := 2) (ds := Ls1.map fun p => pD p.1) (d := pD (mv wi he p.1 l)) (de_var 6) (de_var 10) rfl (by rw [List.length_map]; omega)) (db_nil (db_nil ⟨?_, _, _, _, rfl⟩))
        rw [kvR_snoc, List.map_append (f := fun p : Rd2 => pD p.1)]
        rfl
    · obtain ⟨rfl, v8, v9, v10, rfl⟩ := hJ
      have e7 : lets.take lets.length = lets := List.take_length
      rw [e7]
      exact db_nil ⟨m, by omega, _, a + 1, _, _, _, _, eb, by omega, B.next hp, rfl, rfl⟩
  · have hg : g ∈ Ls.map (·.1) := by simpa using hq
    have er : bfsGo wi he g 600 [(st0, [])] 0 = wordR Ls g := by
      rw [← eb]
      cases m with
      | zero => rfl
      | succ m => unfold bfsGo; rw [if_pos hg]
    rw [er]
    exact db_ret (de_getN (kvs := kvR Ls) (ds := pL g) (hu hr) (NG B g) (de_var 5) (de_var 3) rfl (kvR_word hg)) (fit rfl)
/-! _law_refused -/
def mk2 : Bool → D
  | true => .lst [.bl true, .bl false]
  | false => .lst [.bl false, .bl true]
def exB (ad : Ads) : Bool → Addr
  | true => ad.TooMany
  | false => ad.NoWalk
def sg_l_refused (ad : Ads) : List D → Out → Prop := fun ds o => ∃ (n : Nat) (wi he : List Int) (s : Bool) (ls : List Nat) (e : Bool), Tab n wi he ∧ ls.length ≤ 1000 ∧ ds = [tabD ad.Table wi he, sxD s, .str (S ls)] ∧
  ((e = false ∧ okW ls = false) ∨ (e = true ∧ okW ls = true ∧ 4 < n)) ∧ o = .ok (mk2 e)
theorem ok_l_refused {k : Nat} {f : Addr} {fd : FuncData} (F : Fun K "_law_refused" "_law_refused" s_l_refused f fd) (T : Txt K mg ad) (d_shortest : Dfn P w K mg base "shortest" k ["table", "sex", "walk"] (spX K (sg_shortest ad))) : FnOk P w K mg base (L2.CX P w) (k + 1) f fd ["table", "sex", "walk"] (spX K (sg_l_refused ad)) := by
  refine okX F sc_l_refused (fun ds o ⟨_, _, _, _, _, _, _, _, e, _⟩ => by rw [e]; rfl) fun cdv A outer st H E ds o hr hs => ?_
  obtain ⟨n, wi, he, s, ls, e, TT, hl, rfl, hs, rfl⟩ := hs
  have nd := sc_l_refused.nd
  have n3 : nls [tabD ad.Table wi he, sxD s, .str (S ls)] = true := by simp [nls, tabD_nl, D.nl]
  refine db_set 3 (df_lst da_nil).de ?_ nd
  refine db_tryP 4 (fun Ca M' env' => Ca = exB ad e ∧ M' = [] ∧ env' = [some (tabD ad.Table wi he), some (sxD s), some (.str (S ls)), some (.lst []), none]) nd (names_of T.ex_KinError.mgx) (fun pn xe hpo => ?_) (fun Ca M' env' hP => ?_)
  · rcases hs with ⟨rfl, h1⟩ | ⟨rfl, h1, h2⟩
    · exact db_exprX (dx_call d_shortest hr (da_cons (de_var 0) (da_cons (de_var 1) (da_cons (de_var 2) da_nil))) (Ress.flat n3) ⟨n, wi, he, s, ls, TT, hl, rfl, .inl ⟨h1, rfl⟩⟩) ⟨rfl, rfl, rfl⟩
    · exact db_exprX (dx_call d_shortest hr (da_cons (de_var 0) (da_cons (de_var 1) (da_cons (de_var 2) da_nil))) (Ress.flat n3) ⟨n, wi, he, s, ls, TT, hl, rfl, .inr (.inl ⟨h1, h2, rfl⟩)⟩) ⟨rfl, rfl, rfl⟩
  · obtain ⟨rfl, rfl, rfl⟩ := hP
    cases e with
    | true =>
      refine ⟨T.exm_TooMany_KinError, fun a oe pn hz hv => ?_⟩
      refine db_set 3 (df_lst (da_cons (de_isE T.cc_TooMany hz hv (de_var 4) T.kit_TooMany_TooMany T.ex_TooMany.mgx T.isinstance) (da_cons (de_isE T.cc_TooMany hz hv (de_var 4) T.kit_TooMany_NoWalk T.ex_NoWalk.mgx T.isinstance) da_nil))).de ?_ nd
      exact db_nil (db_ret (de_var 3) (fit rfl))
    | false =>
      refine ⟨T.exm_NoWalk_KinError, fun a oe pn hz hv => ?_⟩
      refine db_set 3 (df_lst (da_cons (de_isE T.cc_NoWalk hz hv (de_var 4) T.kit_NoWalk_TooMany T.ex_TooMany.mgx T.isinstance) (da_cons (de_isE T.cc_NoWalk hz hv (de_var 4) T.kit_NoWalk_NoWalk T.ex_NoWalk.mgx T.isinstance) da_nil))).de ?_ nd
      exact db_nil (db_ret (de_var 3) (fit rfl))
/-! is_turn -/
def sg_is_turn (_ : Ads) : List D → Out → Prop := fun ds o => ∃ xs : List Int, ds = [L xs] ∧ xs.length ≤ 100000 ∧ o = .ok (.bl (isT xs))
theorem ok_is_turn {k : Nat} {f : Addr} {fd : FuncData} (F : Fun K "is_turn" "is_turn" s_is_turn f fd) (T : Txt K mg ad)  : FnOk P w K mg base (L2.CX P w) (k + 1) f fd ["row"] (spX K (sg_is_turn ad)) := by
  refine okX F sc_is_turn (fun ds o ⟨xs, e, _⟩ => by rw [e]; rfl) fun cdv A outer s H E ds o hr hs => ?_
  obtain ⟨xs, rfl, hl, rfl⟩ := hs
  exact db_ret ((de_eqD hr.units (df_sorted (srt := srt xs) .d (fun _ => srt_uniq) T.sorted (da_cons (de_var 0) da_nil)).de ((df_listRg (de_lenI (xs := xs) .d T.len bt_len (da_cons (de_var 0) da_nil)) ⟨by omega, by omega⟩ T.list T.range).is (rngD_rng xs.length)).de
    (.flat (nl_ints _)) (.flat (nl_ints _)) (pur_ints _) (pur_ints _) (dep_ints _) (dep_ints _)).is (congrArg D.bl (eqv_ints _ _))) (fit rfl)
/-! back_of -/
def sg_back_of (_ : Ads) : List D → Out → Prop := fun ds o => ∃ (n : Nat) (w : List Int), ds = [L w] ∧ Trn n w ∧ n ≤ 1000 ∧ o = .own (.loc 0) [.lst ((backOf w).map .int)]
theorem ok_back_of {k : Nat} {f : Addr} {fd : FuncData} (F : Fun K "back_of" "back_of" s_back_of f fd) (T : Txt K mg ad)  : FnOk P w K mg base (L2.CX P w) (k + 1) f fd ["turn"] (spX K (sg_back_of ad)) := by
  refine okX F sc_back_of (fun ds o ⟨n, w, e, _⟩ => by rw [e]; rfl) fun cdv A outer s H E ds o hr hs => ?_
  obtain ⟨n, w, rfl, hw, hn, rfl⟩ := hs
  have nd := sc_back_of.nd
  have hwl := hw.len
  refine db_setLcE (own := [("c", 2)]) (out := (backGo w 0).map .int) 1 2 (fun _ => true) (fun _ => .int 0) (di_list (de_var 0) .d) .d (blkOk_by rfl) nd (by simp; omega) (by rw [flt_all, zeros_of]) (fun s H Cc cl fp d hd => dts_nil) (fun s H Cc cl fp d hd hc => de_int) ?_
  refine db_forR 2 (n := w.length) (da_cons (de_lenI .d T.len bt_len (da_cons (de_var 0) da_nil)) da_nil) T.range (by omega) nd (fun i M env => M = [.lst ((backGo w i).map .int)] ∧ ∃ u, env = [some (L w), some (.loc 0), u]) ⟨rfl, none, rfl⟩ (fun i M env hi hJ => ?_) (fun M env hJ => ?_) (passes_of rfl)
  · obtain ⟨rfl, u, rfl⟩ := hJ
    obtain ⟨j, hj, hjn⟩ := hw.get (i := i) (by omega)
    refine db_setItem (j := j) (de_var 2) (de_var 1) (de_ixL (de_var 0) (de_var 2) .d (atI_ints hj)) rfl (ixN_nat (by simp [backGo_length]; omega)) (db_nil ⟨?_, _, rfl⟩)
    simp [backGo, hj, List.map_set]
  · obtain ⟨rfl, u, rfl⟩ := hJ
    exact db_ret (de_var 1) fitO
/-! Table.__init__ -/
def sg_Table_init (ad : Ads) : List D → Out → Prop := fun ds o => ∃ w h : List Int, ds = [L w, L h] ∧ w.length ≤ 1000 ∧ h.length ≤ 1000 ∧ ((good w h = true ∧ o = .ok (tabD ad.Table w h)) ∨ (good w h = false ∧ o = .er ad.NoTable))
theorem ok_Table_init {k : Nat} {f : Addr} {fd : FuncData} (F : Fun K "__init__" "Table.__init__" s_Table_init f fd) (T : Txt K mg ad) (d_is_turn : Dfn P w K mg base "is_turn" k ["row"] (spX K (sg_is_turn ad))) (d_back_of : Dfn P w K mg base "back_of" k ["turn"] (spX K (sg_back_of ad))) : FnOk P w K mg base (L2.CX P w) (k + 1) f fd ["self", "wives", "heirs"] (spI K ad.Table (sg_Table_init ad)) := by
  refine okI F sc_Table_init (fun ds o ⟨w, h, e, _⟩ => by rw [e]; rfl) fun cdv A outer s H E ds o hr hs => ?_
  obtain ⟨w, h, rfl, lw, lh, hs⟩ := hs
  refine db_if (dw_or (dt_lt (de_lenI .d T.len bt_len (da_cons (de_var 1) da_nil)) de_int) (fun _ => (dw_or (dt_gt (de_lenI .d T.len bt_len (da_cons (de_var 1) da_nil)) de_int) (fun _ => (dw_or1 (dt_neI (de_lenI .d T.len bt_len (da_cons (de_var 2) da_nil)) (de_lenI .d T.len bt_len (da_cons (de_var 1) da_nil)))))))).dt (fun hq => ?_) (fun hq => ?_)
  · have hb := good_bad1 hq
    rcases hs with ⟨g, _⟩ | ⟨_, rfl⟩
    · rw [hb] at g; cases g
    · exact db_raise T.ex_NoTable rfl
  refine db_nil ?_
  refine db_if (dw_or (dt_not (dt_val (de_call d_is_turn hr (da_cons (de_var 1) da_nil) ⟨w, rfl, by omega, rfl⟩))) (fun _ => (dw_or1 (dt_not (dt_val (de_call d_is_turn hr (da_cons (de_var 2) da_nil) ⟨h, rfl, by omega, rfl⟩)))))).dt (fun hp => ?_) (fun hp => ?_)
  · have hb := good_bad2 hp
    rcases hs with ⟨g, _⟩ | ⟨_, rfl⟩
    · rw [hb] at g; cases g
    · exact db_raise T.ex_NoTable rfl
  refine db_nil ?_
  have hg := good_ok hq hp
  rcases hs with ⟨_, rfl⟩ | ⟨g, _⟩
  · have TT := Tab.of hg
    refine db_fld (df_list .d T.list bt_list (da_cons (de_var 1) da_nil)).own (de_var 0) rfl T.cl_Table T.na_Table_brides ?_
    refine db_fld (df_list .d T.list bt_list (da_cons (de_var 2) da_nil)).own (de_var 0) rfl T.cl_Table T.na_Table_lines ?_
    refine db_fld (de_callL d_back_of hr (da_cons (de_var 1) da_nil) ⟨_, w, rfl, TT.w, by omega, rfl⟩) (de_var 0) rfl T.cl_Table T.na_Table_grooms ?_
    refine db_fld (de_callL d_back_of hr (da_cons (de_var 2) da_nil) ⟨_, h, rfl, TT.h, by omega, rfl⟩) (de_var 0) rfl T.cl_Table T.na_Table_elders ?_
    refine db_nil ⟨_, rfl, .inst rfl (.cons (.cell rfl (.ints _)) (.cons (.cell rfl (.ints _)) (.cons (.cell rfl (.ints _)) (.cons (.cell rfl (.ints _)) .nil))))⟩
  · rw [hg] at g; cases g
/-! law -/
theorem let_ix2 : kitB "str" "str" = some true := by decide +kernel
theorem okW_x {ls : List Nat} : okW (ls ++ [120]) = false := by
  cases e : okW (ls ++ [120]) with
  | false => rfl
  | true =>
    have := (okW_iff.mp e).2 120 (by simp)
    revert this
    decide
theorem flt_none {α : Type} (f : α → Bool) : ∀ (xs : List α), (∀ x ∈ xs, f x = false) → xs.filter f = []
  | [], _ => rfl
  | x :: xs, h => by rw [List.filter_cons_of_neg (by rw [h x List.mem_cons_self]; simp)]; exact flt_none f xs fun y hy => h y (List.mem_cons_of_mem _ hy)
theorem s_x : Str.ofString "x" = S [120] := by decide +kernel
theorem eqv_mk2 (e : Bool) : PyData.eqv (mk2 e).py (mk2 e).py = true := by cases e <;> decide +kernel
theorem mk2_pur (e : Bool) : (mk2 e).pur = true := by cases e <;> rfl
theorem mk2_dep (e : Bool) : (mk2 e).dep ≤ 20 := by cases e <;> decide
theorem mk2_nl (e : Bool) : (mk2 e).nl = true := by cases e <;> rfl
abbrev sg_law (_ : Ads) : List D → Out → Prop := sgLaw
theorem ok_law {k : Nat} {f : Addr} {fd : FuncData} (F : Fun K "law" "law" s_law f fd) (T : Txt K mg ad) (d_l_cell_at : Dfn P w K mg base "_law_cell_at" k ["script", "k"] (spX K (sg_l_cell_at ad))) (d_l_turn_by : Dfn P w K mg base "_law_turn_by" k ["cell", "many"] (spX K (sg_l_turn_by ad))) (d_l_walk_by : Dfn P w K mg base "_law_walk_by" k ["cell", "most"] (spX K (sg_l_walk_by ad))) (d_l_turn_of : Dfn P w K mg base "_law_turn_of" k ["wives", "heirs", "sex", "walk"] (spX K (sg_l_turn_of ad))) (d_l_fewest : Dfn P w K mg base "_law_fewest" k ["wives", "heirs", "sex", "goal"] (spX K (sg_l_fewest ad))) (d_l_refused : Dfn P w K mg base "_law_refused" k ["table", "sex", "walk"] (spX K (sg_l_refused ad))) (d_shortest : Dfn P w K mg base "shortest" k ["table", "sex", "walk"] (spX K (sg_shortest ad))) (mk_Table : Mkr P w K mg base "Table" ad.Table k ["self", "wives", "heirs"] (spI K ad.Table (sg_Table_init ad))) : FnOk P w K mg base (L2.CX P w) (k + 1) f fd ["script"] (spX K (sg_law ad)) := by
  refine okX F sc_law (fun ds o ⟨n, e, _⟩ => by rw [e]; rfl) fun cdv A outer s H E ds o hr hs => ?_
  obtain ⟨ns, rfl, hns, rfl⟩ := hs
  have nd := sc_law.nd
  have cell : ∀ i : Nat, sg_l_cell_at ad [.scr ns, .int i] (.ok (.int (ns.getD i 0))) := fun i => ⟨ns, i, rfl, rfl⟩
  obtain ⟨r, hr0, hr8⟩ := ix_pos (n := 4) (by omega) (ns.getD 0 0)
  refine db_set 1 (de_call d_l_cell_at hr (da_cons (de_var 0) (da_cons de_int da_nil)) (cell 0)) ?_ nd
  refine db_set 2 (d := .int ((r + 1 : Nat) : Int)) ((de_add de_int (de_mod (de_var 1) de_int (by decide))).is (congrArg D.int (by omega))) ?_ nd
  refine db_ifK (fun M env => M = [] ∧ ∃ n : Nat, 1 ≤ n ∧ n ≤ 8 ∧ env = [some (.scr ns), some (.int (ns.getD 0 0)), some (.int (n : Int)), none, none, none, none, none, none, none, none]) (dt_eqI (de_mod (de_fdiv (de_var 1) de_int ⟨by decide, by decide⟩) de_int (by decide)) de_int) (fun _ => ?_) (fun _ => ?_) (fun M env hJ => ?_)
  · exact db_set 2 (d := .int ((r + 5 : Nat) : Int)) ((de_add (de_var 2) de_int).is (congrArg D.int (by omega))) (db_nil ⟨rfl, r + 5, by omega, by omega, rfl⟩) nd
  · exact db_nil ⟨rfl, r + 1, by omega, by omega, rfl⟩
  obtain ⟨rfl, n, hn1, hn8, rfl⟩ := hJ
  refine db_set 3 (de_call d_l_turn_by hr (da_cons (de_call d_l_cell_at hr (da_cons (de_var 0) (da_cons de_int da_nil)) (cell 1)) (da_cons (de_var 2) da_nil)) ⟨_, n, rfl, by omega, rfl⟩) ?_ nd
  refine db_set 4 (de_call d_l_turn_by hr (da_cons (de_call d_l_cell_at hr (da_cons (de_var 0) (da_cons de_int da_nil)) (cell 2)) (da_cons (de_var 2) da_nil)) ⟨_, n, rfl, by omega, rfl⟩) ?_ nd
  generalize hw : turnBy (ns.getD 1 0) n = wi
  generalize hh : turnBy (ns.getD 2 0) n = he
  have TT : Tab n wi he := ⟨hw ▸ turnBy_trn _ n, hh ▸ turnBy_trn _ n, hn1, hn8⟩
  have lw := TT.w.len
  have lh := TT.h.len
  refine db_set 5 (de_make mk_Table hr (da_cons (de_var 3) (da_cons (de_var 4) da_nil)) (Ress.flat (by simp [nls, nl_ints])) ⟨wi, he, rfl, by omega, by omega, .inl ⟨TT.good, rfl⟩⟩ (tabD_nl _ _ _)) ?_ nd
  obtain ⟨sex, j, hj, hjs⟩ := sx_draw (ns.getD 3 0)
  refine db_set 6 (de_ixL (df_lst (da_cons de_str (da_cons de_str da_nil))).de (de_mod (de_call d_l_cell_at hr (da_cons (de_var 0) (da_cons de_int da_nil)) (cell 3)) de_int (by decide)) .d (atI_of hj hjs)) ?_ nd
  refine db_set 7 (de_call d_l_walk_by hr (da_cons (de_call d_l_cell_at hr (da_cons (de_var 0) (da_cons de_int da_nil)) (cell 4)) (da_cons de_int da_nil)) ⟨_, 20, rfl, by omega, by omega, rfl⟩) ?_ nd
  have hok := walkBy_ok (c := ns.getD 4 0) (m := 20) (by omega) (by omega)
  generalize walkBy (ns.getD 4 0) 20 = ls at hok
  obtain ⟨hl60, hlets⟩ := okW_iff.mp hok
  have tn : ∀ ls : List Nat, nls [tabD ad.Table wi he, sxD sex, .str (S ls)] = true := fun ls => by simp [nls, tabD_nl, D.nl]
  refine db_if (q := false) ((dt_neD hr.units (de_call d_l_refused hr (da_cons (de_var 5) (da_cons (de_var 6) (da_cons (de_addC (s := ls) (t := [120]) (de_var 7) (de_strC s_x) (by show _ + 1 ≤ _; omega)) da_nil))) ⟨n, wi, he, sex, ls ++ [120], false, TT, by rw [List.length_append]; show _ + 1 ≤ _; omega, rfl, .inl ⟨rfl, okW_x⟩, rfl⟩ (tn _) (mk2_nl _)) ((df_lst (da_cons de_bl (da_cons de_bl da_nil))).de.is (z := mk2 false) rfl) (.flat (mk2_nl _)) (.flat (mk2_nl _)) (mk2_pur _) (mk2_pur _) (mk2_dep _) (mk2_dep _)).is (by rw [eqv_mk2]; rfl)) (fun h => by cases h) (fun _ => db_nil ?_)
  refine db_if (dt_gt (de_var 2) de_int) (fun hq => ?_) (fun hq => db_nil ?_)
  · have h4 : 4 < n := by have := of_decide_eq_true hq; omega
    exact db_ret ((de_eqD hr.units (de_call d_l_refused hr (da_cons (de_var 5) (da_cons (de_var 6) (da_cons (de_var 7) da_nil))) ⟨n, wi, he, sex, ls, true, TT, by omega, rfl, .inr ⟨rfl, hok, h4⟩, rfl⟩ (tn _) (mk2_nl _)) ((df_lst (da_cons de_bl (da_cons de_bl da_nil))).de.is (z := mk2 true) rfl) (.flat (mk2_nl _)) (.flat (mk2_nl _)) (mk2_pur _) (mk2_pur _) (mk2_dep _) (mk2_dep _)).is (by rw [eqv_mk2])) (fit rfl)
  have h4 : n ≤ 4 := by have := of_decide_eq_false hq; omega
  refine db_set 8 (de_call d_shortest hr (da_cons (de_var 5) (da_cons (de_var 6) (da_cons (de_var 7) da_nil))) ⟨n, wi, he, sex, ls, TT, by omega, rfl, .inr (.inr ⟨hok, h4, rfl⟩)⟩ (tn _) rfl) ?_ nd
  obtain ⟨f1, f2, f3⟩ := short_ok TT h4 (s := sex) hlets
  have fl : (shortW wi he n sex ls).length ≤ 60 := Nat.le_trans (f3.2 ls hlets rfl) hl60
  generalize shortW wi he n sex ls = fs at f1 f2 f3 fl
  have fok := okW_of fl f1
  refine db_if (q := false) (dw_orF ((dt_not (dt_val (de_isk (x := .str (S fs)) (c := true) (de_var 8) let_ix2 bt_str T.isinstance T.str))).is rfl) (dw_or1 ((dt_gt (de_lenL (ds := []) .d T.len bt_len (da_cons ((df_lc (own := [("letter", 10)]) 10 (fun _ => false) (fun d => d) (di_str (z := S fs) (de_var 8)) trivial (blkOk_by rfl) nd (by rw [sgnD_len]; omega) (fun _ H Cc cl fp d hd => ?_) (fun _ H Cc cl fp d hd hc => by cases hc)).is (by rw [flt_none _ _ (fun _ _ => rfl)]; rfl)).de da_nil)) de_int).is (by decide)))).dt (fun h => by cases h) (fun _ => db_nil ?_)
  · obtain ⟨i, hi⟩ := List.mem_iff_getElem?.mp hd
    obtain ⟨l, hl, rfl⟩ := sgnD_at hi
    exact dts_one ((dt_ninC (xs := lets) (de_var 10) de_str c_lets).is (by simp [f1 l (List.mem_of_getElem? hl)]))
  have ln4 : ∀ ls : List Nat, nls [L wi, L he, sxD sex, .str (S ls)] = true := fun _ => by simp [nls, D.nl, nls_ints]
  refine db_set 9 (de_call d_l_turn_of hr (da_cons (de_var 3) (da_cons (de_var 4) (da_cons (de_var 6) (da_cons (de_var 7) da_nil)))) ⟨n, wi, he, sex, ls, TT, hok, rfl, rfl⟩ (ln4 _) (lD_nl _)) ?_ nd
  have gne := (dist_lt TT f3).1
  generalize hg : runS wi he (sex, List.range n) ls = g at f2 f3 gne
  refine db_ret (de_andT ((de_eqD hr.units (de_call d_l_turn_of hr (da_cons (de_var 3) (da_cons (de_var 4) (da_cons (de_var 6) (da_cons (de_var 8) da_nil)))) ⟨n, wi, he, sex, fs, TT, fok, rfl, by rw [f2]⟩ (ln4 _) (lD_nl g)) (de_var 9) (.flat (lD_nl g)) (.flat (lD_nl g)) (lD_pur g) (lD_pur g) (Nat.le_trans (lD_dep g) (by omega)) (Nat.le_trans (lD_dep g) (by omega))).is (by rw [eqv_l gne]; simp)) (de_one ((de_eqI (de_lenC (ls := fs) (by omega) T.len bt_len (da_cons (de_var 8) da_nil)) (de_call d_l_fewest hr (da_cons (de_var 3) (da_cons (de_var 4) (da_cons (de_var 6) (da_cons (de_var 9) da_nil)))) ⟨n, wi, he, sex, g, fs.length, TT, h4, f3, rfl, rfl⟩ (by rw [nls, nls, nls, nls, nls, nl_ints, nl_ints, lD_nl]; rfl))).is (z := .bl true) (by simp)))) (fit rfl)
end
theorem all_mk {l : PySem.W.OpenLaw} {w : World} {K : PySem.W.Frag} {h : Heap} {mg : Str → Option Value} {fa AKinError ANoTable ANoClass ANoWalk ATooMany ATable f0 f1 f2 f3 f4 f5 f6 f7 f8 f9 f10 f11 f12 f13 f14 f15 f18 f19 f20 f21 f22 f23 f24 f25 f26 : Addr} (X : K.In h) (G : h.Ns mainGlobals mg) (hfa : mg "law" = some (.ref fa))
    {od0 an0 od1 an1 od2 an2 od3 an3 od4 an4 od5 an5 od6 an6 od7 an7 od8 an8 od9 an9 od10 an10 od11 an11 od12 an12 od13 an13 od14 an14 od15 an15 od18 an18 od19 an19 od20 an20 od21 an21 od22 an22 od23 an23 od24 an24 od25 an25 od26 an26 : Option Addr} {sl0 sl1 sl2 sl3 sl4 sl5 sl6 sl7 sl8 sl9 sl10 sl11 sl12 sl13 sl14 sl15 sl18 sl19 sl20 sl21 sl22 sl23 sl24 sl25 sl26 : Array (Option Value)} {oc0 kV0 dc0 pm0 cd0 ct0 oc1 kV1 dc1 pm1 cd1 ct1 oc2 kV2 dc2 pm2 cd2 ct2 oc3 kV3 dc3 pm3 cd3 ct3 oc4 kV4 dc4 pm4 cd4 ct4 oc5 kV5 dc5 pm5 cd5 ct5 oc6 kV6 dc6 pm6 cd6 ct6 oc7 kV7 dc7 pm7 cd7 ct7 oc8 kV8 dc8 pm8 cd8 ct8 oc9 kV9 dc9 pm9 cd9 ct9 oc10 kV10 dc10 pm10 cd10 ct10 oc11 kV11 dc11 pm11 cd11 ct11 oc12 kV12 dc12 pm12 cd12 ct12 oc13 kV13 dc13 pm13 cd13 ct13 oc14 kV14 dc14 pm14 cd14 ct14 oc15 kV15 dc15 pm15 cd15 ct15 oc18 kV18 dc18 pm18 cd18 ct18 oc19 kV19 dc19 pm19 cd19 ct19 oc20 kV20 dc20 pm20 cd20 ct20 oc21 kV21 dc21 pm21 cd21 ct21 oc22 kV22 dc22 pm22 cd22 ct22 oc23 kV23 dc23 pm23 cd23 ct23 oc24 kV24 dc24 pm24 cd24 ct24 oc25 kV25 dc25 pm25 cd25 ct25 oc26 kV26 dc26 pm26 cd26 ct26 : Value} {tLETTERS : Tok}
    (a_KinError : PySem.W.nsIn K mainGlobals "KinError" = some (some (.ref AKinError)))
    (a_NoTable : PySem.W.nsIn K mainGlobals "NoTable" = some (some (.ref ANoTable)))
    (a_NoClass : PySem.W.nsIn K mainGlobals "NoClass" = some (some (.ref ANoClass)))
    (a_NoWalk : PySem.W.nsIn K mainGlobals "NoWalk" = some (some (.ref ANoWalk)))
    (a_TooMany : PySem.W.nsIn K mainGlobals "TooMany" = some (some (.ref ATooMany)))
    (a_Table : PySem.W.nsIn K mainGlobals "Table" = some (some (.ref ATable)))
    (b_isinstance : PySem.W.nsIn K mainGlobals "isinstance" = some none)
    (b_len : PySem.W.nsIn K mainGlobals "len" = some none)
    (b_list : PySem.W.nsIn K mainGlobals "list" = some none)
    (b_range : PySem.W.nsIn K mainGlobals "range" = some none)
    (b_sorted : PySem.W.nsIn K mainGlobals "sorted" = some none)
    (b_str : PySem.W.nsIn K mainGlobals "str" = some none)
    (b_tuple : PySem.W.nsIn K mainGlobals "tuple" = some none)
    (k_LETTERS : PySem.W.nsIn K mainGlobals "LETTERS" = some (some (.str "fmsdpbz" tLETTERS)))
    (xx_KinError : PySem.W.excIn K AKinError [.type "ValueError", .type "Exception", .type "BaseException", .type "object"] "ValueError.__new__" = true)
    (xk_KinError : PySem.W.keepIn K (.ref AKinError) = true)
    (xs_KinError : PySem.W.subIn K (.ref AKinError) (.type "BaseException") = some true)
    (xt_KinError : PySem.W.typeIn K (.ref AKinError) = some (.type "type"))
    (xg_KinError : PySem.W.findIn K (.ref AKinError) "__getattribute__" = some (some (.builtin "BaseException.__getattribute__")))
    (xa_KinError : PySem.W.findIn K (.ref AKinError) "__getattr__" = some none)
    (xd_KinError : PySem.W.hasDictIn K AKinError = true)
    (xc_KinError : PySem.W.findIn K (.ref AKinError) "__class__" = some (some (.builtin "object.__class__")))
    (xm_KinError : PySem.W.mroIn K AKinError (.type "object") = some true)
    (xv_KinError : PySem.W.subIn K (.ref AKinError) (.type "ValueError") = some true)
    (xs_KinError_KinError : PySem.W.subIn K (.ref AKinError) (.ref AKinError) = some true)
    (xs_KinError_NoTable : PySem.W.subIn K (.ref AKinError) (.ref ANoTable) = some false)
    (xs_KinError_NoClass : PySem.W.subIn K (.ref AKinError) (.ref ANoClass) = some false)
    (xs_KinError_NoWalk : PySem.W.subIn K (.ref AKinError) (.ref ANoWalk) = some false)
    (xs_KinError_TooMany : PySem.W.subIn K (.ref AKinError) (.ref ATooMany) = some false)
    (xx_NoTable : PySem.W.excIn K ANoTable [.type "ValueError", .type "Exception", .type "BaseException", .type "object"] "ValueError.__new__" = true)
    (xk_NoTable : PySem.W.keepIn K (.ref ANoTable) = true)
    (xs_NoTable : PySem.W.subIn K (.ref ANoTable) (.type "BaseException") = some true)
    (xt_NoTable : PySem.W.typeIn K (.ref ANoTable) = some (.type "type"))
    (xg_NoTable : PySem.W.findIn K (.ref ANoTable) "__getattribute__" = some (some (.builtin "BaseException.__getattribute__")))
    (xa_NoTable : PySem.W.findIn K (.ref ANoTable) "__getattr__" = some none)
    (xd_NoTable : PySem.W.hasDictIn K ANoTable = true)
    (xc_NoTable : PySem.W.findIn K (.ref ANoTable) "__class__" = some (some (.builtin "object.__class__")))
    (xm_NoTable : PySem.W.mroIn K ANoTable (.type "object") = some true)
    (xv_NoTable : PySem.W.subIn K (.ref ANoTable) (.type "ValueError") = some true)
    (xs_NoTable_KinError : PySem.W.subIn K (.ref ANoTable) (.ref AKinError) = some true)
    (xs_NoTable_NoTable : PySem.W.subIn K (.ref ANoTable) (.ref ANoTable) = some true)
    (xs_NoTable_NoClass : PySem.W.subIn K (.ref ANoTable) (.ref ANoClass) = some false)
    (xs_NoTable_NoWalk : PySem.W.subIn K (.ref ANoTable) (.ref ANoWalk) = some false)
    (xs_NoTable_TooMany : PySem.W.subIn K (.ref ANoTable) (.ref ATooMany) = some false)
    (xx_NoClass : PySem.W.excIn K ANoClass [.type "ValueError", .type "Exception", .type "BaseException", .type "object"] "ValueError.__new__" = true)
    (xk_NoClass : PySem.W.keepIn K (.ref ANoClass) = true)
    (xs_NoClass : PySem.W.subIn K (.ref ANoClass) (.type "BaseException") = some true)
    (xt_NoClass : PySem.W.typeIn K (.ref ANoClass) = some (.type "type"))
    (xg_NoClass : PySem.W.findIn K (.ref ANoClass) "__getattribute__" = some (some (.builtin "BaseException.__getattribute__")))
    (xa_NoClass : PySem.W.findIn K (.ref ANoClass) "__getattr__" = some none)
    (xd_NoClass : PySem.W.hasDictIn K ANoClass = true)
    (xc_NoClass : PySem.W.findIn K (.ref ANoClass) "__class__" = some (some (.builtin "object.__class__")))
    (xm_NoClass : PySem.W.mroIn K ANoClass (.type "object") = some true)
    (xv_NoClass : PySem.W.subIn K (.ref ANoClass) (.type "ValueError") = some true)
    (xs_NoClass_KinError : PySem.W.subIn K (.ref ANoClass) (.ref AKinError) = some true)
    (xs_NoClass_NoTable : PySem.W.subIn K (.ref ANoClass) (.ref ANoTable) = some false)
    (xs_NoClass_NoClass : PySem.W.subIn K (.ref ANoClass) (.ref ANoClass) = some true)
    (xs_NoClass_NoWalk : PySem.W.subIn K (.ref ANoClass) (.ref ANoWalk) = some false)
    (xs_NoClass_TooMany : PySem.W.subIn K (.ref ANoClass) (.ref ATooMany) = some false)
    (xx_NoWalk : PySem.W.excIn K ANoWalk [.type "ValueError", .type "Exception", .type "BaseException", .type "object"] "ValueError.__new__" = true)
    (xk_NoWalk : PySem.W.keepIn K (.ref ANoWalk) = true)
    (xs_NoWalk : PySem.W.subIn K (.ref ANoWalk) (.type "BaseException") = some true)
    (xt_NoWalk : PySem.W.typeIn K (.ref ANoWalk) = some (.type "type"))
    (xg_NoWalk : PySem.W.findIn K (.ref ANoWalk) "__getattribute__" = some (some (.builtin "BaseException.__getattribute__")))
    (xa_NoWalk : PySem.W.findIn K (.ref ANoWalk) "__getattr__" = some none)
    (xd_NoWalk : PySem.W.hasDictIn K ANoWalk = true)
    (xc_NoWalk : PySem.W.findIn K (.ref ANoWalk) "__class__" = some (some (.builtin "object.__class__")))
    (xm_NoWalk : PySem.W.mroIn K ANoWalk (.type "object") = some true)
    (xv_NoWalk : PySem.W.subIn K (.ref ANoWalk) (.type "ValueError") = some true)
    (xs_NoWalk_KinError : PySem.W.subIn K (.ref ANoWalk) (.ref AKinError) = some true)
    (xs_NoWalk_NoTable : PySem.W.subIn K (.ref ANoWalk) (.ref ANoTable) = some false)
    (xs_NoWalk_NoClass : PySem.W.subIn K (.ref ANoWalk) (.ref ANoClass) = some false)
    (xs_NoWalk_NoWalk : PySem.W.subIn K (.ref ANoWalk) (.ref ANoWalk) = some true)
    (xs_NoWalk_TooMany : PySem.W.subIn K (.ref ANoWalk) (.ref ATooMany) = some false)
    (xx_TooMany : PySem.W.excIn K ATooMany [.type "ValueError", .type "Exception", .type "BaseException", .type "object"] "ValueError.__new__" = true)
    (xk_TooMany : PySem.W.keepIn K (.ref ATooMany) = true)
    (xs_TooMany : PySem.W.subIn K (.ref ATooMany) (.type "BaseException") = some true)
    (xt_TooMany : PySem.W.typeIn K (.ref ATooMany) = some (.type "type"))
    (xg_TooMany : PySem.W.findIn K (.ref ATooMany) "__getattribute__" = some (some (.builtin "BaseException.__getattribute__")))
    (xa_TooMany : PySem.W.findIn K (.ref ATooMany) "__getattr__" = some none)
    (xd_TooMany : PySem.W.hasDictIn K ATooMany = true)
    (xc_TooMany : PySem.W.findIn K (.ref ATooMany) "__class__" = some (some (.builtin "object.__class__")))
    (xm_TooMany : PySem.W.mroIn K ATooMany (.type "object") = some true)
    (xv_TooMany : PySem.W.subIn K (.ref ATooMany) (.type "ValueError") = some true)
    (xs_TooMany_KinError : PySem.W.subIn K (.ref ATooMany) (.ref AKinError) = some true)
    (xs_TooMany_NoTable : PySem.W.subIn K (.ref ATooMany) (.ref ANoTable) = some false)
    (xs_TooMany_NoClass : PySem.W.subIn K (.ref ATooMany) (.ref ANoClass) = some false)
    (xs_TooMany_NoWalk : PySem.W.subIn K (.ref ATooMany) (.ref ANoWalk) = some false)
    (xs_TooMany_TooMany : PySem.W.subIn K (.ref ATooMany) (.ref ATooMany) = some true)
    (xn : PySem.W.specialIn K (.builtin "object.__class__") "__get__" = some (some (.builtin "getset_descriptor.__get__")))
    (xtk : PySem.W.takesIn K (.builtin "object.__class__") = some true)
    (pg_Table : PySem.W.plainGet K ATable Str.empty = true)
    (hd_Table : PySem.W.hasDictIn K ATable = true)
    (po_Table : PySem.W.plainOver K ATable = true)
    (sa_Table : PySem.W.findIn K (.ref ATable) "__setattr__" = some (some (.builtin "object.__setattr__")))
    (mk_Table : PySem.W.makesIn K ATable = true)
    (kc_Table : PySem.W.keepIn K (.ref ATable) = true)
    (na_Table_brides : PySem.W.findIn K (.ref ATable) "brides" = some none)
    (na_Table_elders : PySem.W.findIn K (.ref ATable) "elders" = some none)
    (na_Table_grooms : PySem.W.findIn K (.ref ATable) "grooms" = some none)
    (na_Table_lines : PySem.W.findIn K (.ref ATable) "lines" = some none)
    (a_see_walk : PySem.W.nsIn K mainGlobals "see_walk" = some (some (.ref f0)))
    (l_see_walk : K.lookup f0 = some ⟨oc0, od0, .func (PySem.W.fnOf "see_walk" "see_walk" (defArgs s_see_walk) (defBody s_see_walk) (defScope s_see_walk) .none kV0 dc0 pm0 an0 cd0 ct0), sl0⟩)
    (c_see_walk : PySem.W.codeIn K cd0 "see_walk" = true)
    (k_see_walk : PySem.W.keepIn K (.ref f0) = true)
    (a_next_sex : PySem.W.nsIn K mainGlobals "next_sex" = some (some (.ref f1)))
    (l_next_sex : K.lookup f1 = some ⟨oc1, od1, .func (PySem.W.fnOf "next_sex" "next_sex" (defArgs s_next_sex) (defBody s_next_sex) (defScope s_next_sex) .none kV1 dc1 pm1 an1 cd1 ct1), sl1⟩)
    (c_next_sex : PySem.W.codeIn K cd1 "next_sex" = true)
    (k_next_sex : PySem.W.keepIn K (.ref f1) = true)
    (a_end_sex : PySem.W.nsIn K mainGlobals "end_sex" = some (some (.ref f2)))
    (l_end_sex : K.lookup f2 = some ⟨oc2, od2, .func (PySem.W.fnOf "end_sex" "end_sex" (defArgs s_end_sex) (defBody s_end_sex) (defScope s_end_sex) .none kV2 dc2 pm2 an2 cd2 ct2), sl2⟩)
    (c_end_sex : PySem.W.codeIn K cd2 "end_sex" = true)
    (k_end_sex : PySem.W.keepIn K (.ref f2) = true)
    (a_next_class : PySem.W.nsIn K mainGlobals "next_class" = some (some (.ref f3)))
    (l_next_class : K.lookup f3 = some ⟨oc3, od3, .func (PySem.W.fnOf "next_class" "next_class" (defArgs s_next_class) (defBody s_next_class) (defScope s_next_class) .none kV3 dc3 pm3 an3 cd3 ct3), sl3⟩)
    (c_next_class : PySem.W.codeIn K cd3 "next_class" = true)
    (k_next_class : PySem.W.keepIn K (.ref f3) = true)
    (a_walked : PySem.W.nsIn K mainGlobals "walked" = some (some (.ref f4)))
    (l_walked : K.lookup f4 = some ⟨oc4, od4, .func (PySem.W.fnOf "walked" "walked" (defArgs s_walked) (defBody s_walked) (defScope s_walked) .none kV4 dc4 pm4 an4 cd4 ct4), sl4⟩)
    (c_walked : PySem.W.codeIn K cd4 "walked" = true)
    (k_walked : PySem.W.keepIn K (.ref f4) = true)
    (a_turn_of : PySem.W.nsIn K mainGlobals "turn_of" = some (some (.ref f5)))
    (l_turn_of : K.lookup f5 = some ⟨oc5, od5, .func (PySem.W.fnOf "turn_of" "turn_of" (defArgs s_turn_of) (defBody s_turn_of) (defScope s_turn_of) .none kV5 dc5 pm5 an5 cd5 ct5), sl5⟩)
    (c_turn_of : PySem.W.codeIn K cd5 "turn_of" = true)
    (k_turn_of : PySem.W.keepIn K (.ref f5) = true)
    (a_shortest : PySem.W.nsIn K mainGlobals "shortest" = some (some (.ref f6)))
    (l_shortest : K.lookup f6 = some ⟨oc6, od6, .func (PySem.W.fnOf "shortest" "shortest" (defArgs s_shortest) (defBody s_shortest) (defScope s_shortest) .none kV6 dc6 pm6 an6 cd6 ct6), sl6⟩)
    (c_shortest : PySem.W.codeIn K cd6 "shortest" = true)
    (k_shortest : PySem.W.keepIn K (.ref f6) = true)
    (a_is_turn : PySem.W.nsIn K mainGlobals "is_turn" = some (some (.ref f7)))
    (l_is_turn : K.lookup f7 = some ⟨oc7, od7, .func (PySem.W.fnOf "is_turn" "is_turn" (defArgs s_is_turn) (defBody s_is_turn) (defScope s_is_turn) .none kV7 dc7 pm7 an7 cd7 ct7), sl7⟩)
    (c_is_turn : PySem.W.codeIn K cd7 "is_turn" = true)
    (k_is_turn : PySem.W.keepIn K (.ref f7) = true)
    (a_back_of : PySem.W.nsIn K mainGlobals "back_of" = some (some (.ref f8)))
    (l_back_of : K.lookup f8 = some ⟨oc8, od8, .func (PySem.W.fnOf "back_of" "back_of" (defArgs s_back_of) (defBody s_back_of) (defScope s_back_of) .none kV8 dc8 pm8 an8 cd8 ct8), sl8⟩)
    (c_back_of : PySem.W.codeIn K cd8 "back_of" = true)
    (k_back_of : PySem.W.keepIn K (.ref f8) = true)
    (a_Table_init : PySem.W.findIn K (.ref ATable) "__init__" = some (some (.ref f9)))
    (i_Table_init : PySem.W.isFn K (.ref f9) = true)
    (l_Table_init : K.lookup f9 = some ⟨oc9, od9, .func (PySem.W.fnOf "__init__" "Table.__init__" (defArgs s_Table_init) (defBody s_Table_init) (defScope s_Table_init) .none kV9 dc9 pm9 an9 cd9 ct9), sl9⟩)
    (c_Table_init : PySem.W.codeIn K cd9 "Table.__init__" = true)
    (k_Table_init : PySem.W.keepIn K (.ref f9) = true)
    (a_Table_size : PySem.W.findIn K (.ref ATable) "size" = some (some (.ref f10)))
    (i_Table_size : PySem.W.isFn K (.ref f10) = true)
    (l_Table_size : K.lookup f10 = some ⟨oc10, od10, .func (PySem.W.fnOf "size" "Table.size" (defArgs s_Table_size) (defBody s_Table_size) (defScope s_Table_size) .none kV10 dc10 pm10 an10 cd10 ct10), sl10⟩)
    (c_Table_size : PySem.W.codeIn K cd10 "Table.size" = true)
    (k_Table_size : PySem.W.keepIn K (.ref f10) = true)
    (a_Table_see_class : PySem.W.findIn K (.ref ATable) "see_class" = some (some (.ref f11)))
    (i_Table_see_class : PySem.W.isFn K (.ref f11) = true)
    (l_Table_see_class : K.lookup f11 = some ⟨oc11, od11, .func (PySem.W.fnOf "see_class" "Table.see_class" (defArgs s_Table_see_class) (defBody s_Table_see_class) (defScope s_Table_see_class) .none kV11 dc11 pm11 an11 cd11 ct11), sl11⟩)
    (c_Table_see_class : PySem.W.codeIn K cd11 "Table.see_class" = true)
    (k_Table_see_class : PySem.W.keepIn K (.ref f11) = true)
    (a_Table_wife_of : PySem.W.findIn K (.ref ATable) "wife_of" = some (some (.ref f12)))
    (i_Table_wife_of : PySem.W.isFn K (.ref f12) = true)
    (l_Table_wife_of : K.lookup f12 = some ⟨oc12, od12, .func (PySem.W.fnOf "wife_of" "Table.wife_of" (defArgs s_Table_wife_of) (defBody s_Table_wife_of) (defScope s_Table_wife_of) .none kV12 dc12 pm12 an12 cd12 ct12), sl12⟩)
    (c_Table_wife_of : PySem.W.codeIn K cd12 "Table.wife_of" = true)
    (k_Table_wife_of : PySem.W.keepIn K (.ref f12) = true)
    (a_Table_husband_of : PySem.W.findIn K (.ref ATable) "husband_of" = some (some (.ref f13)))
    (i_Table_husband_of : PySem.W.isFn K (.ref f13) = true)
    (l_Table_husband_of : K.lookup f13 = some ⟨oc13, od13, .func (PySem.W.fnOf "husband_of" "Table.husband_of" (defArgs s_Table_husband_of) (defBody s_Table_husband_of) (defScope s_Table_husband_of) .none kV13 dc13 pm13 an13 cd13 ct13), sl13⟩)
    (c_Table_husband_of : PySem.W.codeIn K cd13 "Table.husband_of" = true)
    (k_Table_husband_of : PySem.W.keepIn K (.ref f13) = true)
    (a_Table_heir_of : PySem.W.findIn K (.ref ATable) "heir_of" = some (some (.ref f14)))
    (i_Table_heir_of : PySem.W.isFn K (.ref f14) = true)
    (l_Table_heir_of : K.lookup f14 = some ⟨oc14, od14, .func (PySem.W.fnOf "heir_of" "Table.heir_of" (defArgs s_Table_heir_of) (defBody s_Table_heir_of) (defScope s_Table_heir_of) .none kV14 dc14 pm14 an14 cd14 ct14), sl14⟩)
    (c_Table_heir_of : PySem.W.codeIn K cd14 "Table.heir_of" = true)
    (k_Table_heir_of : PySem.W.keepIn K (.ref f14) = true)
    (a_Table_father_of : PySem.W.findIn K (.ref ATable) "father_of" = some (some (.ref f15)))
    (i_Table_father_of : PySem.W.isFn K (.ref f15) = true)
    (l_Table_father_of : K.lookup f15 = some ⟨oc15, od15, .func (PySem.W.fnOf "father_of" "Table.father_of" (defArgs s_Table_father_of) (defBody s_Table_father_of) (defScope s_Table_father_of) .none kV15 dc15 pm15 an15 cd15 ct15), sl15⟩)
    (c_Table_father_of : PySem.W.codeIn K cd15 "Table.father_of" = true)
    (k_Table_father_of : PySem.W.keepIn K (.ref f15) = true)
    (a_l_cell_at : PySem.W.nsIn K mainGlobals "_law_cell_at" = some (some (.ref f18)))
    (l_l_cell_at : K.lookup f18 = some ⟨oc18, od18, .func (PySem.W.fnOf "_law_cell_at" "_law_cell_at" (defArgs s_l_cell_at) (defBody s_l_cell_at) (defScope s_l_cell_at) .none kV18 dc18 pm18 an18 cd18 ct18), sl18⟩)
    (c_l_cell_at : PySem.W.codeIn K cd18 "_law_cell_at" = true)
    (k_l_cell_at : PySem.W.keepIn K (.ref f18) = true)
    (a_l_turn_by : PySem.W.nsIn K mainGlobals "_law_turn_by" = some (some (.ref f19)))
    (l_l_turn_by : K.lookup f19 = some ⟨oc19, od19, .func (PySem.W.fnOf "_law_turn_by" "_law_turn_by" (defArgs s_l_turn_by) (defBody s_l_turn_by) (defScope s_l_turn_by) .none kV19 dc19 pm19 an19 cd19 ct19), sl19⟩)
    (c_l_turn_by : PySem.W.codeIn K cd19 "_law_turn_by" = true)
    (k_l_turn_by : PySem.W.keepIn K (.ref f19) = true)
    (a_l_walk_by : PySem.W.nsIn K mainGlobals "_law_walk_by" = some (some (.ref f20)))
    (l_l_walk_by : K.lookup f20 = some ⟨oc20, od20, .func (PySem.W.fnOf "_law_walk_by" "_law_walk_by" (defArgs s_l_walk_by) (defBody s_l_walk_by) (defScope s_l_walk_by) .none kV20 dc20 pm20 an20 cd20 ct20), sl20⟩)
    (c_l_walk_by : PySem.W.codeIn K cd20 "_law_walk_by" = true)
    (k_l_walk_by : PySem.W.keepIn K (.ref f20) = true)
    (a_l_step : PySem.W.nsIn K mainGlobals "_law_step" = some (some (.ref f21)))
    (l_l_step : K.lookup f21 = some ⟨oc21, od21, .func (PySem.W.fnOf "_law_step" "_law_step" (defArgs s_l_step) (defBody s_l_step) (defScope s_l_step) .none kV21 dc21 pm21 an21 cd21 ct21), sl21⟩)
    (c_l_step : PySem.W.codeIn K cd21 "_law_step" = true)
    (k_l_step : PySem.W.keepIn K (.ref f21) = true)
    (a_l_led : PySem.W.nsIn K mainGlobals "_law_led" = some (some (.ref f22)))
    (l_l_led : K.lookup f22 = some ⟨oc22, od22, .func (PySem.W.fnOf "_law_led" "_law_led" (defArgs s_l_led) (defBody s_l_led) (defScope s_l_led) .none kV22 dc22 pm22 an22 cd22 ct22), sl22⟩)
    (c_l_led : PySem.W.codeIn K cd22 "_law_led" = true)
    (k_l_led : PySem.W.keepIn K (.ref f22) = true)
    (a_l_turn_of : PySem.W.nsIn K mainGlobals "_law_turn_of" = some (some (.ref f23)))
    (l_l_turn_of : K.lookup f23 = some ⟨oc23, od23, .func (PySem.W.fnOf "_law_turn_of" "_law_turn_of" (defArgs s_l_turn_of) (defBody s_l_turn_of) (defScope s_l_turn_of) .none kV23 dc23 pm23 an23 cd23 ct23), sl23⟩)
    (c_l_turn_of : PySem.W.codeIn K cd23 "_law_turn_of" = true)
    (k_l_turn_of : PySem.W.keepIn K (.ref f23) = true)
    (a_l_fewest : PySem.W.nsIn K mainGlobals "_law_fewest" = some (some (.ref f24)))
    (l_l_fewest : K.lookup f24 = some ⟨oc24, od24, .func (PySem.W.fnOf "_law_fewest" "_law_fewest" (defArgs s_l_fewest) (defBody s_l_fewest) (defScope s_l_fewest) .none kV24 dc24 pm24 an24 cd24 ct24), sl24⟩)
    (c_l_fewest : PySem.W.codeIn K cd24 "_law_fewest" = true)
    (k_l_fewest : PySem.W.keepIn K (.ref f24) = true)
    (a_l_refused : PySem.W.nsIn K mainGlobals "_law_refused" = some (some (.ref f25)))
    (l_l_refused : K.lookup f25 = some ⟨oc25, od25, .func (PySem.W.fnOf "_law_refused" "_law_refused" (defArgs s_l_refused) (defBody s_l_refused) (defScope s_l_refused) .none kV25 dc25 pm25 an25 cd25 ct25), sl25⟩)
    (c_l_refused : PySem.W.codeIn K cd25 "_law_refused" = true)
    (k_l_refused : PySem.W.keepIn K (.ref f25) = true)
    (a_law : PySem.W.nsIn K mainGlobals "law" = some (some (.ref f26)))
    (l_law : K.lookup f26 = some ⟨oc26, od26, .func (PySem.W.fnOf "law" "law" (defArgs s_law) (defBody s_law) (defScope s_law) .none kV26 dc26 pm26 an26 cd26 ct26), sl26⟩)
    (c_law : PySem.W.codeIn K cd26 "law" = true)
    (k_law : PySem.W.keepIn K (.ref f26) = true)
    : ∃ fd : FuncData, (∀ (s : Shared) (v : Value), BindsTo s fd ⟨[v], []⟩ [("script", v)]) ∧ ∀ base : Heap, K.In base → base.Ns mainGlobals mg → FnOk l.prog w K mg base (L2.CX l.prog w) 8 fa fd ["script"] (spX K sgLaw) := by
  have e := hfa.symm.trans (PySem.W.mg_of X G a_law)
  cases e
  have T : Txt K mg (⟨AKinError, ANoTable, ANoClass, ANoWalk, ATooMany, ATable⟩ : Ads) := {
isinstance := PySem.W.mg_none_of X G b_isinstance,
    len := PySem.W.mg_none_of X G b_len,
    list := PySem.W.mg_none_of X G b_list,
    range := PySem.W.mg_none_of X G b_range,
    sorted := PySem.W.mg_none_of X G b_sorted,
    str := PySem.W.mg_none_of X G b_str,
    tuple := PySem.W.mg_none_of X G b_tuple,
    c_LETTERS := ⟨_, PySem.W.mg_of X G k_LETTERS, ⟨_, rfl⟩⟩,
    ex_KinError := ⟨PySem.W.mg_of X G a_KinError, xx_KinError, xk_KinError, xs_KinError, xt_KinError⟩,
    cc_KinError := ⟨xg_KinError, xa_KinError, xs_KinError, xd_KinError, xc_KinError, xn, xtk, xm_KinError⟩,
    kit_KinError_KinError := kit_sub xs_KinError_KinError xs_KinError_KinError xd_KinError xt_KinError,
    exm_KinError_KinError := PySem.W.exm_ref xs_KinError xd_KinError xt_KinError xs_KinError_KinError,
    kit_KinError_NoTable := kit_sub xs_KinError_NoTable xs_NoTable_NoTable xd_NoTable xt_NoTable,
    exm_KinError_NoTable := PySem.W.exm_ref xs_NoTable xd_NoTable xt_NoTable xs_KinError_NoTable,
    kit_KinError_NoClass := kit_sub xs_KinError_NoClass xs_NoClass_NoClass xd_NoClass xt_NoClass,
    exm_KinError_NoClass := PySem.W.exm_ref xs_NoClass xd_NoClass xt_NoClass xs_KinError_NoClass,
    kit_KinError_NoWalk := kit_sub xs_KinError_NoWalk xs_NoWalk_NoWalk xd_NoWalk xt_NoWalk,
    exm_KinError_NoWalk := PySem.W.exm_ref xs_NoWalk xd_NoWalk xt_NoWalk xs_KinError_NoWalk,
    kit_KinError_TooMany := kit_sub xs_KinError_TooMany xs_TooMany_TooMany xd_TooMany xt_TooMany,
    exm_KinError_TooMany := PySem.W.exm_ref xs_TooMany xd_TooMany xt_TooMany xs_KinError_TooMany,
    kit_KinError_ValueError := kit_subT xv_KinError (by decide +kernel),
    ex_NoTable := ⟨PySem.W.mg_of X G a_NoTable, xx_NoTable, xk_NoTable, xs_NoTable, xt_NoTable⟩,
    cc_NoTable := ⟨xg_NoTable, xa_NoTable, xs_NoTable, xd_NoTable, xc_NoTable, xn, xtk, xm_NoTable⟩,
    kit_NoTable_KinError := kit_sub xs_NoTable_KinError xs_KinError_KinError xd_KinError xt_KinError,
    exm_NoTable_KinError := PySem.W.exm_ref xs_KinError xd_KinError xt_KinError xs_NoTable_KinError,
    kit_NoTable_NoTable := kit_sub xs_NoTable_NoTable xs_NoTable_NoTable xd_NoTable xt_NoTable,
    exm_NoTable_NoTable := PySem.W.exm_ref xs_NoTable xd_NoTable xt_NoTable xs_NoTable_NoTable,
    kit_NoTable_NoClass := kit_sub xs_NoTable_NoClass xs_NoClass_NoClass xd_NoClass xt_NoClass,
    exm_NoTable_NoClass := PySem.W.exm_ref xs_NoClass xd_NoClass xt_NoClass xs_NoTable_NoClass,
    kit_NoTable_NoWalk := kit_sub xs_NoTable_NoWalk xs_NoWalk_NoWalk xd_NoWalk xt_NoWalk,
    exm_NoTable_NoWalk := PySem.W.exm_ref xs_NoWalk xd_NoWalk xt_NoWalk xs_NoTable_NoWalk,
    kit_NoTable_TooMany := kit_sub xs_NoTable_TooMany xs_TooMany_TooMany xd_TooMany xt_TooMany,
    exm_NoTable_TooMany := PySem.W.exm_ref xs_TooMany xd_TooMany xt_TooMany xs_NoTable_TooMany,
    kit_NoTable_ValueError := kit_subT xv_NoTable (by decide +kernel),
    ex_NoClass := ⟨PySem.W.mg_of X G a_NoClass, xx_NoClass, xk_NoClass, xs_NoClass, xt_NoClass⟩,
    cc_NoClass := ⟨xg_NoClass, xa_NoClass, xs_NoClass, xd_NoClass, xc_NoClass, xn, xtk, xm_NoClass⟩,
    kit_NoClass_KinError := kit_sub xs_NoClass_KinError xs_KinError_KinError xd_KinError xt_KinError,
    exm_NoClass_KinError := PySem.W.exm_ref xs_KinError xd_KinError xt_KinError xs_NoClass_KinError,
    kit_NoClass_NoTable := kit_sub xs_NoClass_NoTable xs_NoTable_NoTable xd_NoTable xt_NoTable,
    exm_NoClass_NoTable := PySem.W.exm_ref xs_NoTable xd_NoTable xt_NoTable xs_NoClass_NoTable,
    kit_NoClass_NoClass := kit_sub xs_NoClass_NoClass xs_NoClass_NoClass xd_NoClass xt_NoClass,
    exm_NoClass_NoClass := PySem.W.exm_ref xs_NoClass xd_NoClass xt_NoClass xs_NoClass_NoClass,
    kit_NoClass_NoWalk := kit_sub xs_NoClass_NoWalk xs_NoWalk_NoWalk xd_NoWalk xt_NoWalk,
    exm_NoClass_NoWalk := PySem.W.exm_ref xs_NoWalk xd_NoWalk xt_NoWalk xs_NoClass_NoWalk,
    kit_NoClass_TooMany := kit_sub xs_NoClass_TooMany xs_TooMany_TooMany xd_TooMany xt_TooMany,
    exm_NoClass_TooMany := PySem.W.exm_ref xs_TooMany xd_TooMany xt_TooMany xs_NoClass_TooMany,
    kit_NoClass_ValueError := kit_subT xv_NoClass (by decide +kernel),
    ex_NoWalk := ⟨PySem.W.mg_of X G a_NoWalk, xx_NoWalk, xk_NoWalk, xs_NoWalk, xt_NoWalk⟩,
    cc_NoWalk := ⟨xg_NoWalk, xa_NoWalk, xs_NoWalk, xd_NoWalk, xc_NoWalk, xn, xtk, xm_NoWalk⟩,
    kit_NoWalk_KinError := kit_sub xs_NoWalk_KinError xs_KinError_KinError xd_KinError xt_KinError,
    exm_NoWalk_KinError := PySem.W.exm_ref xs_KinError xd_KinError xt_KinError xs_NoWalk_KinError,
    kit_NoWalk_NoTable := kit_sub xs_NoWalk_NoTable xs_NoTable_NoTable xd_NoTable xt_NoTable,
    exm_NoWalk_NoTable := PySem.W.exm_ref xs_NoTable xd_NoTable xt_NoTable xs_NoWalk_NoTable,
    kit_NoWalk_NoClass := kit_sub xs_NoWalk_NoClass xs_NoClass_NoClass xd_NoClass xt_NoClass,
    exm_NoWalk_NoClass := PySem.W.exm_ref xs_NoClass xd_NoClass xt_NoClass xs_NoWalk_NoClass,
    kit_NoWalk_NoWalk := kit_sub xs_NoWalk_NoWalk xs_NoWalk_NoWalk xd_NoWalk xt_NoWalk,
    exm_NoWalk_NoWalk := PySem.W.exm_ref xs_NoWalk xd_NoWalk xt_NoWalk xs_NoWalk_NoWalk,
    kit_NoWalk_TooMany := kit_sub xs_NoWalk_TooMany xs_TooMany_TooMany xd_TooMany xt_TooMany,
    exm_NoWalk_TooMany := PySem.W.exm_ref xs_TooMany xd_TooMany xt_TooMany xs_NoWalk_TooMany,
    kit_NoWalk_ValueError := kit_subT xv_NoWalk (by decide +kernel),
    ex_TooMany := ⟨PySem.W.mg_of X G a_TooMany, xx_TooMany, xk_TooMany, xs_TooMany, xt_TooMany⟩,
    cc_TooMany := ⟨xg_TooMany, xa_TooMany, xs_TooMany, xd_TooMany, xc_TooMany, xn, xtk, xm_TooMany⟩,
    kit_TooMany_KinError := kit_sub xs_TooMany_KinError xs_KinError_KinError xd_KinError xt_KinError,
    exm_TooMany_KinError := PySem.W.exm_ref xs_KinError xd_KinError xt_KinError xs_TooMany_KinError,
    kit_TooMany_NoTable := kit_sub xs_TooMany_NoTable xs_NoTable_NoTable xd_NoTable xt_NoTable,
    exm_TooMany_NoTable := PySem.W.exm_ref xs_NoTable xd_NoTable xt_NoTable xs_TooMany_NoTable,
    kit_TooMany_NoClass := kit_sub xs_TooMany_NoClass xs_NoClass_NoClass xd_NoClass xt_NoClass,
    exm_TooMany_NoClass := PySem.W.exm_ref xs_NoClass xd_NoClass xt_NoClass xs_TooMany_NoClass,
    kit_TooMany_NoWalk := kit_sub xs_TooMany_NoWalk xs_NoWalk_NoWalk xd_NoWalk xt_NoWalk,
    exm_TooMany_NoWalk := PySem.W.exm_ref xs_NoWalk xd_NoWalk xt_NoWalk xs_TooMany_NoWalk,
    kit_TooMany_TooMany := kit_sub xs_TooMany_TooMany xs_TooMany_TooMany xd_TooMany xt_TooMany,
    exm_TooMany_TooMany := PySem.W.exm_ref xs_TooMany xd_TooMany xt_TooMany xs_TooMany_TooMany,
    kit_TooMany_ValueError := kit_subT xv_TooMany (by decide +kernel),
    cl_Table := ⟨pg_Table, hd_Table, po_Table, sa_Table⟩,
    na_Table_brides := na_Table_brides,
    na_Table_elders := na_Table_elders,
    na_Table_grooms := na_Table_grooms,
    na_Table_lines := na_Table_lines,
    g_Table := PySem.W.mg_of X G a_Table,
    std_see_walk := ⟨_, _, PySem.W.mg_of X G a_see_walk, fun_mk (st := s_see_walk) l_see_walk c_see_walk k_see_walk, (fun_mk (st := s_see_walk) l_see_walk c_see_walk k_see_walk).binds (ps := ["walk"]) fun _ _ _ _ _ _ us hl => match us, hl with | [_], _ => rfl⟩,
    std_next_sex := ⟨_, _, PySem.W.mg_of X G a_next_sex, fun_mk (st := s_next_sex) l_next_sex c_next_sex k_next_sex, (fun_mk (st := s_next_sex) l_next_sex c_next_sex k_next_sex).binds (ps := ["sex", "letter"]) fun _ _ _ _ _ _ us hl => match us, hl with | [_, _], _ => rfl⟩,
    std_end_sex := ⟨_, _, PySem.W.mg_of X G a_end_sex, fun_mk (st := s_end_sex) l_end_sex c_end_sex k_end_sex, (fun_mk (st := s_end_sex) l_end_sex c_end_sex k_end_sex).binds (ps := ["sex", "walk"]) fun _ _ _ _ _ _ us hl => match us, hl with | [_, _], _ => rfl⟩,
    std_next_class := ⟨_, _, PySem.W.mg_of X G a_next_class, fun_mk (st := s_next_class) l_next_class c_next_class k_next_class, (fun_mk (st := s_next_class) l_next_class c_next_class k_next_class).binds (ps := ["table", "sex", "c", "letter"]) fun _ _ _ _ _ _ us hl => match us, hl with | [_, _, _, _], _ => rfl⟩,
    std_walked := ⟨_, _, PySem.W.mg_of X G a_walked, fun_mk (st := s_walked) l_walked c_walked k_walked, (fun_mk (st := s_walked) l_walked c_walked k_walked).binds (ps := ["table", "sex", "c", "walk"]) fun _ _ _ _ _ _ us hl => match us, hl with | [_, _, _, _], _ => rfl⟩,
    std_turn_of := ⟨_, _, PySem.W.mg_of X G a_turn_of, fun_mk (st := s_turn_of) l_turn_of c_turn_of k_turn_of, (fun_mk (st := s_turn_of) l_turn_of c_turn_of k_turn_of).binds (ps := ["table", "sex", "walk"]) fun _ _ _ _ _ _ us hl => match us, hl with | [_, _, _], _ => rfl⟩,
    std_shortest := ⟨_, _, PySem.W.mg_of X G a_shortest, fun_mk (st := s_shortest) l_shortest c_shortest k_shortest, (fun_mk (st := s_shortest) l_shortest c_shortest k_shortest).binds (ps := ["table", "sex", "walk"]) fun _ _ _ _ _ _ us hl => match us, hl with | [_, _, _], _ => rfl⟩,
    std_is_turn := ⟨_, _, PySem.W.mg_of X G a_is_turn, fun_mk (st := s_is_turn) l_is_turn c_is_turn k_is_turn, (fun_mk (st := s_is_turn) l_is_turn c_is_turn k_is_turn).binds (ps := ["row"]) fun _ _ _ _ _ _ us hl => match us, hl with | [_], _ => rfl⟩,
    std_back_of := ⟨_, _, PySem.W.mg_of X G a_back_of, fun_mk (st := s_back_of) l_back_of c_back_of k_back_of, (fun_mk (st := s_back_of) l_back_of c_back_of k_back_of).binds (ps := ["turn"]) fun _ _ _ _ _ _ us hl => match us, hl with | [_], _ => rfl⟩,
    std_Table_init := ⟨_, _, ⟨mk_Table, a_Table_init, i_Table_init, kc_Table⟩, fun_mk (st := s_Table_init) l_Table_init c_Table_init k_Table_init, (fun_mk (st := s_Table_init) l_Table_init c_Table_init k_Table_init).binds (ps := ["self", "wives", "heirs"]) fun _ _ _ _ _ _ us hl => match us, hl with | [_, _, _], _ => rfl⟩,
    std_Table_size := ⟨_, _, ⟨a_Table_size, i_Table_size, k_Table_size⟩, fun_mk (st := s_Table_size) l_Table_size c_Table_size k_Table_size, (fun_mk (st := s_Table_size) l_Table_size c_Table_size k_Table_size).binds (ps := ["self"]) fun _ _ _ _ _ _ us hl => match us, hl with | [_], _ => rfl⟩,
    std_Table_see_class := ⟨_, _, ⟨a_Table_see_class, i_Table_see_class, k_Table_see_class⟩, fun_mk (st := s_Table_see_class) l_Table_see_class c_Table_see_class k_Table_see_class, (fun_mk (st := s_Table_see_class) l_Table_see_class c_Table_see_class k_Table_see_class).binds (ps := ["self", "c"]) fun _ _ _ _ _ _ us hl => match us, hl with | [_, _], _ => rfl⟩,
    std_Table_wife_of := ⟨_, _, ⟨a_Table_wife_of, i_Table_wife_of, k_Table_wife_of⟩, fun_mk (st := s_Table_wife_of) l_Table_wife_of c_Table_wife_of k_Table_wife_of, (fun_mk (st := s_Table_wife_of) l_Table_wife_of c_Table_wife_of k_Table_wife_of).binds (ps := ["self", "c"]) fun _ _ _ _ _ _ us hl => match us, hl with | [_, _], _ => rfl⟩,
    std_Table_husband_of := ⟨_, _, ⟨a_Table_husband_of, i_Table_husband_of, k_Table_husband_of⟩, fun_mk (st := s_Table_husband_of) l_Table_husband_of c_Table_husband_of k_Table_husband_of, (fun_mk (st := s_Table_husband_of) l_Table_husband_of c_Table_husband_of k_Table_husband_of).binds (ps := ["self", "c"]) fun _ _ _ _ _ _ us hl => match us, hl with | [_, _], _ => rfl⟩,
    std_Table_heir_of := ⟨_, _, ⟨a_Table_heir_of, i_Table_heir_of, k_Table_heir_of⟩, fun_mk (st := s_Table_heir_of) l_Table_heir_of c_Table_heir_of k_Table_heir_of, (fun_mk (st := s_Table_heir_of) l_Table_heir_of c_Table_heir_of k_Table_heir_of).binds (ps := ["self", "c"]) fun _ _ _ _ _ _ us hl => match us, hl with | [_, _], _ => rfl⟩,
    std_Table_father_of := ⟨_, _, ⟨a_Table_father_of, i_Table_father_of, k_Table_father_of⟩, fun_mk (st := s_Table_father_of) l_Table_father_of c_Table_father_of k_Table_father_of, (fun_mk (st := s_Table_father_of) l_Table_father_of c_Table_father_of k_Table_father_of).binds (ps := ["self", "c"]) fun _ _ _ _ _ _ us hl => match us, hl with | [_, _], _ => rfl⟩,
    std_l_cell_at := ⟨_, _, PySem.W.mg_of X G a_l_cell_at, fun_mk (st := s_l_cell_at) l_l_cell_at c_l_cell_at k_l_cell_at, (fun_mk (st := s_l_cell_at) l_l_cell_at c_l_cell_at k_l_cell_at).binds (ps := ["script", "k"]) fun _ _ _ _ _ _ us hl => match us, hl with | [_, _], _ => rfl⟩,
    std_l_turn_by := ⟨_, _, PySem.W.mg_of X G a_l_turn_by, fun_mk (st := s_l_turn_by) l_l_turn_by c_l_turn_by k_l_turn_by, (fun_mk (st := s_l_turn_by) l_l_turn_by c_l_turn_by k_l_turn_by).binds (ps := ["cell", "many"]) fun _ _ _ _ _ _ us hl => match us, hl with | [_, _], _ => rfl⟩,
    std_l_walk_by := ⟨_, _, PySem.W.mg_of X G a_l_walk_by, fun_mk (st := s_l_walk_by) l_l_walk_by c_l_walk_by k_l_walk_by, (fun_mk (st := s_l_walk_by) l_l_walk_by c_l_walk_by k_l_walk_by).binds (ps := ["cell", "most"]) fun _ _ _ _ _ _ us hl => match us, hl with | [_, _], _ => rfl⟩,
    std_l_step := ⟨_, _, PySem.W.mg_of X G a_l_step, fun_mk (st := s_l_step) l_l_step c_l_step k_l_step, (fun_mk (st := s_l_step) l_l_step c_l_step k_l_step).binds (ps := ["wives", "heirs", "sex", "c", "letter"]) fun _ _ _ _ _ _ us hl => match us, hl with | [_, _, _, _, _], _ => rfl⟩,
    std_l_led := ⟨_, _, PySem.W.mg_of X G a_l_led, fun_mk (st := s_l_led) l_l_led c_l_led k_l_led, (fun_mk (st := s_l_led) l_l_led c_l_led k_l_led).binds (ps := ["wives", "heirs", "sex", "c", "walk"]) fun _ _ _ _ _ _ us hl => match us, hl with | [_, _, _, _, _], _ => rfl⟩,
    std_l_turn_of := ⟨_, _, PySem.W.mg_of X G a_l_turn_of, fun_mk (st := s_l_turn_of) l_l_turn_of c_l_turn_of k_l_turn_of, (fun_mk (st := s_l_turn_of) l_l_turn_of c_l_turn_of k_l_turn_of).binds (ps := ["wives", "heirs", "sex", "walk"]) fun _ _ _ _ _ _ us hl => match us, hl with | [_, _, _, _], _ => rfl⟩,
    std_l_fewest := ⟨_, _, PySem.W.mg_of X G a_l_fewest, fun_mk (st := s_l_fewest) l_l_fewest c_l_fewest k_l_fewest, (fun_mk (st := s_l_fewest) l_l_fewest c_l_fewest k_l_fewest).binds (ps := ["wives", "heirs", "sex", "goal"]) fun _ _ _ _ _ _ us hl => match us, hl with | [_, _, _, _], _ => rfl⟩,
    std_l_refused := ⟨_, _, PySem.W.mg_of X G a_l_refused, fun_mk (st := s_l_refused) l_l_refused c_l_refused k_l_refused, (fun_mk (st := s_l_refused) l_l_refused c_l_refused k_l_refused).binds (ps := ["table", "sex", "walk"]) fun _ _ _ _ _ _ us hl => match us, hl with | [_, _, _], _ => rfl⟩,
    std_law := ⟨_, _, PySem.W.mg_of X G a_law, fun_mk (st := s_law) l_law c_law k_law, (fun_mk (st := s_law) l_law c_law k_law).binds (ps := ["script"]) fun _ _ _ _ _ _ us hl => match us, hl with | [_], _ => rfl⟩
  }
  refine ⟨PySem.W.fnOf "law" "law" (defArgs s_law) (defBody s_law) (defScope s_law) .none kV26 dc26 pm26 an26 cd26 ct26, fun s v => .of_eq rfl, fun base _ _ => ?_⟩
  have H_l_cell_at : Dfn l.prog w K mg base "_law_cell_at" 1 ["script", "k"] (spX K (sg_l_cell_at (⟨AKinError, ANoTable, ANoClass, ANoWalk, ATooMany, ATable⟩ : Ads))) := by
    obtain ⟨g, gd, hm, Fg, hb⟩ := T.std_l_cell_at.ex
    exact ⟨g, gd, hm, Fg.kp, hb, ok_l_cell_at (k := 0) Fg T ⟩
  have H_l_turn_by : Dfn l.prog w K mg base "_law_turn_by" 1 ["cell", "many"] (spX K (sg_l_turn_by (⟨AKinError, ANoTable, ANoClass, ANoWalk, ATooMany, ATable⟩ : Ads))) := by
    obtain ⟨g, gd, hm, Fg, hb⟩ := T.std_l_turn_by.ex
    exact ⟨g, gd, hm, Fg.kp, hb, ok_l_turn_by (k := 0) Fg T ⟩
  have H_l_walk_by : Dfn l.prog w K mg base "_law_walk_by" 1 ["cell", "most"] (spX K (sg_l_walk_by (⟨AKinError, ANoTable, ANoClass, ANoWalk, ATooMany, ATable⟩ : Ads))) := by
    obtain ⟨g, gd, hm, Fg, hb⟩ := T.std_l_walk_by.ex
    exact ⟨g, gd, hm, Fg.kp, hb, ok_l_walk_by (k := 0) Fg T ⟩
  have H_l_step : Dfn l.prog w K mg base "_law_step" 1 ["wives", "heirs", "sex", "c", "letter"] (spX K (sg_l_step (⟨AKinError, ANoTable, ANoClass, ANoWalk, ATooMany, ATable⟩ : Ads))) := by
    obtain ⟨g, gd, hm, Fg, hb⟩ := T.std_l_step.ex
    exact ⟨g, gd, hm, Fg.kp, hb, ok_l_step (k := 0) Fg T ⟩
  have H_l_led : Dfn l.prog w K mg base "_law_led" 2 ["wives", "heirs", "sex", "c", "walk"] (spX K (sg_l_led (⟨AKinError, ANoTable, ANoClass, ANoWalk, ATooMany, ATable⟩ : Ads))) := by
    obtain ⟨g, gd, hm, Fg, hb⟩ := T.std_l_led.ex
    exact ⟨g, gd, hm, Fg.kp, hb, ok_l_led (k := 1) Fg T (H_l_step.mono (by decide))⟩
  have H_l_turn_of : Dfn l.prog w K mg base "_law_turn_of" 3 ["wives", "heirs", "sex", "walk"] (spX K (sg_l_turn_of (⟨AKinError, ANoTable, ANoClass, ANoWalk, ATooMany, ATable⟩ : Ads))) := by
    obtain ⟨g, gd, hm, Fg, hb⟩ := T.std_l_turn_of.ex
    exact ⟨g, gd, hm, Fg.kp, hb, ok_l_turn_of (k := 2) Fg T (H_l_led.mono (by decide))⟩
  have H_l_fewest : Dfn l.prog w K mg base "_law_fewest" 2 ["wives", "heirs", "sex", "goal"] (spX K (sg_l_fewest (⟨AKinError, ANoTable, ANoClass, ANoWalk, ATooMany, ATable⟩ : Ads))) := by
    obtain ⟨g, gd, hm, Fg, hb⟩ := T.std_l_fewest.ex
    exact ⟨g, gd, hm, Fg.kp, hb, ok_l_fewest (k := 1) Fg T (H_l_step.mono (by decide))⟩
  have H_see_walk : Dfn l.prog w K mg base "see_walk" 1 ["walk"] (spX K (sg_see_walk (⟨AKinError, ANoTable, ANoClass, ANoWalk, ATooMany, ATable⟩ : Ads))) := by
    obtain ⟨g, gd, hm, Fg, hb⟩ := T.std_see_walk.ex
    exact ⟨g, gd, hm, Fg.kp, hb, ok_see_walk (k := 0) Fg T ⟩
  have H_next_sex : Dfn l.prog w K mg base "next_sex" 1 ["sex", "letter"] (spX K (sg_next_sex (⟨AKinError, ANoTable, ANoClass, ANoWalk, ATooMany, ATable⟩ : Ads))) := by
    obtain ⟨g, gd, hm, Fg, hb⟩ := T.std_next_sex.ex
    exact ⟨g, gd, hm, Fg.kp, hb, ok_next_sex (k := 0) Fg T ⟩
  have H_end_sex : Dfn l.prog w K mg base "end_sex" 2 ["sex", "walk"] (spX K (sg_end_sex (⟨AKinError, ANoTable, ANoClass, ANoWalk, ATooMany, ATable⟩ : Ads))) := by
    obtain ⟨g, gd, hm, Fg, hb⟩ := T.std_end_sex.ex
    exact ⟨g, gd, hm, Fg.kp, hb, ok_end_sex (k := 1) Fg T (H_see_walk.mono (by decide)) (H_next_sex.mono (by decide))⟩
  have H_Table_see_class : Mtd l.prog w K mg base (⟨AKinError, ANoTable, ANoClass, ANoWalk, ATooMany, ATable⟩ : Ads).Table "see_class" 1 ["self", "c"] (spX K (sg_Table_see_class (⟨AKinError, ANoTable, ANoClass, ANoWalk, ATooMany, ATable⟩ : Ads))) := by
    obtain ⟨g, gd, hm, Fg, hb⟩ := T.std_Table_see_class.ex
    exact ⟨g, gd, hm, hb, ok_Table_see_class (k := 0) Fg T ⟩
  have H_Table_wife_of : Mtd l.prog w K mg base (⟨AKinError, ANoTable, ANoClass, ANoWalk, ATooMany, ATable⟩ : Ads).Table "wife_of" 2 ["self", "c"] (spX K (sg_Table_wife_of (⟨AKinError, ANoTable, ANoClass, ANoWalk, ATooMany, ATable⟩ : Ads))) := by
    obtain ⟨g, gd, hm, Fg, hb⟩ := T.std_Table_wife_of.ex
    exact ⟨g, gd, hm, hb, ok_Table_wife_of (k := 1) Fg T (H_Table_see_class.mono (by decide))⟩
  have H_Table_husband_of : Mtd l.prog w K mg base (⟨AKinError, ANoTable, ANoClass, ANoWalk, ATooMany, ATable⟩ : Ads).Table "husband_of" 2 ["self", "c"] (spX K (sg_Table_husband_of (⟨AKinError, ANoTable, ANoClass, ANoWalk, ATooMany, ATable⟩ : Ads))) := by
    obtain ⟨g, gd, hm, Fg, hb⟩ := T.std_Table_husband_of.ex
    exact ⟨g, gd, hm, hb, ok_Table_husband_of (k := 1) Fg T (H_Table_see_class.mono (by decide))⟩
  have H_Table_heir_of : Mtd l.prog w K mg base (⟨AKinError, ANoTable, ANoClass, ANoWalk, ATooMany, ATable⟩ : Ads).Table "heir_of" 2 ["self", "c"] (spX K (sg_Table_heir_of (⟨AKinError, ANoTable, ANoClass, ANoWalk, ATooMany, ATable⟩ : Ads))) := by
    obtain ⟨g, gd, hm, Fg, hb⟩ := T.std_Table_heir_of.ex
    exact ⟨g, gd, hm, hb, ok_Table_heir_of (k := 1) Fg T (H_Table_see_class.mono (by decide))⟩
  have H_Table_father_of : Mtd l.prog w K mg base (⟨AKinError, ANoTable, ANoClass, ANoWalk, ATooMany, ATable⟩ : Ads).Table "father_of" 2 ["self", "c"] (spX K (sg_Table_father_of (⟨AKinError, ANoTable, ANoClass, ANoWalk, ATooMany, ATable⟩ : Ads))) := by
    obtain ⟨g, gd, hm, Fg, hb⟩ := T.std_Table_father_of.ex
    exact ⟨g, gd, hm, hb, ok_Table_father_of (k := 1) Fg T (H_Table_see_class.mono (by decide))⟩
  have H_next_class : Dfn l.prog w K mg base "next_class" 3 ["table", "sex", "c", "letter"] (spX K (sg_next_class (⟨AKinError, ANoTable, ANoClass, ANoWalk, ATooMany, ATable⟩ : Ads))) := by
    obtain ⟨g, gd, hm, Fg, hb⟩ := T.std_next_class.ex
    exact ⟨g, gd, hm, Fg.kp, hb, ok_next_class (k := 2) Fg T (H_Table_wife_of.mono (by decide)) (H_Table_husband_of.mono (by decide)) (H_Table_heir_of.mono (by decide)) (H_Table_father_of.mono (by decide))⟩
  have H_walked : Dfn l.prog w K mg base "walked" 4 ["table", "sex", "c", "walk"] (spX K (sg_walked (⟨AKinError, ANoTable, ANoClass, ANoWalk, ATooMany, ATable⟩ : Ads))) := by
    obtain ⟨g, gd, hm, Fg, hb⟩ := T.std_walked.ex
    exact ⟨g, gd, hm, Fg.kp, hb, ok_walked (k := 3) Fg T (H_see_walk.mono (by decide)) (H_Table_see_class.mono (by decide)) (H_next_class.mono (by decide)) (H_next_sex.mono (by decide))⟩
  have H_Table_size : Mtd l.prog w K mg base (⟨AKinError, ANoTable, ANoClass, ANoWalk, ATooMany, ATable⟩ : Ads).Table "size" 1 ["self"] (spX K (sg_Table_size (⟨AKinError, ANoTable, ANoClass, ANoWalk, ATooMany, ATable⟩ : Ads))) := by
    obtain ⟨g, gd, hm, Fg, hb⟩ := T.std_Table_size.ex
    exact ⟨g, gd, hm, hb, ok_Table_size (k := 0) Fg T ⟩
  have H_turn_of : Dfn l.prog w K mg base "turn_of" 5 ["table", "sex", "walk"] (spX K (sg_turn_of (⟨AKinError, ANoTable, ANoClass, ANoWalk, ATooMany, ATable⟩ : Ads))) := by
    obtain ⟨g, gd, hm, Fg, hb⟩ := T.std_turn_of.ex
    exact ⟨g, gd, hm, Fg.kp, hb, ok_turn_of (k := 4) Fg T (H_walked.mono (by decide)) (H_Table_size.mono (by decide))⟩
  have H_shortest : Dfn l.prog w K mg base "shortest" 6 ["table", "sex", "walk"] (spX K (sg_shortest (⟨AKinError, ANoTable, ANoClass, ANoWalk, ATooMany, ATable⟩ : Ads))) := by
    obtain ⟨g, gd, hm, Fg, hb⟩ := T.std_shortest.ex
    exact ⟨g, gd, hm, Fg.kp, hb, ok_shortest (k := 5) Fg T (H_end_sex.mono (by decide)) (H_turn_of.mono (by decide)) (H_Table_size.mono (by decide)) (H_next_class.mono (by decide)) (H_next_sex.mono (by decide))⟩
  have H_l_refused : Dfn l.prog w K mg base "_law_refused" 7 ["table", "sex", "walk"] (spX K (sg_l_refused (⟨AKinError, ANoTable, ANoClass, ANoWalk, ATooMany, ATable⟩ : Ads))) := by
    obtain ⟨g, gd, hm, Fg, hb⟩ := T.std_l_refused.ex
    exact ⟨g, gd, hm, Fg.kp, hb, ok_l_refused (k := 6) Fg T (H_shortest.mono (by decide))⟩
  have H_is_turn : Dfn l.prog w K mg base "is_turn" 1 ["row"] (spX K (sg_is_turn (⟨AKinError, ANoTable, ANoClass, ANoWalk, ATooMany, ATable⟩ : Ads))) := by
    obtain ⟨g, gd, hm, Fg, hb⟩ := T.std_is_turn.ex
    exact ⟨g, gd, hm, Fg.kp, hb, ok_is_turn (k := 0) Fg T ⟩
  have H_back_of : Dfn l.prog w K mg base "back_of" 1 ["turn"] (spX K (sg_back_of (⟨AKinError, ANoTable, ANoClass, ANoWalk, ATooMany, ATable⟩ : Ads))) := by
    obtain ⟨g, gd, hm, Fg, hb⟩ := T.std_back_of.ex
    exact ⟨g, gd, hm, Fg.kp, hb, ok_back_of (k := 0) Fg T ⟩
  have H_Table_init : Mkr l.prog w K mg base "Table" (⟨AKinError, ANoTable, ANoClass, ANoWalk, ATooMany, ATable⟩ : Ads).Table 3 ["self", "wives", "heirs"] (spI K (⟨AKinError, ANoTable, ANoClass, ANoWalk, ATooMany, ATable⟩ : Ads).Table (sg_Table_init (⟨AKinError, ANoTable, ANoClass, ANoWalk, ATooMany, ATable⟩ : Ads))) := by
    obtain ⟨g, gd, hm, Fg, hb⟩ := T.std_Table_init
    exact ⟨g, gd, 2, rfl, T.g_Table, hm, hb, ok_Table_init (k := 1) Fg T (H_is_turn.mono (by decide)) (H_back_of.mono (by decide))⟩
  exact ok_law (k := 7) (fun_mk (st := s_law) l_law c_law k_law) T (H_l_cell_at.mono (by decide)) (H_l_turn_by.mono (by decide)) (H_l_walk_by.mono (by decide)) (H_l_turn_of.mono (by decide)) (H_l_fewest.mono (by decide)) (H_l_refused.mono (by decide)) (H_shortest.mono (by decide)) (H_Table_init.mono (by decide))
theorem walk {l : PySem.W.OpenLaw} {q : Program} {loose : List Str} {XP : (Str → Option Value) → Heap → Prop} {YP : World → Heap → Prop} {d : DefRec} {K : Params → PySem.W.Frag} (hn : l.most = some 63) (hdf : d.params.defaults = [])
    (hY : ∀ (w : World) (h : Heap), YP w h → (K w.params).In h)
    (F : ∀ (w : World) (mg : Str → Option Value) (fa : Addr) (h : Heap), (K w.params).In h → h.Ns mainGlobals mg → mg d.name = some (.ref fa) →
      ∃ fd : FuncData, (∀ (s : Shared) (u : Value), BindsTo s fd ⟨[u], []⟩ [("script", u)]) ∧ ∀ base : Heap, (K w.params).In base → base.Ns mainGlobals mg → FnOk l.prog w (K w.params) mg base (L2.CX l.prog w) 8 fa fd ["script"] (spX (K w.params) sgLaw)) :
    PySem.W.WalkO q loose XP YP l.row.toRowW d [] (fun f vs => PySem.call f vs) :=
  L2.walk_of (n := 63) (k := 8) (x := "script") (CX := fun w => L2.CX l.prog w) (sp := fun w => spX (K w.params) sgLaw) hn (by decide) hdf ⟨rfl, by decide, by decide⟩ hY F
    (fun w H a ns hl _ hS => ⟨fun _ => False, [.scr ns], .ok (.bl true), (fun _ z => z.elim), .one (.scr (by rw [vw_no]; exact hS)), ⟨ns, rfl, hl, rfl⟩, fun v H' _ r => by cases r; rfl⟩) fun w H s e s' z => cx_no z
end Toy
open PySem PySem.W PyProof.Rows
set_option maxRecDepth 100000 in
set_option maxHeartbeats 0 in
theorem PySem.Challenge.cw_kinturns_k06_the_shortest_walk_holds : PySem.Challenge.rw_kinturns_k06_the_shortest_walk.Holds := by
  w_on; o_law; k_head; (case hw => w_witness2)
  k_fill
  refine Toy.walk (l := PySem.Challenge.rw_kinturns_k06_the_shortest_walk) rfl rfl (fun w h Y => PySem.W.kIn_of Y) ?F
  case F =>
    intro w mg fa h KX G hmg
    refine' Toy.all_mk KX G hmg ?a_KinError ?a_NoTable ?a_NoClass ?a_NoWalk ?a_TooMany ?a_Table ?b_isinstance ?b_len ?b_list ?b_range ?b_sorted ?b_str ?b_tuple ?k_LETTERS ?xx_KinError ?xk_KinError ?xs_KinError ?xt_KinError ?xg_KinError ?xa_KinError ?xd_KinError ?xc_KinError ?xm_KinError ?xv_KinError ?xs_KinError_KinError ?xs_KinError_NoTable ?xs_KinError_NoClass ?xs_KinError_NoWalk ?xs_KinError_TooMany ?xx_NoTable ?xk_NoTable ?xs_NoTable ?xt_NoTable ?xg_NoTable ?xa_NoTable ?xd_NoTable ?xc_NoTable ?xm_NoTable ?xv_NoTable ?xs_NoTable_KinError ?xs_NoTable_NoTable ?xs_NoTable_NoClass ?xs_NoTable_NoWalk ?xs_NoTable_TooMany ?xx_NoClass ?xk_NoClass ?xs_NoClass ?xt_NoClass ?xg_NoClass ?xa_NoClass ?xd_NoClass ?xc_NoClass ?xm_NoClass ?xv_NoClass ?xs_NoClass_KinError ?xs_NoClass_NoTable ?xs_NoClass_NoClass ?xs_NoClass_NoWalk ?xs_NoClass_TooMany ?xx_NoWalk ?xk_NoWalk ?xs_NoWalk ?xt_NoWalk ?xg_NoWalk ?xa_NoWalk ?xd_NoWalk ?xc_NoWalk ?xm_NoWalk ?xv_NoWalk ?xs_NoWalk_KinError ?xs_NoWalk_NoTable ?xs_NoWalk_NoClass ?xs_NoWalk_NoWalk ?xs_NoWalk_TooMany ?xx_TooMany ?xk_TooMany ?xs_TooMany ?xt_TooMany ?xg_TooMany ?xa_TooMany ?xd_TooMany ?xc_TooMany ?xm_TooMany ?xv_TooMany ?xs_TooMany_KinError ?xs_TooMany_NoTable ?xs_TooMany_NoClass ?xs_TooMany_NoWalk ?xs_TooMany_TooMany ?xn ?xtk ?pg_Table ?hd_Table ?po_Table ?sa_Table ?mk_Table ?kc_Table ?na_Table_brides ?na_Table_elders ?na_Table_grooms ?na_Table_lines ?a_see_walk ?l_see_walk ?c_see_walk ?k_see_walk ?a_next_sex ?l_next_sex ?c_next_sex ?k_next_sex ?a_end_sex ?l_end_sex ?c_end_sex ?k_end_sex ?a_next_class ?l_next_class ?c_next_class ?k_next_class ?a_walked ?l_walked ?c_walked ?k_walked ?a_turn_of ?l_turn_of ?c_turn_of ?k_turn_of ?a_shortest ?l_shortest ?c_shortest ?k_shortest ?a_is_turn ?l_is_turn ?c_is_turn ?k_is_turn ?a_back_of ?l_back_of ?c_back_of ?k_back_of ?a_Table_init ?i_Table_init ?l_Table_init ?c_Table_init ?k_Table_init ?a_Table_size ?i_Table_size ?l_Table_size ?c_Table_size ?k_Table_size ?a_Table_see_class ?i_Table_see_class ?l_Table_see_class ?c_Table_see_class ?k_Table_see_class ?a_Table_wife_of ?i_Table_wife_of ?l_Table_wife_of ?c_Table_wife_of ?k_Table_wife_of ?a_Table_husband_of ?i_Table_husband_of ?l_Table_husband_of ?c_Table_husband_of ?k_Table_husband_of ?a_Table_heir_of ?i_Table_heir_of ?l_Table_heir_of ?c_Table_heir_of ?k_Table_heir_of ?a_Table_father_of ?i_Table_father_of ?l_Table_father_of ?c_Table_father_of ?k_Table_father_of ?a_l_cell_at ?l_l_cell_at ?c_l_cell_at ?k_l_cell_at ?a_l_turn_by ?l_l_turn_by ?c_l_turn_by ?k_l_turn_by ?a_l_walk_by ?l_l_walk_by ?c_l_walk_by ?k_l_walk_by ?a_l_step ?l_l_step ?c_l_step ?k_l_step ?a_l_led ?l_l_led ?c_l_led ?k_l_led ?a_l_turn_of ?l_l_turn_of ?c_l_turn_of ?k_l_turn_of ?a_l_fewest ?l_l_fewest ?c_l_fewest ?k_l_fewest ?a_l_refused ?l_l_refused ?c_l_refused ?k_l_refused ?a_law ?l_law ?c_law ?k_law
    (case a_KinError => k_is)
    (case a_NoTable => k_is)
    (case a_NoClass => k_is)
    (case a_NoWalk => k_is)
    (case a_TooMany => k_is)
    (case a_Table => k_is)
    (case b_isinstance => k_is)
    (case b_len => k_is)
    (case b_list => k_is)
    (case b_range => k_is)
    (case b_sorted => k_is)
    (case b_str => k_is)
    (case b_tuple => k_is)
    (case k_LETTERS => k_is)
    (case xx_KinError => k_exc)
    (case xk_KinError => k_is)
    (case xs_KinError => k_is)
    (case xt_KinError => k_is)
    (case xg_KinError => k_is)
    (case xa_KinError => k_is)
    (case xd_KinError => k_is)
    (case xc_KinError => k_is)
    (case xm_KinError => k_is)
    (case xv_KinError => k_is)
    (case xs_KinError_KinError => first | rfl | k_is)
    (case xs_KinError_NoTable => k_is)
    (case xs_KinError_NoClass => k_is)
    (case xs_KinError_NoWalk => k_is)
    (case xs_KinError_TooMany => k_is)
    (case xx_NoTable => k_exc)
    (case xk_NoTable => k_is)
    (case xs_NoTable => k_is)
    (case xt_NoTable => k_is)
    (case xg_NoTable => k_is)
    (case xa_NoTable => k_is)
    (case xd_NoTable => k_is)
    (case xc_NoTable => k_is)
    (case xm_NoTable => k_is)
    (case xv_NoTable => k_is)
    (case xs_NoTable_KinError => k_is)
    (case xs_NoTable_NoTable => first | rfl | k_is)
    (case xs_NoTable_NoClass => k_is)
    (case xs_NoTable_NoWalk => k_is)
    (case xs_NoTable_TooMany => k_is)
    (case xx_NoClass => k_exc)
    (case xk_NoClass => k_is)
    (case xs_NoClass => k_is)
    (case xt_NoClass => k_is)
    (case xg_NoClass => k_is)
    (case xa_NoClass => k_is)
    (case xd_NoClass => k_is)
    (case xc_NoClass => k_is)
    (case xm_NoClass => k_is)
    (case xv_NoClass => k_is)
    (case xs_NoClass_KinError => k_is)
    (case xs_NoClass_NoTable => k_is)
    (case xs_NoClass_NoClass => first | rfl | k_is)
    (case xs_NoClass_NoWalk => k_is)
    (case xs_NoClass_TooMany => k_is)
    (case xx_NoWalk => k_exc)
    (case xk_NoWalk => k_is)
    (case xs_NoWalk => k_is)
    (case xt_NoWalk => k_is)
    (case xg_NoWalk => k_is)
    (case xa_NoWalk => k_is)
    (case xd_NoWalk => k_is)
    (case xc_NoWalk => k_is)
    (case xm_NoWalk => k_is)
    (case xv_NoWalk => k_is)
    (case xs_NoWalk_KinError => k_is)
    (case xs_NoWalk_NoTable => k_is)
    (case xs_NoWalk_NoClass => k_is)
    (case xs_NoWalk_NoWalk => first | rfl | k_is)
    (case xs_NoWalk_TooMany => k_is)
    (case xx_TooMany => k_exc)
    (case xk_TooMany => k_is)
    (case xs_TooMany => k_is)
    (case xt_TooMany => k_is)
    (case xg_TooMany => k_is)
    (case xa_TooMany => k_is)
    (case xd_TooMany => k_is)
    (case xc_TooMany => k_is)
    (case xm_TooMany => k_is)
    (case xv_TooMany => k_is)
    (case xs_TooMany_KinError => k_is)
    (case xs_TooMany_NoTable => k_is)
    (case xs_TooMany_NoClass => k_is)
    (case xs_TooMany_NoWalk => k_is)
    (case xs_TooMany_TooMany => first | rfl | k_is)
    (case xn => k_is)
    (case xtk => k_is)
    (case pg_Table => k_is)
    (case hd_Table => k_is)
    (case po_Table => k_is)
    (case sa_Table => k_is)
    (case mk_Table => k_is)
    (case kc_Table => k_is)
    (case na_Table_brides => k_is)
    (case na_Table_elders => k_is)
    (case na_Table_grooms => k_is)
    (case na_Table_lines => k_is)
    (case a_see_walk => k_is)
    (case l_see_walk => k_is)
    (case c_see_walk => k_is)
    (case k_see_walk => k_is)
    (case a_next_sex => k_is)
    (case l_next_sex => k_is)
    (case c_next_sex => k_is)
    (case k_next_sex => k_is)
    (case a_end_sex => k_is)
    (case l_end_sex => k_is)
    (case c_end_sex => k_is)
    (case k_end_sex => k_is)
    (case a_next_class => k_is)
    (case l_next_class => k_is)
    (case c_next_class => k_is)
    (case k_next_class => k_is)
    (case a_walked => k_is)
    (case l_walked => k_is)
    (case c_walked => k_is)
    (case k_walked => k_is)
    (case a_turn_of => k_is)
    (case l_turn_of => k_is)
    (case c_turn_of => k_is)
    (case k_turn_of => k_is)
    (case a_shortest => k_is)
    (case l_shortest => k_is)
    (case c_shortest => k_is)
    (case k_shortest => k_is)
    (case a_is_turn => k_is)
    (case l_is_turn => k_is)
    (case c_is_turn => k_is)
    (case k_is_turn => k_is)
    (case a_back_of => k_is)
    (case l_back_of => k_is)
    (case c_back_of => k_is)
    (case k_back_of => k_is)
    (case a_Table_init => k_is)
    (case i_Table_init => k_is)
    (case l_Table_init => k_is)
    (case c_Table_init => k_is)
    (case k_Table_init => k_is)
    (case a_Table_size => k_is)
    (case i_Table_size => k_is)
    (case l_Table_size => k_is)
    (case c_Table_size => k_is)
    (case k_Table_size => k_is)
    (case a_Table_see_class => k_is)
    (case i_Table_see_class => k_is)
    (case l_Table_see_class => k_is)
    (case c_Table_see_class => k_is)
    (case k_Table_see_class => k_is)
    (case a_Table_wife_of => k_is)
    (case i_Table_wife_of => k_is)
    (case l_Table_wife_of => k_is)
    (case c_Table_wife_of => k_is)
    (case k_Table_wife_of => k_is)
    (case a_Table_husband_of => k_is)
    (case i_Table_husband_of => k_is)
    (case l_Table_husband_of => k_is)
    (case c_Table_husband_of => k_is)
    (case k_Table_husband_of => k_is)
    (case a_Table_heir_of => k_is)
    (case i_Table_heir_of => k_is)
    (case l_Table_heir_of => k_is)
    (case c_Table_heir_of => k_is)
    (case k_Table_heir_of => k_is)
    (case a_Table_father_of => k_is)
    (case i_Table_father_of => k_is)
    (case l_Table_father_of => k_is)
    (case c_Table_father_of => k_is)
    (case k_Table_father_of => k_is)
    (case a_l_cell_at => k_is)
    (case l_l_cell_at => k_is)
    (case c_l_cell_at => k_is)
    (case k_l_cell_at => k_is)
    (case a_l_turn_by => k_is)
    (case l_l_turn_by => k_is)
    (case c_l_turn_by => k_is)
    (case k_l_turn_by => k_is)
    (case a_l_walk_by => k_is)
    (case l_l_walk_by => k_is)
    (case c_l_walk_by => k_is)
    (case k_l_walk_by => k_is)
    (case a_l_step => k_is)
    (case l_l_step => k_is)
    (case c_l_step => k_is)
    (case k_l_step => k_is)
    (case a_l_led => k_is)
    (case l_l_led => k_is)
    (case c_l_led => k_is)
    (case k_l_led => k_is)
    (case a_l_turn_of => k_is)
    (case l_l_turn_of => k_is)
    (case c_l_turn_of => k_is)
    (case k_l_turn_of => k_is)
    (case a_l_fewest => k_is)
    (case l_l_fewest => k_is)
    (case c_l_fewest => k_is)
    (case k_l_fewest => k_is)
    (case a_l_refused => k_is)
    (case l_l_refused => k_is)
    (case c_l_refused => k_is)
    (case k_l_refused => k_is)
    (case a_law => k_is)
    (case l_law => k_is)
    (case c_law => k_is)
    (case k_law => k_is)
