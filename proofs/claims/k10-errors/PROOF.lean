import PyProof.Rows.All
import Wide.All
import OpenK.AllK
import Wide.FinOn
import HandS.ForMost
import HandS.Exc
import HandS.ExcOwn
import HandS.TryOnly
import HandS.WordsExc
import HandS.Lambda
import HandS.Defaults
import HandS.HeadHook2
import KE.KDictKeyed
import KE.KeyNested
import HandS.TupAny
import HandS.TupMul
import HandS.IsInst
import HandS.Deep
import HandS.Wide
import HandS.Star
import HandS.Style
import HandS.ExcIs
import KE.GoesMore
import KE.GoesNewDict
import KE.SortData
import HandS.TupLen
import KE.KExcIs
import KE.KDictPairs
import HandS.DictComp
import KE.KEqDict
import KE.KExcSuper
import KE.KSuper
import HandS.ExcInit
import HandS.Property
import HandS.HeadHook4
import HandS.Head0
import HandS.Head1
import HandS.Head2
import HandS.HeadEnd
import HandS.EndTab
import HandS.HeadWalk
import HandS.RaiseMore
import HandS.TupSets
import HandS.Conv
import HandS.ExcField
import PySem.Challenge.RW_fullfree_k10_whole_errors_first_due
set_option Elab.async false
set_option linter.all false
set_option maxRecDepth 100000
set_option maxHeartbeats 0
namespace DL
open PySem PySem.Spec PyProof.Rows L2

/-- data: Python values as trees; o: owned (may still be changed by the frame that holds it) -/
inductive D where
  | non | bl (b : Bool) | int (i : Int) | str (x : Str) | glob (x : Str) | ty (n : String)
  | tup (xs : List D) | lst (o : Bool) (xs : List D) | dic (o : Bool) (kvs : List (D × D)) | ins (o : Bool) (C : Str) (fs : List (Str × D)) | err (C : Str) (fs : List (Str × D))
  | scr (ns : List Int)

instance : Inhabited D := ⟨.non⟩

/-! ### keys -/
mutual
def nkey : D → Option NestedKey
  | .non => some .none
  | .bl b => some (.num (if b then 1 else 0))
  | .int i => some (.num i)
  | .str x => some (.text x)
  | .tup xs => (nkeys xs).map NestedKey.tup
  | _ => none
def nkeys : List D → Option (List NestedKey)
  | [] => some []
  | d :: ds => match nkey d, nkeys ds with
    | some k, some ks => some (k :: ks)
    | _, _ => none
end
def fkey : D → Option Key
  | .int i => some (.inl i)
  | .str x => some (.inr x)
  | _ => none

/-- at a stands just this object -/
def objO (a : Addr) (od : Obj) : HO := .ext fun h => h.get? a = some od
/-- a dict's object with tuple keys: key, where the key's tuple stands, value -/
structure TupD (P : Program) (w : World) (od : Obj) (es : List (NestedKey × Addr × Value)) : Prop where
  ex : od.ExactDict
  dat : ∃ ea ep, od.data = .dict ea ep ∧ ea.toList = es.map (entryOfKey (nestedKind P w))
  nd : (es.map (·.1)).Nodup
  len : es.length ≤ sizeLine
/-- a dict's object with int and text keys -/
structure FlatD (P : Program) (w : World) (od : Obj) (vs : List (Key × Value)) : Prop where
  ex : od.ExactDict
  dat : ∃ ea ep, od.data = .dict ea ep ∧ KeysOf (mixKind P w) ea ∧ Pairs (mixKind P w) ea.toList vs
  nd : (vs.map (·.1)).Nodup
  len : vs.length ≤ sizeLine

/-- the exception object at a of class C, its own dict at d -/
def errO (C : Addr) (d : Option Addr) (a : Addr) : HO := .ext fun h => ∃ oe vs, h.get? a = some oe ∧ Zc (.ref C) d oe ∧ oe.data = .fields vs

abbrev FS := Addr → Prop
def own (o : Bool) (F : FS) (H : Hp) (a : Addr) (u : HO) (q p : List Addr) : Prop :=
  match o with
  | true => H a = some u ∧ p = a :: q
  | false => F a ∧ H a = some u ∧ q = [] ∧ p = []

section
variable (P : Program) (w : World) (K : PySem.W.Frag)
mutual
/-- the value v is the data d; p: where its owned objects stand; every other changeable object of it is in F -/
def rep (F : FS) (H : Hp) : D → V → List Addr → Prop
  | .non, v, p => v = .non ∧ p = []
  | .bl b, v, p => v = .bl b ∧ p = []
  | .int i, v, p => v = .int i ∧ p = []
  | .str x, v, p => v = .str x ∧ p = []
  | .glob x, v, p => v = .ref (He.ga K x) ∧ p = []
  | .ty n, v, p => v = .ty n ∧ p = []
  | .tup xs, v, p => ∃ a vs, v = .ref a ∧ H a = some (.tup vs) ∧ reps F H xs vs [] ∧ p = []
  | .lst o xs, v, p => ∃ a vs q, v = .ref a ∧ reps F H xs vs q ∧ own o F H a (.lst vs) q p
  | .dic o kvs, v, p => ∃ a od q, v = .ref a ∧ (a == sysModules) = false ∧ own o F H a (objO a od) q p ∧ ((∃ kv vs, repK F H kvs kv q ∧ KV kv vs ∧ FlatD P w od vs) ∨ (∃ es, repT F H kvs es q ∧ TupD P w od es))
  | .ins o C fs, v, p => ∃ a dx gs q, v = .ref a ∧ repF F H fs gs q ∧ own o F H a (.ins (He.ga K C) dx gs) q p
  | .err C fs, v, p => ∃ a d, v = .ref a ∧ F a ∧ H a = some (errO (He.ga K C) d a) ∧ p = [] ∧ ((d = none ∧ fs = []) ∨ ∃ dx gs, d = some dx ∧ F dx ∧ H dx = some (.xd gs) ∧ repF F H fs gs [])
  | .scr ns, v, p => ∃ a, v = .ref a ∧ (F a ∨ ∀ H', SqL K H' a (ns.map V.int)) ∧ SqL K H a (ns.map V.int) ∧ p = []
def reps (F : FS) (H : Hp) : List D → List V → List Addr → Prop
  | [], vs, p => vs = [] ∧ p = []
  | d :: ds, vs, p => ∃ v ws q r, vs = v :: ws ∧ rep F H d v q ∧ reps F H ds ws r ∧ p = q ++ r
def repF (F : FS) (H : Hp) : List (Str × D) → List (Str × V) → List Addr → Prop
  | [], vs, p => vs = [] ∧ p = []
  | (x, d) :: ds, vs, p => ∃ v ws q r, vs = (x, v) :: ws ∧ rep F H d v q ∧ repF F H ds ws r ∧ p = q ++ r
def repK (F : FS) (H : Hp) : List (D × D) → List (Key × V) → List Addr → Prop
  | [], vs, p => vs = [] ∧ p = []
  | (x, d) :: ds, vs, p => ∃ k v ws q r, fkey x = some k ∧ vs = (k, v) :: ws ∧ rep F H d v q ∧ repK F H ds ws r ∧ p = q ++ r
def repT (F : FS) (H : Hp) : List (D × D) → List (NestedKey × Addr × Value) → List Addr → Prop
  | [], vs, p => vs = [] ∧ p = []
  | (x, d) :: ds, vs, p => ∃ k b u v ws q r, nkey x = some k ∧ k.depth ≤ 8 ∧ vs = (k, b, u) :: ws ∧ rep F H x (.ref b) [] ∧ RelV v u ∧ rep F H d v q ∧ repT F H ds ws r ∧ p = q ++ r
end
end
end DL

namespace DL
open PySem PySem.Spec PyProof.Rows L2
section
variable {P : Program} {w : World} {K : PySem.W.Frag} {F F' : FS} {H H' : Hp}

/-- what an owned object can be -/
def Ow : HO → Prop
  | .lst _ | .dK _ | .ins _ _ _ | .ext _ => True
  | _ => False

/-- what data at p, in F, and the tuples, lean on -/
structure Stab (F F' : FS) (H H' : Hp) (p : List Addr) : Prop where
  mono : ∀ a, F a → F' a
  keep : ∀ a o, H a = some o → (∀ ps, o ≠ .tbl ps) → (F a ∨ a ∈ p ∨ ∃ xs, o = .tup xs) → H' a = some o
theorem Stab.sub {p q : List Addr} (s : Stab F F' H H' p) (h : ∀ a ∈ q, a ∈ p) : Stab F F' H H' q :=
  ⟨s.mono, fun a o e nt z => s.keep a o e nt (z.elim .inl fun z => z.elim (fun z => .inr (.inl (h a z))) fun z => .inr (.inr z))⟩
theorem Stab.left {p q : List Addr} (s : Stab F F' H H' (p ++ q)) : Stab F F' H H' p := s.sub fun _ h => List.mem_append_left _ h
theorem Stab.right {p q : List Addr} (s : Stab F F' H H' (p ++ q)) : Stab F F' H H' q := s.sub fun _ h => List.mem_append_right _ h

theorem own_mono {o : Bool} {a : Addr} {u : HO} {q p : List Addr} (x : own o F H a u q p) (s : Stab F F' H H' p) (nt : ∀ ps, u ≠ .tbl ps) : own o F' H' a u q p := by
  cases o with
  | true => exact ⟨s.keep a u x.1 nt (.inr (.inl (by rw [x.2]; exact List.mem_cons_self))), x.2⟩
  | false =>
    obtain ⟨f, r, q0, p0⟩ := x
    exact ⟨s.mono a f, s.keep a _ r nt (.inl f), q0, p0⟩
theorem own_sub {o : Bool} {a : Addr} {u : HO} {q p : List Addr} (x : own o F H a u q p) : ∀ b ∈ q, b ∈ p := by
  cases o with
  | true => intro b hb; rw [x.2]; exact List.mem_cons_of_mem _ hb
  | false => intro b hb; rw [x.2.2.1] at hb; cases hb

mutual
theorem rep_mono : ∀ {d : D} {v : V} {p : List Addr}, rep P w K F H d v p → Stab F F' H H' p → rep P w K F' H' d v p
  | .non, _, _, x, _ => x
  | .bl _, _, _, x, _ => x
  | .int _, _, _, x, _ => x
  | .str _, _, _, x, _ => x
  | .glob _, _, _, x, _ => x
  | .ty _, _, _, x, _ => x
  | .tup xs, v, p, x, s => by
    obtain ⟨a, vs, e, h, r, p0⟩ := x
    subst p0
    exact ⟨a, vs, e, s.keep a _ h (fun _ z => nomatch z) (.inr (.inr ⟨_, rfl⟩)), reps_mono r s, rfl⟩
  | .lst o xs, v, p, x, s => by
    obtain ⟨a, vs, q, e, r, ow⟩ := x
    exact ⟨a, vs, q, e, reps_mono r (s.sub (own_sub ow)), own_mono ow s (fun _ z => nomatch z)⟩
  | .dic o kvs, v, p, x, s => by
    obtain ⟨a, od, q, e, sm, ow, x⟩ := x
    refine ⟨a, od, q, e, sm, own_mono ow s (fun _ z => nomatch z), ?_⟩
    rcases x with ⟨kv, vs, r, z⟩ | ⟨es, r, z⟩
    · exact .inl ⟨kv, vs, repK_mono r (s.sub (own_sub ow)), z⟩
    · exact .inr ⟨es, repT_mono r (s.sub (own_sub ow)), z⟩
  | .ins o C fs, v, p, x, s => by
    obtain ⟨a, dx, gs, q, e, r, ow⟩ := x
    exact ⟨a, dx, gs, q, e, repF_mono r (s.sub (own_sub ow)), own_mono ow s (fun _ z => nomatch z)⟩
  | .err C fs, v, p, x, s => by
    obtain ⟨a, d, e, f, h, p0, z⟩ := x
    subst p0
    refine ⟨a, d, e, s.mono a f, s.keep a _ h (fun _ z => nomatch z) (.inl f), rfl, ?_⟩
    rcases z with z | ⟨dx, gs, ed, fd, hd, r⟩
    · exact .inl z
    · exact .inr ⟨dx, gs, ed, s.mono _ fd, s.keep _ _ hd (fun _ z => nomatch z) (.inl fd), repF_mono r s⟩
  | .scr ns, v, p, x, s => by
    obtain ⟨a, e, f, h, p0⟩ := x
    refine ⟨a, e, f.imp (s.mono a) id, ?_, p0⟩
    rcases f with f | f
    case inr => exact f _
    rcases h with (h | ⟨o, h⟩) | h
    · exact .inl (.inl (s.keep a _ h (fun _ z => nomatch z) (.inl f)))
    · exact .inl (.inr ⟨o, s.keep a _ h (fun _ z => nomatch z) (.inl f)⟩)
    · exact .inr h
theorem reps_mono : ∀ {ds : List D} {vs : List V} {p : List Addr}, reps P w K F H ds vs p → Stab F F' H H' p → reps P w K F' H' ds vs p
  | [], _, _, x, _ => x
  | d :: ds, vs, p, x, s => by
    obtain ⟨v, ws, q, r, e, x1, x2, rfl⟩ := x
    exact ⟨v, ws, q, r, e, rep_mono x1 s.left, reps_mono x2 s.right, rfl⟩
theorem repF_mono : ∀ {ds : List (Str × D)} {vs : List (Str × V)} {p : List Addr}, repF P w K F H ds vs p → Stab F F' H H' p → repF P w K F' H' ds vs p
  | [], _, _, x, _ => x
  | (y, d) :: ds, vs, p, x, s => by
    obtain ⟨v, ws, q, r, e, x1, x2, rfl⟩ := x
    exact ⟨v, ws, q, r, e, rep_mono x1 s.left, repF_mono x2 s.right, rfl⟩
theorem repK_mono : ∀ {ds : List (D × D)} {vs : List (Key × V)} {p : List Addr}, repK P w K F H ds vs p → Stab F F' H H' p → repK P w K F' H' ds vs p
  | [], _, _, x, _ => x
  | (y, d) :: ds, vs, p, x, s => by
    obtain ⟨k, v, ws, q, r, ek, e, x1, x2, rfl⟩ := x
    exact ⟨k, v, ws, q, r, ek, e, rep_mono x1 s.left, repK_mono x2 s.right, rfl⟩
theorem repT_mono : ∀ {ds : List (D × D)} {vs : List (NestedKey × Addr × Value)} {p : List Addr}, repT P w K F H ds vs p → Stab F F' H H' p → repT P w K F' H' ds vs p
  | [], _, _, x, _ => x
  | (y, d) :: ds, vs, p, x, s => by
    obtain ⟨k, b, u, v, ws, q, r, ek, dp, e, x0, ru, x1, x2, rfl⟩ := x
    exact ⟨k, b, u, v, ws, q, r, ek, dp, e, rep_mono x0 (s.sub fun _ h => absurd h (by simp)), ru, rep_mono x1 s.left, repT_mono x2 s.right, rfl⟩
end

mutual
/-- owned objects are tracked, as such -/
theorem rep_there : ∀ {d : D} {v : V} {p : List Addr}, rep P w K F H d v p → ∀ a ∈ p, ∃ o, H a = some o ∧ Ow o
  | .non, _, _, x, a, h => by rw [x.2] at h; cases h
  | .bl _, _, _, x, a, h => by rw [x.2] at h; cases h
  | .int _, _, _, x, a, h => by rw [x.2] at h; cases h
  | .str _, _, _, x, a, h => by rw [x.2] at h; cases h
  | .glob _, _, _, x, a, h => by rw [x.2] at h; cases h
  | .ty _, _, _, x, a, h => by rw [x.2] at h; cases h
  | .tup xs, v, p, x, b, hb => by
    obtain ⟨a, vs, e, h, r, p0⟩ := x
    subst p0
    cases hb
  | .lst o xs, v, p, x, b, hb => by
    obtain ⟨a, vs, q, e, r, ow⟩ := x
    cases o with
    | true =>
      rw [ow.2] at hb
      rcases List.mem_cons.mp hb with rfl | hb
      · exact ⟨_, ow.1, trivial⟩
      · exact reps_there r b hb
    | false => rw [ow.2.2.2] at hb; cases hb
  | .dic o kvs, v, p, x, b, hb => by
    obtain ⟨a, od, q, e, sm, ow, x⟩ := x
    cases o with
    | true =>
      rw [ow.2] at hb
      rcases List.mem_cons.mp hb with rfl | hb
      · exact ⟨_, ow.1, trivial⟩
      · rcases x with ⟨kv, vs, r, z⟩ | ⟨es, r, z⟩
        · exact repK_there r b hb
        · exact repT_there r b hb
    | false => rw [ow.2.2.2] at hb; cases hb
  | .ins o C fs, v, p, x, b, hb => by
    obtain ⟨a, dx, gs, q, e, r, ow⟩ := x
    cases o with
    | true =>
      rw [ow.2] at hb
      rcases List.mem_cons.mp hb with rfl | hb
      · exact ⟨_, ow.1, trivial⟩
      · exact repF_there r b hb
    | false => rw [ow.2.2.2] at hb; cases hb
  | .err C fs, v, p, x, b, hb => by
    obtain ⟨a, d, e, f, h, p0, z⟩ := x
    subst p0
    cases hb
  | .scr ns, v, p, x, b, hb => by
    obtain ⟨a, e, f, h, p0⟩ := x
    subst p0
    cases hb
theorem reps_there : ∀ {ds : List D} {vs : List V} {p : List Addr}, reps P w K F H ds vs p → ∀ a ∈ p, ∃ o, H a = some o ∧ Ow o
  | [], _, _, x, a, h => by rw [x.2] at h; cases h
  | d :: ds, vs, p, x, a, h => by
    obtain ⟨v, ws, q, r, e, x1, x2, rfl⟩ := x
    exact (List.mem_append.mp h).elim (rep_there x1 a) (reps_there x2 a)
theorem repF_there : ∀ {ds : List (Str × D)} {vs : List (Str × V)} {p : List Addr}, repF P w K F H ds vs p → ∀ a ∈ p, ∃ o, H a = some o ∧ Ow o
  | [], _, _, x, a, h => by rw [x.2] at h; cases h
  | (y, d) :: ds, vs, p, x, a, h => by
    obtain ⟨v, ws, q, r, e, x1, x2, rfl⟩ := x
    exact (List.mem_append.mp h).elim (rep_there x1 a) (repF_there x2 a)
theorem repK_there : ∀ {ds : List (D × D)} {vs : List (Key × V)} {p : List Addr}, repK P w K F H ds vs p → ∀ a ∈ p, ∃ o, H a = some o ∧ Ow o
  | [], _, _, x, a, h => by rw [x.2] at h; cases h
  | (y, d) :: ds, vs, p, x, a, h => by
    obtain ⟨k, v, ws, q, r, ek, e, x1, x2, rfl⟩ := x
    exact (List.mem_append.mp h).elim (rep_there x1 a) (repK_there x2 a)
theorem repT_there : ∀ {ds : List (D × D)} {vs : List (NestedKey × Addr × Value)} {p : List Addr}, repT P w K F H ds vs p → ∀ a ∈ p, ∃ o, H a = some o ∧ Ow o
  | [], _, _, x, a, h => by rw [x.2] at h; cases h
  | (y, d) :: ds, vs, p, x, a, h => by
    obtain ⟨k, b, u, v, ws, q, r, ek, dp, e, x0, ru, x1, x2, rfl⟩ := x
    exact (List.mem_append.mp h).elim (rep_there x1 a) (repT_there x2 a)
end

/-! ### freezing: what is owned may be given out, and is changed no more -/
mutual
def fz : D → D
  | .lst true xs => .lst false (fzs xs)
  | .dic true kvs => .dic false (fzK kvs)
  | .ins true C fs => .ins false C (fzF fs)
  | d => d
def fzs : List D → List D
  | [] => []
  | d :: ds => fz d :: fzs ds
def fzF : List (Str × D) → List (Str × D)
  | [] => []
  | (x, d) :: ds => (x, fz d) :: fzF ds
def fzK : List (D × D) → List (D × D)
  | [] => []
  | (x, d) :: ds => (x, fz d) :: fzK ds
end
theorem own_fz {o : Bool} {a : Addr} {u : HO} {q p : List Addr} (x : own true F H a u q p) (h : ∀ b ∈ p, F' b) : own false F' H a u [] [] :=
  ⟨h a (by rw [x.2]; exact List.mem_cons_self), x.1, rfl, rfl⟩
theorem Stab.same (h : ∀ a, F a → F' a) {p : List Addr} : Stab F F' H H p := ⟨h, fun _ _ e _ _ => e⟩
mutual
theorem rep_fz (hF : ∀ a, F a → F' a) : ∀ {d : D} {v : V} {p : List Addr}, rep P w K F H d v p → (∀ a ∈ p, F' a) → rep P w K F' H (fz d) v []
  | .non, _, _, x, _ => ⟨x.1, rfl⟩
  | .bl _, _, _, x, _ => ⟨x.1, rfl⟩
  | .int _, _, _, x, _ => ⟨x.1, rfl⟩
  | .str _, _, _, x, _ => ⟨x.1, rfl⟩
  | .glob _, _, _, x, _ => ⟨x.1, rfl⟩
  | .ty _, _, _, x, _ => ⟨x.1, rfl⟩
  | .tup xs, v, p, x, h => by
    have e : p = [] := by obtain ⟨_, _, _, _, _, e⟩ := x; exact e
    subst e
    exact rep_mono x (Stab.same hF)
  | .lst true xs, v, p, x, h => by
    obtain ⟨a, vs, q, e, r, ow⟩ := x
    exact ⟨a, vs, [], e, reps_fz hF r fun b hb => h b (own_sub ow b hb), own_fz (o := true) ow h⟩
  | .lst false xs, v, p, x, h => by
    have e : p = [] := by obtain ⟨_, _, _, _, _, ow⟩ := x; exact ow.2.2.2
    subst e
    exact rep_mono x (Stab.same hF)
  | .dic true kvs, v, p, x, h => by
    obtain ⟨a, od, q, e, sm, ow, x⟩ := x
    refine ⟨a, od, [], e, sm, own_fz (o := true) ow h, ?_⟩
    rcases x with ⟨kv, vs, r, z⟩ | ⟨es, r, z⟩
    · exact .inl ⟨kv, vs, repK_fz hF r fun b hb => h b (own_sub ow b hb), z⟩
    · exact .inr ⟨es, repT_fz hF r fun b hb => h b (own_sub ow b hb), z⟩
  | .dic false kvs, v, p, x, h => by
    have e : p = [] := by obtain ⟨_, _, _, _, _, ow, _⟩ := x; exact ow.2.2.2
    subst e
    exact rep_mono x (Stab.same hF)
  | .ins true C fs, v, p, x, h => by
    obtain ⟨a, dx, gs, q, e, r, ow⟩ := x
    exact ⟨a, dx, gs, [], e, repF_fz hF r fun b hb => h b (own_sub ow b hb), own_fz (o := true) ow h⟩
  | .ins false C fs, v, p, x, h => by
    have e : p = [] := by obtain ⟨_, _, _, _, _, _, ow⟩ := x; exact ow.2.2.2
    subst e
    exact rep_mono x (Stab.same hF)
  | .err C fs, v, p, x, h => by
    have e : p = [] := by obtain ⟨_, _, _, _, _, e, _⟩ := x; exact e
    subst e
    exact rep_mono x (Stab.same hF)
  | .scr ns, v, p, x, h => by
    have e : p = [] := by obtain ⟨_, _, _, _, e⟩ := x; exact e
    subst e
    exact rep_mono x (Stab.same hF)
theorem reps_fz (hF : ∀ a, F a → F' a) : ∀ {ds : List D} {vs : List V} {p : List Addr}, reps P w K F H ds vs p → (∀ a ∈ p, F' a) → reps P w K F' H (fzs ds) vs []
  | [], _, _, x, _ => ⟨x.1, rfl⟩
  | d :: ds, vs, p, x, h => by
    obtain ⟨v, ws, q, r, e, x1, x2, rfl⟩ := x
    exact ⟨v, ws, [], [], e, rep_fz hF x1 fun a ha => h a (List.mem_append_left _ ha), reps_fz hF x2 fun a ha => h a (List.mem_append_right _ ha), rfl⟩
theorem repF_fz (hF : ∀ a, F a → F' a) : ∀ {ds : List (Str × D)} {vs : List (Str × V)} {p : List Addr}, repF P w K F H ds vs p → (∀ a ∈ p, F' a) → repF P w K F' H (fzF ds) vs []
  | [], _, _, x, _ => ⟨x.1, rfl⟩
  | (y, d) :: ds, vs, p, x, h => by
    obtain ⟨v, ws, q, r, e, x1, x2, rfl⟩ := x
    exact ⟨v, ws, [], [], e, rep_fz hF x1 fun a ha => h a (List.mem_append_left _ ha), repF_fz hF x2 fun a ha => h a (List.mem_append_right _ ha), rfl⟩
theorem repK_fz (hF : ∀ a, F a → F' a) : ∀ {ds : List (D × D)} {vs : List (Key × V)} {p : List Addr}, repK P w K F H ds vs p → (∀ a ∈ p, F' a) → repK P w K F' H (fzK ds) vs []
  | [], _, _, x, _ => ⟨x.1, rfl⟩
  | (y, d) :: ds, vs, p, x, h => by
    obtain ⟨k, v, ws, q, r, ek, e, x1, x2, rfl⟩ := x
    exact ⟨k, v, ws, [], [], ek, e, rep_fz hF x1 fun a ha => h a (List.mem_append_left _ ha), repK_fz hF x2 fun a ha => h a (List.mem_append_right _ ha), rfl⟩
theorem repT_fz (hF : ∀ a, F a → F' a) : ∀ {ds : List (D × D)} {vs : List (NestedKey × Addr × Value)} {p : List Addr}, repT P w K F H ds vs p → (∀ a ∈ p, F' a) → repT P w K F' H (fzK ds) vs []
  | [], _, _, x, _ => ⟨x.1, rfl⟩
  | (y, d) :: ds, vs, p, x, h => by
    obtain ⟨k, b, u, v, ws, q, r, ek, dp, e, x0, ru, x1, x2, rfl⟩ := x
    exact ⟨k, b, u, v, ws, [], [], ek, dp, e, rep_mono x0 (Stab.same hF), ru, rep_fz hF x1 fun a ha => h a (List.mem_append_left _ ha), repT_fz hF x2 fun a ha => h a (List.mem_append_right _ ha), rfl⟩
end
end
end DL

namespace DL
open PySem PySem.Spec PyProof.Rows L2
abbrev Env := List (Option D)
abbrev St := L2.St

/-- what has come between two states; m: the owned objects at p may have been changed -/
structure Ext (m : Bool) (F : FS) (H : Hp) (p : List Addr) (F' : FS) (H' : Hp) (p' : List Addr) : Prop where
  mono : ∀ a, F a → F' a
  keep : ∀ a o, H a = some o → (∀ ps, o ≠ .tbl ps) → (m = true → a ∉ p) → H' a = some o
  there : ∀ a, H a ≠ none → H' a ≠ none
  new : ∀ a, F' a → F a ∨ a ∈ p ∨ H a = none
  own : ∀ a ∈ p', a ∈ p ∨ H a = none

section
variable {m m1 m2 : Bool} {F F1 F2 F' : FS} {H H1 H2 H' : Hp} {p p1 p2 p' q : List Addr}
theorem Ext.refl : Ext m F H p F H p := ⟨fun _ h => h, fun _ _ h _ _ => h, fun _ h => h, fun _ h => .inl h, fun _ h => .inl h⟩
theorem Ext.up (x : Ext m F H p F' H' p') (h : m = true → m1 = true) : Ext m1 F H p F' H' p' :=
  ⟨x.mono, fun a o e nt z => x.keep a o e nt fun hm => z (h hm), x.there, x.new, x.own⟩
theorem Ext.any (x : Ext m F H p F' H' p') : Ext true F H p F' H' p' := x.up fun _ => rfl
theorem Ext.trans (x : Ext m F H p F1 H1 p1) (y : Ext m F1 H1 p1 F2 H2 p2) : Ext m F H p F2 H2 p2 where
  mono := fun a h => y.mono a (x.mono a h)
  keep := fun a o e nt z => y.keep a o (x.keep a o e nt z) nt fun hm h => (x.own a h).elim (z hm) fun n => by rw [n] at e; cases e
  there := fun a h => y.there a (x.there a h)
  new := fun a h => (y.new a h).elim (fun h => x.new a h) fun h => h.elim (fun h => (x.own a h).elim (fun h => .inr (.inl h)) fun n => .inr (.inr n)) fun n => by
    cases e : H a with
    | none => exact .inr (.inr rfl)
    | some o => exact absurd n (x.there a (by rw [e]; intro z; cases z))
  own := fun a h => (y.own a h).elim (fun h => x.own a h) fun n => by
    cases e : H a with
    | none => exact .inr rfl
    | some o => exact absurd n (x.there a (by rw [e]; intro z; cases z))
/-- more is owned beside: kept -/
theorem Ext.beside (x : Ext m F H p F' H' p') (l r : List Addr) : Ext m F H (l ++ p ++ r) F' H' (l ++ p' ++ r) where
  mono := x.mono
  keep := fun a o e nt z => x.keep a o e nt fun hm h => z hm (List.mem_append_left _ (List.mem_append_right _ h))
  there := x.there
  new := fun a h => (x.new a h).elim .inl fun h => h.elim (fun h => .inr (.inl (List.mem_append_left _ (List.mem_append_right _ h)))) fun n => .inr (.inr n)
  own := fun a h => (List.mem_append.mp h).elim (fun h => (List.mem_append.mp h).elim (fun h => .inl (List.mem_append_left _ (List.mem_append_left _ h))) fun h => (x.own a h).elim (fun h => .inl (List.mem_append_left _ (List.mem_append_right _ h))) .inr) fun h => .inl (List.mem_append_right _ h)
theorem Ext.sub (x : Ext m F H p F' H' p') (h : ∀ a ∈ p2, a ∈ p') : Ext m F H p F' H' p2 := ⟨x.mono, x.keep, x.there, x.new, fun a z => x.own a (h a z)⟩
theorem Ext.sup (x : Ext m F H p F' H' p') (h : ∀ a ∈ p, a ∈ p2) : Ext m F H p2 F' H' p' :=
  ⟨x.mono, fun a o e nt z => x.keep a o e nt fun hm y => z hm (h a y), x.there, fun a z => (x.new a z).elim .inl fun z => z.elim (fun z => .inr (.inl (h a z))) fun n => .inr (.inr n), fun a z => (x.own a z).elim (fun z => .inl (h a z)) .inr⟩
/-- data beside p stay -/
theorem Ext.stab (x : Ext m F H p F' H' p') (dis : ∀ a ∈ p, ¬ F a) (ow : ∀ a ∈ p, ∃ o, H a = some o ∧ Ow o) (hq : m = true → ∀ a ∈ q, a ∉ p) : Stab F F' H H' q :=
  ⟨x.mono, fun a o e nt z => x.keep a o e nt fun hm ha => by
    rcases z with z | z | ⟨xs, z⟩
    · exact dis a ha z
    · exact hq hm a z ha
    · obtain ⟨o', e', w⟩ := ow a ha
      rw [e] at e'
      cases e'
      rw [z] at w
      exact w⟩
/-- an object laid anew, not frozen -/
theorem Ext.laid {a : Addr} {o : HO} (h : H a = none) : Ext m F H p F (upd H a o) (a :: p) where
  mono := fun _ h => h
  keep := fun b u e _ _ => by rw [upd_ne (ne_of_none e h)]; exact e
  there := fun b z => by
    by_cases hb : b = a
    · rw [hb, upd_same]; intro q; cases q
    · rw [upd_ne hb]; exact z
  new := fun _ h => .inl h
  own := fun b hb => (List.mem_cons.mp hb).elim (fun e => .inr (by rw [e]; exact h)) .inl
theorem Ext.laid0 {a : Addr} {o : HO} (h : H a = none) : Ext m F H p F (upd H a o) p := (Ext.laid h).sub fun _ h => List.mem_cons_of_mem _ h
/-- frozen: what was owned, or is new -/
theorem Ext.freeze {q : List Addr} {r : List Addr} (h : ∀ a ∈ q, a ∈ p ∨ H a = none) (hr : ∀ a ∈ r, a ∈ p) : Ext m F H p (fun a => F a ∨ a ∈ q) H r where
  mono := fun _ h => .inl h
  keep := fun _ _ h _ _ => h
  there := fun _ h => h
  new := fun a z => z.elim .inl fun z => .inr (h a z)
  own := fun a z => .inl (hr a z)
end

/-- the frame that a reading stands in: T: the tables of lambdas' code; fx: slots that keep their value; W: what is wanted of exceptions -/
structure Ctx where
  X : Cx
  T : List (Addr × Str)
  fx : List Nat
  fv : Nat → V
  W : XK
abbrev Ctx.rep (C : Ctx) := DL.rep C.X.prog C.X.w C.X.K
abbrev Ctx.reps (C : Ctx) := DL.reps C.X.prog C.X.w C.X.K
abbrev Ctx.repF (C : Ctx) := DL.repF C.X.prog C.X.w C.X.K

section
variable (P : Program) (w : World) (K : PySem.W.Frag)
def repE (F : FS) (H : Hp) : Env → St → List Addr → Prop
  | [], σ, p => σ = [] ∧ p = []
  | none :: env, σ, p => ∃ x σ', σ = x :: σ' ∧ repE F H env σ' p
  | some d :: env, σ, p => ∃ v σ' q r, σ = some v :: σ' ∧ rep P w K F H d v q ∧ repE F H env σ' r ∧ p = q ++ r
end
section
variable {P : Program} {w : World} {K : PySem.W.Frag} {F F' : FS} {H H' : Hp}
theorem repE_mono : ∀ {env : Env} {σ : St} {p : List Addr}, repE P w K F H env σ p → Stab F F' H H' p → repE P w K F' H' env σ p
  | [], _, _, x, _ => x
  | none :: env, σ, p, ⟨x, σ', e, r⟩, s => ⟨x, σ', e, repE_mono r s⟩
  | some d :: env, σ, p, ⟨v, σ', q, r, e, x1, x2, h⟩, s => by
    subst h
    exact ⟨v, σ', q, r, e, rep_mono x1 s.left, repE_mono x2 s.right, rfl⟩
theorem repE_there : ∀ {env : Env} {σ : St} {p : List Addr}, repE P w K F H env σ p → ∀ a ∈ p, ∃ o, H a = some o ∧ Ow o
  | [], _, _, x, a, h => by rw [x.2] at h; cases h
  | none :: env, σ, p, ⟨x, σ', e, r⟩, a, h => repE_there r a h
  | some d :: env, σ, p, ⟨v, σ', q, r, e, x1, x2, hp⟩, a, h => by
    subst hp
    exact (List.mem_append.mp h).elim (rep_there x1 a) (repE_there x2 a)
theorem repE_len : ∀ {env : Env} {σ : St} {p : List Addr}, repE P w K F H env σ p → env.length = σ.length
  | [], _, _, x => by rw [x.1]; rfl
  | none :: env, σ, p, ⟨x, σ', e, r⟩ => by rw [e, List.length_cons, List.length_cons, repE_len r]
  | some d :: env, σ, p, ⟨v, σ', q, r, e, x1, x2, hp⟩ => by rw [e, List.length_cons, List.length_cons, repE_len x2]
/-- a slot taken out: what it holds, and what may be put there -/
theorem repE_at : ∀ {env : Env} {σ : St} {p : List Addr} {i : Nat} {d : D}, repE P w K F H env σ p → env[i]? = some (some d) →
    ∃ v l q r, σ[i]? = some (some v) ∧ rep P w K F H d v q ∧ p = l ++ (q ++ r) ∧ repE P w K F H (env.set i none) σ (l ++ r) ∧
      ∀ F' H' d' v' q', Stab F F' H H' (l ++ r) → rep P w K F' H' d' v' q' → repE P w K F' H' (env.set i (some d')) (σ.set i (some v')) (l ++ (q' ++ r))
  | [], _, _, i, d, x, e => by cases e
  | none :: env, σ, p, 0, d, x, e => by cases e
  | none :: env, σ, p, i + 1, d, ⟨x, σ', e, r⟩, h => by
    subst e
    obtain ⟨v, l, q, rr, h1, h2, h3, h4, h5⟩ := repE_at (i := i) r (by simpa using h)
    exact ⟨v, l, q, rr, by simpa using h1, h2, h3, ⟨x, σ', rfl, h4⟩, fun F' H' d' v' q' s z => ⟨x, _, rfl, h5 F' H' d' v' q' s z⟩⟩
  | some d0 :: env, σ, p, 0, d, ⟨v, σ', q, r, e, x1, x2, hp⟩, h => by
    subst e hp
    have ed : d0 = d := by simpa using h
    subst ed
    exact ⟨v, [], q, r, rfl, x1, rfl, ⟨_, σ', rfl, x2⟩, fun F' H' d' v' q' s z => ⟨v', σ', q', r, rfl, z, repE_mono x2 s, rfl⟩⟩
  | some d0 :: env, σ, p, i + 1, d, ⟨v0, σ', q0, r0, e, x1, x2, hp⟩, h => by
    subst e hp
    obtain ⟨v, l, q, rr, h1, h2, h3, h4, h5⟩ := repE_at (i := i) x2 (by simpa using h)
    refine ⟨v, q0 ++ l, q, rr, by simpa using h1, h2, by rw [h3, List.append_assoc], ⟨v0, σ', q0, l ++ rr, rfl, x1, h4, by rw [List.append_assoc]⟩, fun F' H' d' v' q' s z => ?_⟩
    have s' : Stab F F' H H' (q0 ++ (l ++ rr)) := by rw [← List.append_assoc]; exact s
    exact ⟨v0, _, q0, l ++ (q' ++ rr), rfl, rep_mono x1 s'.left, h5 F' H' d' v' q' s'.right z, by rw [List.append_assoc]⟩
/-- a slot that holds nothing (or whatever it holds is thrown away) gets data -/
theorem repE_put : ∀ {env : Env} {σ : St} {p : List Addr} {i : Nat}, repE P w K F H env σ p → i < env.length →
    ∃ l r, (∀ a ∈ l ++ r, a ∈ p) ∧ (p.Nodup → (l ++ r).Nodup) ∧ ∀ F' H' d' v' q', Stab F F' H H' (l ++ r) → rep P w K F' H' d' v' q' → repE P w K F' H' (env.set i (some d')) (σ.set i (some v')) (l ++ (q' ++ r))
  | [], _, _, i, x, e => by cases e
  | none :: env, σ, p, 0, ⟨x, σ', e, r⟩, _ => by
    subst e
    exact ⟨[], p, fun a h => h, fun h => h, fun F' H' d' v' q' s z => ⟨v', σ', q', p, rfl, z, repE_mono r s, rfl⟩⟩
  | some d0 :: env, σ, p, 0, ⟨v, σ', q, r, e, x1, x2, hp⟩, _ => by
    subst e hp
    exact ⟨[], r, fun a h => List.mem_append_right _ h, fun h => (List.nodup_append.mp h).2.1, fun F' H' d' v' q' s z => ⟨v', σ', q', r, rfl, z, repE_mono x2 s, rfl⟩⟩
  | none :: env, σ, p, i + 1, ⟨x, σ', e, r⟩, h => by
    subst e
    obtain ⟨l, rr, h1, h2, h3⟩ := repE_put (i := i) r (by simpa using h)
    exact ⟨l, rr, h1, h2, fun F' H' d' v' q' s z => ⟨x, _, rfl, h3 F' H' d' v' q' s z⟩⟩
  | some d0 :: env, σ, p, i + 1, ⟨v0, σ', q0, r0, e, x1, x2, hp⟩, h => by
    subst e hp
    obtain ⟨l, rr, h1, h2, h3⟩ := repE_put (i := i) x2 (by simpa using h)
    refine ⟨q0 ++ l, rr, fun a ha => ?_, fun hn => ?_, fun F' H' d' v' q' s z => ?_⟩
    · rw [List.append_assoc] at ha
      exact (List.mem_append.mp ha).elim (fun h => List.mem_append_left _ h) fun h => List.mem_append_right _ (h1 a h)
    · rw [List.append_assoc]
      obtain ⟨n1, n2, n3⟩ := List.nodup_append.mp hn
      exact List.nodup_append.mpr ⟨n1, h2 n2, fun a ha b hb => n3 a ha b (h1 b hb)⟩
    · have s' : Stab F F' H H' (q0 ++ (l ++ rr)) := by rw [← List.append_assoc]; exact s
      exact ⟨v0, _, q0, l ++ (q' ++ rr), rfl, rep_mono x1 s'.left, h3 F' H' d' v' q' s'.right z, by rw [List.append_assoc]⟩
end

/-- the frame's slots are the data env -/
structure Rel' (P : Program) (w : World) (K : PySem.W.Frag) (T : List (Addr × Str)) (fx : List Nat) (fv : Nat → V) (env : Env) (σ : St) (F : FS) (H : Hp) (p : List Addr) : Prop where
  slots : repE P w K F H env σ p
  nd : p.Nodup
  dis : ∀ a ∈ p, ¬ F a
  trk : ∀ a, F a → H a ≠ none
  tabs : LamX.Tabs T H
  fx : ∀ i, i ∈ fx → σ[i]? = some (some (fv i))
abbrev Rel (C : Ctx) (env : Env) (σ : St) (F : FS) (H : Hp) (p : List Addr) : Prop := Rel' C.X.prog C.X.w C.X.K C.T C.fx C.fv env σ F H p
theorem Rel.ow {C : Ctx} {env : Env} {σ : St} {F : FS} {H : Hp} {p : List Addr} (r : Rel C env σ F H p) : ∀ a ∈ p, ∃ o, H a = some o ∧ Ow o := repE_there r.slots
theorem Rel.there {C : Ctx} {env : Env} {σ : St} {F : FS} {H : Hp} {p : List Addr} (r : Rel C env σ F H p) : ∀ a ∈ p, H a ≠ none := fun a h => by
  obtain ⟨o, e, _⟩ := r.ow a h
  rw [e]
  intro z
  cases z

/-- values apart from the frame: what they own is theirs alone -/
structure Apart (F : FS) (q p : List Addr) : Prop where
  nd : q.Nodup
  dis : ∀ a ∈ q, a ∉ p
  fr : ∀ a ∈ q, ¬ F a
theorem Apart.nil {F : FS} {p : List Addr} : Apart F [] p := ⟨List.nodup_nil, (fun a h => absurd h (by simp)), (fun a h => absurd h (by simp))⟩
end DL

namespace DL
open PySem PySem.Spec PyProof.Rows L2
inductive Res where
  | val (d : D) | exc (c : Str) (fs : List (Str × D))
/-- a value that an operation gets: apart from the frame, or a slot's -/
inductive Ar where
  | tmp (d : D) | pk (i : Nat)
inductive ResL where
  | vals (as : List Ar) | exc (c : Str) (fs : List (Str × D))
abbrev XF := Env → Option (Res × Env)
abbrev AF := Env → Option (ResL × Env)

section
variable (C : Ctx)
def excD (F : FS) (H : Hp) (fs : List (Str × D)) (dx : Option Addr) : Prop :=
  (dx = none ∧ fs = []) ∨ ∃ d gs, dx = some d ∧ F d ∧ H d = some (.xd gs) ∧ C.repF F H fs gs []
def PostX (m : Bool) (F : FS) (H : Hp) (p : List Addr) (σ : St) (Q : VK) (r : Res) (env' : Env) : Prop :=
  match r with
  | .val d => ∀ v H' F' p' q, Ext m F H p F' H' (q ++ p') → Rel C env' σ F' H' p' → C.rep F' H' d v q → Apart F' q p' → Q v H'
  | .exc c fs => ∀ dx H' F' p', Ext m F H p F' H' p' → Rel C env' σ F' H' p' → excD C F' H' fs dx → C.W (.ref (He.ga C.X.K c)) dx H'
/-- an expression's reading -/
def TX (m : Bool) (f : XF) : TE := fun σ H Q => ∃ F p env, Rel C env σ F H p ∧ ∃ r env', f env = some (r, env') ∧ PostX C m F H p σ Q r env'
def arP (F : FS) (H : Hp) (σ : St) : List Ar → List V → List Addr → Prop
  | [], vs, p => vs = [] ∧ p = []
  | .tmp d :: as, vs, p => ∃ v ws q r, vs = v :: ws ∧ C.rep F H d v q ∧ arP F H σ as ws r ∧ p = q ++ r
  | .pk i :: as, vs, p => ∃ v ws, vs = v :: ws ∧ σ[i]? = some (some v) ∧ arP F H σ as ws p
def PostA (m : Bool) (F : FS) (H : Hp) (p : List Addr) (σ : St) (Q : List V → Hp → Prop) (r : ResL) (env' : Env) : Prop :=
  match r with
  | .vals as => ∀ vs H' F' p' q, Ext m F H p F' H' (q ++ p') → Rel C env' σ F' H' p' → arP C F' H' σ as vs q → Apart F' q p' → Q vs H'
  | .exc c fs => ∀ dx H' F' p', Ext m F H p F' H' p' → Rel C env' σ F' H' p' → excD C F' H' fs dx → C.W (.ref (He.ga C.X.K c)) dx H'
def TAX (m : Bool) (g : AF) : TA := fun σ H Q => ∃ F p env, Rel C env σ F H p ∧ ∃ r env', g env = some (r, env') ∧ PostA C m F H p σ Q r env'
end
section
variable {C : Ctx} {m : Bool} {F F' : FS} {H H' : Hp} {p p' q r : List Addr} {σ : St} {env : Env}
theorem arP_mono : ∀ {as : List Ar} {vs : List V} {p : List Addr}, arP C F H σ as vs p → Stab F F' H H' p → arP C F' H' σ as vs p
  | [], _, _, x, _ => x
  | .tmp d :: as, _, _, ⟨v, ws, q, r, e, x1, x2, hp⟩, s => by
    subst hp
    exact ⟨v, ws, q, r, e, rep_mono x1 s.left, arP_mono x2 s.right, rfl⟩
  | .pk i :: as, _, _, ⟨v, ws, e, x1, x2⟩, s => ⟨v, ws, e, x1, arP_mono x2 s⟩
theorem arP_there : ∀ {as : List Ar} {vs : List V} {p : List Addr}, arP C F H σ as vs p → ∀ a ∈ p, ∃ o, H a = some o ∧ Ow o
  | [], _, _, x, a, h => by rw [x.2] at h; cases h
  | .tmp d :: as, _, _, ⟨v, ws, q, r, e, x1, x2, hp⟩, a, h => by
    subst hp
    exact (List.mem_append.mp h).elim (rep_there x1 a) (arP_there x2 a)
  | .pk i :: as, _, _, ⟨v, ws, e, x1, x2⟩, a, h => arP_there x2 a h
theorem ne_of_ow (h : ∃ o, H a = some o ∧ Ow o) : H a ≠ none := by
  obtain ⟨o, e, _⟩ := h
  rw [e]
  intro z
  cases z
theorem Ext.apart (x : Ext m F H p F' H' r) (ap : Apart F q p) (th : ∀ a ∈ q, H a ≠ none) : (∀ a ∈ q, a ∉ r) ∧ ∀ a ∈ q, ¬ F' a :=
  ⟨fun a ha hr => (x.own a hr).elim (ap.dis a ha) (th a ha), fun a ha hf => (x.new a hf).elim (ap.fr a ha) fun z => z.elim (ap.dis a ha) (th a ha)⟩
theorem excD_mono {fs : List (Str × D)} {dx : Option Addr} (x : excD C F H fs dx) (s : Stab F F' H H' []) : excD C F' H' fs dx := by
  rcases x with x | ⟨d, gs, e, f, h, r⟩
  · exact .inl x
  · exact .inr ⟨d, gs, e, s.mono _ f, s.keep _ _ h (fun _ z => nomatch z) (.inl f), repF_mono r s⟩

theorem tx_imp {f : XF} {Q Q' : VK} (h : TX C m f σ H Q) (i : ∀ v H', Q v H' → Q' v H') : TX C m f σ H Q' := by
  obtain ⟨F, p, env, rel, r, env', e, post⟩ := h
  refine ⟨F, p, env, rel, r, env', e, ?_⟩
  cases r with
  | val d => exact fun v H' F' p' q x1 x2 x3 x4 => i _ _ (post v H' F' p' q x1 x2 x3 x4)
  | exc c fs => exact post
theorem tax_imp {f : AF} {Q Q' : List V → Hp → Prop} (h : TAX C m f σ H Q) (i : ∀ v H', Q v H' → Q' v H') : TAX C m f σ H Q' := by
  obtain ⟨F, p, env, rel, r, env', e, post⟩ := h
  refine ⟨F, p, env, rel, r, env', e, ?_⟩
  cases r with
  | vals d => exact fun v H' F' p' q x1 x2 x3 x4 => i _ _ (post v H' F' p' q x1 x2 x3 x4)
  | exc c fs => exact post

/-! ### operands -/
inductive Opd where
  | e (f : XF) | pk (i : Nat)
def tO (C : Ctx) (m : Bool) : Opd → TE
  | .e f => TX C m f
  | .pk i => tVar i
def nilA : AF := fun env => some (.vals [], env)
def consA (f : XF) (g : AF) : AF := fun env => match f env with
  | some (.val d, e1) => (match g e1 with
    | some (.vals as, e2) => some (.vals (.tmp d :: as), e2)
    | r => r)
  | some (.exc c fs, e1) => some (.exc c fs, e1)
  | none => none
def consP (i : Nat) (g : AF) : AF := fun env => match env[i]? with
  | some (some _) => (match g env with
    | some (.vals as, e2) => some (.vals (.pk i :: as), e2)
    | r => r)
  | _ => none
def consO : Opd → AF → AF
  | .e f, g => consA f g
  | .pk i, g => consP i g
theorem tax_nil {Q : List V → Hp → Prop} (h : TAX C m nilA σ H Q) : Q [] H := by
  obtain ⟨F, p, env, rel, r, env', e, post⟩ := h
  cases e
  exact post [] H F p [] Ext.refl rel ⟨rfl, rfl⟩ Apart.nil
theorem tax_cons {f : XF} {g : AF} {Q : List V → Hp → Prop} (h : TAX C m (consA f g) σ H Q) : TX C m f σ H fun x H1 => TAX C m g σ H1 fun xs H2 => Q (x :: xs) H2 := by
  obtain ⟨F, p, env, rel, r, env', e, post⟩ := h
  refine ⟨F, p, env, rel, ?_⟩
  unfold consA at e
  split at e
  · rename_i d e1 ef
    refine ⟨_, _, ef, fun v H1 F1 p1 q1 x1 rel1 rp1 ap1 => ?_⟩
    refine ⟨F1, p1, e1, rel1, ?_⟩
    have th : ∀ a ∈ q1, H1 a ≠ none := fun a ha => ne_of_ow (rep_there rp1 a ha)
    split at e
    · rename_i as e2 eg
      cases e
      refine ⟨_, _, eg, fun vs H2 F2 p2 q2 x2 rel2 rp2 ap2 => ?_⟩
      obtain ⟨n1, n2⟩ := x2.apart ap1 th
      refine post (v :: vs) H2 F2 p2 (q1 ++ q2) ?_ rel2 ⟨v, vs, q1, q2, rfl, rep_mono rp1 (x2.stab rel1.dis rel1.ow fun _ => ap1.dis), rp2, rfl⟩ ⟨?_, ?_, ?_⟩
      · have z := x2.beside q1 []
        rw [List.append_nil, List.append_nil, ← List.append_assoc] at z
        exact x1.trans z
      · exact List.nodup_append.mpr ⟨ap1.nd, ap2.nd, fun a ha b hb eb => n1 a ha (by rw [eb]; exact List.mem_append_left _ hb)⟩
      · intro a ha
        rcases List.mem_append.mp ha with ha | ha
        · exact fun hp => n1 a ha (List.mem_append_right _ hp)
        · exact ap2.dis a ha
      · intro a ha
        rcases List.mem_append.mp ha with ha | ha
        · exact n2 a ha
        · exact ap2.fr a ha
    · rename_i hn
      cases r with
      | vals as => exact absurd e (hn as _)
      | exc c fs => exact ⟨_, _, e, fun dx H2 F2 p2 x2 rel2 ed => post dx H2 F2 p2 ((x1.sub fun a h => List.mem_append_right _ h).trans x2) rel2 ed⟩
  · rename_i c fs e1 ef
    cases e
    exact ⟨_, _, ef, post⟩
  · cases e
theorem Rel.slot (rel : Rel C env σ F H p) {i : Nat} {d : D} (e : env[i]? = some (some d)) : ∃ v q, σ[i]? = some (some v) ∧ C.rep F H d v q ∧ ∀ a ∈ q, a ∈ p := by
  obtain ⟨v, l, q, r, h1, h2, h3, _, _⟩ := repE_at rel.slots e
  exact ⟨v, q, h1, h2, fun a ha => by rw [h3]; exact List.mem_append_right _ (List.mem_append_left _ ha)⟩
theorem tax_consP {i : Nat} {g : AF} {Q : List V → Hp → Prop} (h : TAX C m (consP i g) σ H Q) : tVar i σ H fun x H1 => TAX C m g σ H1 fun xs H2 => Q (x :: xs) H2 := by
  obtain ⟨F, p, env, rel, r, env', e, post⟩ := h
  unfold consP at e
  split at e
  · rename_i d ei
    obtain ⟨v, _, ev, _, _⟩ := rel.slot ei
    refine ⟨v, ev, F, p, env, rel, ?_⟩
    split at e
    · rename_i as e2 eg
      cases e
      exact ⟨_, _, eg, fun vs H2 F2 p2 q2 x2 rel2 rp2 ap2 => post (v :: vs) H2 F2 p2 q2 x2 rel2 ⟨v, vs, rfl, ev, rp2⟩ ap2⟩
    · rename_i hn
      cases r with
      | vals as => exact absurd e (hn as _)
      | exc c fs => exact ⟨_, _, e, post⟩
  · cases e
theorem tax_consO {o : Opd} {g : AF} {Q : List V → Hp → Prop} (h : TAX C m (consO o g) σ H Q) : tO C m o σ H fun x H1 => TAX C m g σ H1 fun xs H2 => Q (x :: xs) H2 := by
  cases o with
  | e f => exact tax_cons h
  | pk i => exact tax_consP h
theorem tax1 {a : Opd} {Q : List V → Hp → Prop} (h : TAX C m (consO a nilA) σ H Q) : tO C m a σ H fun x H1 => Q [x] H1 := by
  have z := tax_consO h
  cases a with
  | pk i => obtain ⟨v, e, z⟩ := z; exact ⟨v, e, tax_nil z⟩
  | e f => exact tx_imp z fun _ _ z => tax_nil z
end
end DL

namespace DL
open PySem PySem.Spec PyProof.Rows L2
section
variable {C : Ctx} {m : Bool} {F F' : FS} {H H' : Hp} {p p' q r : List Addr} {σ : St} {env : Env}
theorem peImp {X : Cx} {e : Expr} {t t' : TE} (h : PE X e t) (i : ∀ σ H Q, t' σ H Q → t σ H Q) : PE X e t' := ⟨fun pins s σ H Q I z => h.run pins s σ H Q I (i σ H Q z)⟩
theorem psImp {X : Cx} {e : Stmt} {t t' : TS} (h : PS X e t) (i : ∀ D σ H, t' D σ H → t D σ H) : PS X e t' := ⟨fun pins s σ H D I z => h.run pins s σ H D I (i D σ H z)⟩
theorem pssImp {X : Cx} {e : List Stmt} {t t' : TS} (h : PSs X e t) (i : ∀ D σ H, t' D σ H → t D σ H) : PSs X e t' := ⟨fun pins s σ H D I z => h.run pins s σ H D I (i D σ H z)⟩
theorem paImp {X : Cx} {e : List Expr} {t t' : TA} (h : PA X e t) (i : ∀ σ H Q, t' σ H Q → t σ H Q) : PA X e t' := ⟨fun pos pins s σ H Q I z => h.run pos pins s σ H Q I (i σ H Q z)⟩
theorem ptImp {X : Cx} {e : Expr} {t t' : TT} (h : PT X e t) (i : ∀ σ H Q, t' σ H Q → t σ H Q) : PT X e t' := ⟨fun pins s σ H Q I z => h.run pins s σ H Q I (i σ H Q z)⟩
theorem tO_imp {o : Opd} {Q Q' : VK} (h : tO C m o σ H Q) (i : ∀ v H', Q v H' → Q' v H') : tO C m o σ H Q' := by
  cases o with
  | e f => exact tx_imp h i
  | pk j => obtain ⟨v, e, z⟩ := h; exact ⟨v, e, i _ _ z⟩
theorem tax2 {a b : Opd} {Q : List V → Hp → Prop} (h : TAX C m (consO a (consO b nilA)) σ H Q) : tO C m a σ H fun x H1 => tO C m b σ H1 fun y H2 => Q [x, y] H2 :=
  tO_imp (tax_consO h) fun _ _ z => tO_imp (tax_consO z) fun _ _ z => tax_nil z
theorem tax3 {a b c : Opd} {Q : List V → Hp → Prop} (h : TAX C m (consO a (consO b (consO c nilA))) σ H Q) : tO C m a σ H fun x H1 => tO C m b σ H1 fun y H2 => tO C m c σ H2 fun z H3 => Q [x, y, z] H3 :=
  tO_imp (tax_consO h) fun _ _ z => tO_imp (tax_consO z) fun _ _ z => tO_imp (tax_consO z) fun _ _ z => tax_nil z
/-- argument lists -/
theorem px_nil : PA C.X [] (TAX C m nilA) := paImp pa_nil fun _ _ _ h => tax_nil h
theorem px_cons {e : Expr} {es : List Expr} {o : Opd} {g : AF} (he : PE C.X e (tO C m o)) (hs : PA C.X es (TAX C m g)) (hz : starEach (e :: es) C.X.env = (false, eval e C.X.env) :: starEach es C.X.env := by rfl) :
    PA C.X (e :: es) (TAX C m (consO o g)) := paImp (pa_cons he hs hz) fun _ _ _ h => tax_consO h

/-! ### operations that read, and make anew -/
def ress (env : Env) : List Ar → Option (List D)
  | [] => some []
  | .tmp d :: as => (ress env as).map (d :: ·)
  | .pk i :: as => match env[i]? with
    | some (some d) => (ress env as).map (d :: ·)
    | _ => none
def pop (g : AF) (φ : List D → Option D) : XF := fun env => match g env with
  | some (.vals as, e1) => (match ress e1 as with
    | some ds => (match φ ds with
      | some d => some (.val d, e1)
      | none => none)
    | none => none)
  | some (.exc c fs, e1) => some (.exc c fs, e1)
  | none => none
/-- data somewhere -/
def is (C : Ctx) (F : FS) (H : Hp) (d : D) (v : V) : Prop := ∃ q, C.rep F H d v q
def iss (C : Ctx) (F : FS) (H : Hp) : List D → List V → Prop
  | [], vs => vs = []
  | d :: ds, vs => ∃ v ws, vs = v :: ws ∧ is C F H d v ∧ iss C F H ds ws
/-- what an operation over values gives -/
def RdOK (C : Ctx) (φ : List D → Option D) (R : List V → Hp → VK → Prop) : Prop :=
  ∀ (F : FS) (H : Hp) (ds : List D) (vs : List V) (d : D) (Q : VK), iss C F H ds vs → (∀ a, F a → H a ≠ none) → φ ds = some d →
    (∀ v H' q, (∀ a o, H a = some o → H' a = some o) → (∀ a ∈ q, H a = none) → q.Nodup → C.rep F H' d v q → Q v H') → R vs H Q
theorem ress_iss (rel : Rel C env σ F H p) : ∀ {as : List Ar} {vs : List V} {q : List Addr} {ds : List D}, arP C F H σ as vs q → ress env as = some ds → iss C F H ds vs
  | [], vs, q, ds, x, e => by
    cases e
    exact x.1
  | .tmp d :: as, vs, q, ds, ⟨v, ws, q1, r, ev, x1, x2, _⟩, e => by
    unfold ress at e
    cases h : ress env as with
    | none => rw [h] at e; cases e
    | some z =>
      rw [h] at e
      cases e
      exact ⟨v, ws, ev, ⟨_, x1⟩, ress_iss rel x2 h⟩
  | .pk i :: as, vs, q, ds, ⟨v, ws, ev, x1, x2⟩, e => by
    unfold ress at e
    split at e
    · rename_i d hd
      cases h : ress env as with
      | none => rw [h] at e; cases e
      | some z =>
        rw [h] at e
        cases e
        obtain ⟨v', q', e', rp, _⟩ := rel.slot hd
        rw [x1] at e'
        cases e'
        exact ⟨v, ws, ev, ⟨_, rp⟩, ress_iss rel x2 h⟩
    · cases e
theorem Rel.grow (rel : Rel C env σ F H p) (g : ∀ a o, H a = some o → H' a = some o) : Rel C env σ F H' p where
  slots := repE_mono rel.slots ⟨fun _ h => h, fun a o e _ _ => g a o e⟩
  nd := rel.nd
  dis := rel.dis
  trk := fun a h => by
    cases e : H a with
    | none => exact absurd e (rel.trk a h)
    | some o => rw [g a o e]; intro z; cases z
  tabs := rel.tabs.ext g
  fx := rel.fx
theorem Ext.grow (g : ∀ a o, H a = some o → H' a = some o) (hq : ∀ a ∈ q, H a = none) : Ext m F H p F H' (q ++ p) where
  mono := fun _ h => h
  keep := fun a o e _ _ => g a o e
  there := fun a h => by
    cases e : H a with
    | none => exact absurd e h
    | some o => rw [g a o e]; intro z; cases z
  new := fun _ h => .inl h
  own := fun a h => (List.mem_append.mp h).elim (fun h => .inr (hq a h)) .inl
theorem pop_ok {g : AF} {φ : List D → Option D} {R : List V → Hp → VK → Prop} {Q : VK} (hk : RdOK C φ R) (h : TX C m (pop g φ) σ H Q) : TAX C m g σ H fun vs H' => R vs H' Q := by
  obtain ⟨F, p, env, rel, r, env', e, post⟩ := h
  refine ⟨F, p, env, rel, ?_⟩
  unfold pop at e
  split at e
  · rename_i as e1 eg
    refine ⟨_, _, eg, fun vs H1 F1 p1 q1 x1 rel1 ar1 ap1 => ?_⟩
    split at e
    · rename_i ds ed
      split at e
      · rename_i d hd
        cases e
        refine hk F1 H1 ds vs d Q (ress_iss rel1 ar1 ed) rel1.trk hd fun v H' q g fresh nd rp => ?_
        refine post v H' F1 p1 q ((x1.sub fun a h => List.mem_append_right _ h).trans (Ext.grow g fresh)) (rel1.grow g) rp ⟨nd, fun a ha hp => rel1.there a hp (fresh a ha), fun a ha hf => rel1.trk a hf (fresh a ha)⟩
      · cases e
    · cases e
  · rename_i c fs e1 eg
    cases e
    exact ⟨_, _, eg, post⟩
  · cases e
def R1 (r : V → Hp → VK → Prop) : List V → Hp → VK → Prop := fun vs H Q => ∃ x, vs = [x] ∧ r x H Q
def R2' (r : R2) : List V → Hp → VK → Prop := fun vs H Q => ∃ x y, vs = [x, y] ∧ r x y H Q
theorem x_bin {op : Operator} {r : R2} {φ : List D → Option D} {a b : Expr} {oa ob : Opd} {pos : Pos} (ho : OpR C.X (binaryOp op) r) (hk : RdOK C φ (R2' r)) (ha : PE C.X a (tO C m oa)) (hb : PE C.X b (tO C m ob)) :
    PE C.X (.BinOp a op b pos) (TX C m (pop (consO oa (consO ob nilA)) φ)) := peImp (pe_op ho ha hb) fun σ H Q h => tO_imp (tax2 (pop_ok hk h)) fun _ _ z => tO_imp z fun _ _ ⟨_, _, e, z⟩ => by
      cases e
      exact z
theorem x_cmp {op : CmpOp} {r : R2} {φ : List D → Option D} {a b : Expr} {oa ob : Opd} {pos : Pos} (ho : OpR C.X (compareOp op) r) (hk : RdOK C φ (R2' r)) (ha : PE C.X a (tO C m oa)) (hb : PE C.X b (tO C m ob)) (hm : behindInMarks op b = false) :
    PE C.X (.Compare a [op] [b] pos) (TX C m (pop (consO oa (consO ob nilA)) φ)) := peImp (pe_cmpR ho ha hb hm) fun σ H Q h => tO_imp (tax2 (pop_ok hk h)) fun _ _ z => tO_imp z fun _ _ ⟨_, _, e, z⟩ => by
      cases e
      exact z
theorem x_un {op : UnaryOp} {r : V → Hp → VK → Prop} {φ : List D → Option D} {a : Expr} {oa : Opd} {pos : Pos} (ho : UnR C.X (unaryOp op) r) (hk : RdOK C φ (R1 r)) (ha : PE C.X a (tO C m oa)) :
    PE C.X (.UnaryOp op a pos) (TX C m (pop (consO oa nilA) φ)) := peImp (pe_un ho ha) fun σ H Q h => tO_imp (tax1 (pop_ok hk h)) fun _ _ ⟨_, e, z⟩ => by
      cases e
      exact z
theorem x_ix {r : R2} {φ : List D → Option D} {a b : Expr} {oa ob : Opd} {pos : Pos} (ho : IxR C.X r) (hk : RdOK C φ (R2' r)) (ha : PE C.X a (tO C m oa)) (hb : PE C.X b (tO C m ob)) (hp : PlainIx b) :
    PE C.X (.Subscript a b pos) (TX C m (pop (consO oa (consO ob nilA)) φ)) := peImp (pe_ix ho ha hb hp) fun σ H Q h => tO_imp (tax2 (pop_ok hk h)) fun _ _ z => tO_imp z fun _ _ ⟨_, _, e, z⟩ => by
      cases e
      exact z
/-- a built-in function or class called by its name -/
theorem x_callB {id : String} {r : List V → Hp → VK → Prop} {φ : List D → Option D} {x : Str} {p pos : Pos} {e : Expr} {es : List Expr} {g : AF} (hc : CallR C.X (.builtin id) r) (hk : RdOK C φ r) (hg : Gl C.X x) (hm : C.X.mg x = none) (hv : bootBuiltins x = some (.builtin id)) (ha : PA C.X (e :: es) (TAX C m g)) (hn : x ≠ "__name__" := by decide) (hdb : (x == ("__debug__" : Str)) = false := by decide)
    (he : starEach (e :: es) C.X.env = (false, eval e C.X.env) :: starEach es C.X.env := by rfl) (hpl : (backTo pos (starEach es C.X.env)).any (·.1) = false := by rfl) : PE C.X (.Call (.Name x p) (e :: es) [] pos) (TX C m (pop g φ)) :=
  peImp (pe_callB hc hg hm hv ha hn hdb he hpl) fun _ _ _ h => pop_ok hk h
theorem x_callT {id : String} {r : List V → Hp → VK → Prop} {φ : List D → Option D} {x : Str} {p pos : Pos} {e : Expr} {es : List Expr} {g : AF} (hc : CallR C.X (.type id) r) (hk : RdOK C φ r) (hg : Gl C.X x) (hm : C.X.mg x = none) (hv : bootBuiltins x = some (.type id)) (ha : PA C.X (e :: es) (TAX C m g)) (hn : x ≠ "__name__" := by decide) (hdb : (x == ("__debug__" : Str)) = false := by decide)
    (he : starEach (e :: es) C.X.env = (false, eval e C.X.env) :: starEach es C.X.env := by rfl) (hpl : (backTo pos (starEach es C.X.env)).any (·.1) = false := by rfl) : PE C.X (.Call (.Name x p) (e :: es) [] pos) (TX C m (pop g φ)) :=
  peImp (pe_callTy hc hg hm hv ha hn hdb he hpl) fun _ _ _ h => pop_ok hk h

/-! ### what is known of data -/
theorem is_int {i : Int} {v : V} (h : is C F H (.int i) v) : v = .int i := by obtain ⟨_, h, _⟩ := h; exact h
theorem is_bl {i : Bool} {v : V} (h : is C F H (.bl i) v) : v = .bl i := by obtain ⟨_, h, _⟩ := h; exact h
theorem is_str {i : Str} {v : V} (h : is C F H (.str i) v) : v = .str i := by obtain ⟨_, h, _⟩ := h; exact h
theorem is_non {v : V} (h : is C F H .non v) : v = .non := by obtain ⟨_, h, _⟩ := h; exact h
theorem is_tup {xs : List D} {v : V} (h : is C F H (.tup xs) v) : ∃ a vs, v = .ref a ∧ H a = some (.tup vs) ∧ C.reps F H xs vs [] := by
  obtain ⟨_, a, vs, e, h, r, _⟩ := h
  exact ⟨a, vs, e, h, r⟩
theorem is_lst {o : Bool} {xs : List D} {v : V} (h : is C F H (.lst o xs) v) : ∃ a vs q, v = .ref a ∧ H a = some (.lst vs) ∧ C.reps F H xs vs q ∧ (o = false → q = []) := by
  obtain ⟨_, a, vs, q, e, r, ow⟩ := h
  cases o with
  | true => exact ⟨a, vs, q, e, ow.1, r, fun z => by cases z⟩
  | false => exact ⟨a, vs, q, e, ow.2.1, r, fun _ => ow.2.2.1⟩
theorem reps_len : ∀ {ds : List D} {vs : List V} {q : List Addr}, C.reps F H ds vs q → ds.length = vs.length
  | [], _, _, x => by rw [x.1]; rfl
  | d :: ds, _, _, ⟨v, ws, q, r, e, x1, x2, _⟩ => by rw [e, List.length_cons, List.length_cons, reps_len x2]
theorem reps_append : ∀ {ds es : List D} {vs ws : List V} {q r : List Addr}, C.reps F H ds vs q → C.reps F H es ws r → C.reps F H (ds ++ es) (vs ++ ws) (q ++ r)
  | [], _, _, _, _, _, x, y => by
    obtain ⟨rfl, rfl⟩ := x
    exact y
  | d :: ds, _, _, _, _, _, ⟨v, ws, q, r, e, x1, x2, h⟩, y => by
    subst e h
    exact ⟨v, _, q, _, rfl, x1, reps_append x2 y, by rw [List.append_assoc]⟩
theorem reps_at : ∀ {ds : List D} {vs : List V} {q : List Addr} {i : Nat} {d : D}, C.reps F H ds vs q → ds[i]? = some d → ∃ v q', vs[i]? = some v ∧ C.rep F H d v q' ∧ ∀ a ∈ q', a ∈ q
  | [], _, _, i, d, x, e => by cases e
  | d0 :: ds, _, _, 0, d, ⟨v, ws, q, r, e, x1, x2, h⟩, ed => by
    subst e h
    cases ed
    exact ⟨v, q, rfl, x1, fun a h => List.mem_append_left _ h⟩
  | d0 :: ds, _, _, i + 1, d, ⟨v, ws, q, r, e, x1, x2, h⟩, ed => by
    subst e h
    obtain ⟨v', q', h1, h2, h3⟩ := reps_at (i := i) x2 (by simpa using ed)
    exact ⟨v', q', by simpa using h1, h2, fun a h => List.mem_append_right _ (h3 a h)⟩
theorem reps_nil_of : ∀ {ds : List D} {vs : List V}, C.reps F H ds vs [] → ∀ (i : Nat) (d : D) (v : V), ds[i]? = some d → vs[i]? = some v → C.rep F H d v []
  | [], _, _, i, d, v, e, _ => by cases e
  | d0 :: ds, _, ⟨v0, ws, q, r, e, x1, x2, h⟩, i, d, v, ed, ev => by
    obtain ⟨rfl, rfl⟩ := List.append_eq_nil_iff.mp h.symm
    subst e
    cases i with
    | zero => cases ed; cases ev; exact x1
    | succ i => exact reps_nil_of x2 i d v (by simpa using ed) (by simpa using ev)
/-- nothing is owned -/
def fro : D → Bool
  | .lst true _ | .dic true _ | .ins true _ _ => false
  | _ => true
theorem fro_nil {d : D} {v : V} {q : List Addr} (h : fro d = true) (x : C.rep F H d v q) : q = [] := by
  cases d with
  | non => exact x.2
  | bl => exact x.2
  | int => exact x.2
  | str => exact x.2
  | glob => exact x.2
  | ty => exact x.2
  | tup xs => obtain ⟨_, _, _, _, _, e⟩ := x; exact e
  | lst o xs =>
    cases o with
    | true => cases h
    | false => obtain ⟨_, _, _, _, _, ow⟩ := x; exact ow.2.2.2
  | dic o xs =>
    cases o with
    | true => cases h
    | false => obtain ⟨_, _, _, _, _, ow, _⟩ := x; exact ow.2.2.2
  | ins o xs =>
    cases o with
    | true => cases h
    | false => obtain ⟨_, _, _, _, _, _, ow⟩ := x; exact ow.2.2.2
  | err => obtain ⟨_, _, _, _, _, e, _⟩ := x; exact e
  | scr => obtain ⟨_, _, _, _, e⟩ := x; exact e
theorem reps_fro : ∀ {ds : List D} {vs : List V} {q : List Addr}, ds.all fro = true → C.reps F H ds vs q → q = []
  | [], _, _, _, x => x.2
  | d :: ds, _, _, h, ⟨v, ws, q, r, e, x1, x2, hq⟩ => by
    rw [List.all_cons, Bool.and_eq_true] at h
    rw [hq, fro_nil h.1 x1, reps_fro h.2 x2]
    rfl
theorem grow_upd {a : Addr} {o : HO} (h : H a = none) : ∀ b u, H b = some u → upd H a o b = some u := fun b u e => by rw [upd_ne (ne_of_none e h)]; exact e
theorem Stab.grow (g : ∀ a o, H a = some o → H' a = some o) : Stab F F H H' p := ⟨fun _ h => h, fun a o e _ _ => g a o e⟩
/-- a new list of frozen items -/
theorem new_lst {ds : List D} {vs : List V} {a : Addr} (x : C.reps F H ds vs []) (h : H a = none) : C.rep F (upd H a (.lst vs)) (.lst true ds) (.ref a) [a] :=
  ⟨a, vs, [], rfl, reps_mono x (Stab.grow (grow_upd h)), upd_same, rfl⟩
theorem new_tup {ds : List D} {vs : List V} {a : Addr} (x : C.reps F H ds vs []) (h : H a = none) : C.rep F (upd H a (.tup vs)) (.tup ds) (.ref a) [] :=
  ⟨a, vs, rfl, upd_same, reps_mono x (Stab.grow (grow_upd h)), rfl⟩
end
end DL

namespace DL
open PySem PySem.Spec PyProof.Rows L2
abbrev SZ : Nat := 16777216
theorem le_line {n : Nat} (h : n ≤ SZ) : n ≤ sizeLine := by rw [sizeLine_eq]; exact h
section
variable {C : Ctx} {m : Bool} {F F' : FS} {H H' : Hp} {p p' q r : List Addr} {σ : St} {env : Env}
theorem iss1 {a : D} {vs : List V} (h : iss C F H [a] vs) : ∃ x, vs = [x] ∧ is C F H a x := by
  obtain ⟨x, ws, rfl, h1, rfl⟩ := h
  exact ⟨x, rfl, h1⟩
theorem iss2 {a b : D} {vs : List V} (h : iss C F H [a, b] vs) : ∃ x y, vs = [x, y] ∧ is C F H a x ∧ is C F H b y := by
  obtain ⟨x, ws, rfl, h1, y, ws', rfl, h2, rfl⟩ := h
  exact ⟨x, y, rfl, h1, h2⟩
theorem iss3 {a b c : D} {vs : List V} (h : iss C F H [a, b, c] vs) : ∃ x y z, vs = [x, y, z] ∧ is C F H a x ∧ is C F H b y ∧ is C F H c z := by
  obtain ⟨x, ws, rfl, h1, y, ws', rfl, h2, z, ws'', rfl, h3, rfl⟩ := h
  exact ⟨x, y, z, rfl, h1, h2, h3⟩
/-- an answer that makes nothing -/
theorem flat {d : D} {v : V} {Q : VK} (h : ∀ v H' q, (∀ a o, H a = some o → H' a = some o) → (∀ a ∈ q, H a = none) → q.Nodup → C.rep F H' d v q → Q v H') (rp : C.rep F H d v []) : Q v H :=
  h v H [] (fun _ _ e => e) (fun _ h => by cases h) List.nodup_nil rp

/-! ### numbers -/
def φI (f : Int → Int → Option D) : List D → Option D
  | [.int i, .int j] => f i j
  | _ => none
theorem φI_some {f : Int → Int → Option D} {ds : List D} {d : D} (h : φI f ds = some d) : ∃ i j, ds = [.int i, .int j] ∧ f i j = some d := by
  unfold φI at h
  split at h
  · exact ⟨_, _, rfl, h⟩
  · cases h
def φAdd : List D → Option D
  | [.int i, .int j] => some (.int (i + j))
  | [.str x, .str y] => if x.length + y.length ≤ SZ then some (.str (x ++ y)) else none
  | [.tup xs, .tup ys] => if xs.length + ys.length ≤ SZ then some (.tup (xs ++ ys)) else none
  | [.lst _ xs, .lst _ ys] => if xs.length + ys.length ≤ SZ ∧ xs.all fro = true ∧ ys.all fro = true then some (.lst true (xs ++ ys)) else none
  | _ => none
abbrev rAddS : R2 := fun x y H Q => ∃ i j, x = .str i ∧ y = .str j ∧ i.length + j.length ≤ sizeLine ∧ Q (.str (i ++ j)) H
abbrev rAddI : R2 := rI0 fun i j => .int (i + j)
abbrev rAddA (K : PySem.W.Frag) : R2 := fun x y H Q => rAddI x y H Q ∨ (rAddS x y H Q ∨ (rCatA K x y H Q ∨ rCat x y H Q))
theorem op_addA : OpR C.X (binaryOp .Add) (fun x y H Q => rAddI x y H Q ∨ (fun x y H Q => rAddS x y H Q ∨ (fun x y H Q => rCatA C.X.K x y H Q ∨ rCat x y H Q) x y H Q) x y H Q) := op_add.or (op_add_str.or (op_catA.or op_cat))
theorem ok_add : RdOK C φAdd (R2' (rAddA C.X.K)) := by
  intro F H ds vs d Q hs trk e h
  unfold φAdd at e
  split at e
  · rename_i i j
    cases e
    obtain ⟨x, y, rfl, h1, h2⟩ := iss2 hs
    cases is_int h1
    cases is_int h2
    exact ⟨_, _, rfl, .inl ⟨i, j, rfl, rfl, flat h ⟨rfl, rfl⟩⟩⟩
  · rename_i i j
    split at e
    · rename_i hl
      cases e
      obtain ⟨x, y, rfl, h1, h2⟩ := iss2 hs
      cases is_str h1
      cases is_str h2
      exact ⟨_, _, rfl, .inr (.inl ⟨i, j, rfl, rfl, le_line hl, flat h ⟨rfl, rfl⟩⟩)⟩
    · cases e
  · rename_i xs ys
    split at e
    · rename_i hl
      cases e
      obtain ⟨x, y, rfl, h1, h2⟩ := iss2 hs
      obtain ⟨a, us, rfl, ha, ra⟩ := is_tup h1
      obtain ⟨b, ws, rfl, hb, rb⟩ := is_tup h2
      have l1 := reps_len ra
      have l2 := reps_len rb
      refine ⟨_, _, rfl, .inr (.inr (.inl ⟨a, b, us, ws, rfl, rfl, SqT.of ha, SqT.of hb, le_line (by rw [← l1, ← l2]; exact hl), fun e => ?_, fun _ e => ?_, fun _ _ p hp => ?_⟩))⟩
      · have : xs = [] := List.length_eq_zero_iff.mp (by rw [l1, e]; rfl)
        rw [this] at h
        exact flat h ⟨b, ws, rfl, hb, rb, rfl⟩
      · have : ys = [] := List.length_eq_zero_iff.mp (by rw [l2, e]; rfl)
        rw [this, List.append_nil] at h
        exact flat h ⟨a, us, rfl, ha, ra, rfl⟩
      · exact h _ _ [] (grow_upd hp) (fun _ h => by cases h) List.nodup_nil (new_tup (reps_append ra rb) hp)
    · cases e
  · rename_i o xs o' ys
    split at e
    · rename_i hl
      cases e
      obtain ⟨x, y, rfl, h1, h2⟩ := iss2 hs
      obtain ⟨a, us, q1, rfl, ha, ra, _⟩ := is_lst h1
      obtain ⟨b, ws, q2, rfl, hb, rb, _⟩ := is_lst h2
      have e1 := reps_fro hl.2.1 ra
      have e2 := reps_fro hl.2.2 rb
      subst e1 e2
      have l1 := reps_len ra
      have l2 := reps_len rb
      refine ⟨_, _, rfl, .inr (.inr (.inr ⟨a, b, us, ws, rfl, rfl, ha, hb, le_line (by rw [← l1, ← l2]; exact hl.1), fun p hp => ?_⟩))⟩
      exact h _ _ [p] (grow_upd hp) (fun a h => by cases List.mem_singleton.mp h; exact hp) (by simp) (new_lst (reps_append ra rb) hp)
    · cases e
  · cases e
theorem ok_int {f : Int → Int → Option D} {r : R2} (hr : ∀ i j d (H : Hp) (Q : VK), f i j = some d → ∃ k, d = .int k ∧ (Q (.int k) H → r (.int i) (.int j) H Q)) : RdOK C (φI f) (R2' r) := by
  intro F H ds vs d Q hs trk e h
  obtain ⟨i, j, rfl, e⟩ := φI_some e
  obtain ⟨x, y, rfl, h1, h2⟩ := iss2 hs
  cases is_int h1
  cases is_int h2
  obtain ⟨k, rfl, z⟩ := hr i j d H Q e
  exact ⟨_, _, rfl, z (flat h ⟨rfl, rfl⟩)⟩
theorem ok_intB {f : Int → Int → Bool} : RdOK C (φI fun i j => some (.bl (f i j))) (R2' (rI0 fun i j => .bl (f i j))) := by
  intro F H ds vs d Q hs trk e h
  obtain ⟨i, j, rfl, e⟩ := φI_some e
  cases e
  obtain ⟨x, y, rfl, h1, h2⟩ := iss2 hs
  cases is_int h1
  cases is_int h2
  exact ⟨_, _, rfl, i, j, rfl, rfl, flat h ⟨rfl, rfl⟩⟩
def φSub := φI fun i j => some (.int (i - j))
theorem ok_sub : RdOK C φSub (R2' (rI0 fun i j => .int (i - j))) := ok_int fun i j d H Q e => by
  cases e
  exact ⟨_, rfl, fun q => ⟨i, j, rfl, rfl, q⟩⟩
def φMod := φI fun i j => if 0 < j then some (.int (i % j)) else none
theorem ok_mod : RdOK C φMod (R2' (rI (fun _ j => 0 < j) fun i j => .int (i % j))) := ok_int fun i j d H Q e => by
  split at e
  · rename_i hj
    cases e
    exact ⟨_, rfl, fun q => ⟨i, j, rfl, rfl, hj, q⟩⟩
  · cases e
def φDiv := φI fun i j => if 0 < j ∧ j < 1073741824 then some (.int (i / j)) else none
theorem ok_div : RdOK C φDiv (R2' (rI CDiv fun i j => .int (i / j))) := ok_int fun i j d H Q e => by
  split at e
  · rename_i hj
    cases e
    exact ⟨_, rfl, fun q => ⟨i, j, rfl, rfl, hj, q⟩⟩
  · cases e
def φPow := φI fun i j => if 0 ≤ j ∧ j ≤ 1000000 ∧ i.natAbs < 18446744073709551616 then some (.int (i ^ j.toNat)) else none
theorem ok_pow : RdOK C φPow (R2' (rI CPow fun i j => .int (i ^ j.toNat))) := ok_int fun i j d H Q e => by
  split at e
  · rename_i hj
    cases e
    exact ⟨_, rfl, fun q => ⟨i, j, rfl, rfl, hj, q⟩⟩
  · cases e
/-- a product of ints (one of them small), a list or a tuple repeated -/
def φMul : List D → Option D
  | [.int i, .int j] => if (-18446744073709551616 < i ∧ i < 18446744073709551616) ∨ (-18446744073709551616 < j ∧ j < 18446744073709551616) then some (.int (i * j)) else none
  | [.lst _ xs, .int k] => if -9223372036854775808 ≤ k ∧ k < 9223372036854775808 ∧ xs.length * k.toNat ≤ SZ ∧ xs.all fro = true then some (.lst true (List.replicate k.toNat xs).flatten) else none
  | [.tup xs, .int k] => if xs ≠ [] ∧ 2 ≤ k ∧ k ≤ 1000 ∧ xs.length ≤ 1000 then some (.tup (List.replicate k.toNat xs).flatten) else none
  | _ => none
abbrev rMulI : R2 := rI CMul fun i j => .int (i * j)
theorem op_mulA : OpR C.X (binaryOp .Mult) (fun x y H Q => rMulI x y H Q ∨ (fun x y H Q => rRep x y H Q ∨ rRepT C.X.K x y H Q) x y H Q) := op_mul.or (op_rep.or op_repT)
theorem reps_rep {ds : List D} {vs : List V} (x : C.reps F H ds vs []) : ∀ n : Nat, C.reps F H (List.replicate n ds).flatten (List.replicate n vs).flatten []
  | 0 => ⟨rfl, rfl⟩
  | n + 1 => by
    rw [List.replicate_succ, List.replicate_succ, List.flatten_cons, List.flatten_cons]
    exact reps_append (q := []) (r := []) x (reps_rep x n)
theorem ok_mul : RdOK C φMul (R2' fun x y H Q => rMulI x y H Q ∨ (rRep x y H Q ∨ rRepT C.X.K x y H Q)) := by
  intro F H ds vs d Q hs trk e h
  unfold φMul at e
  split at e
  · rename_i i j
    split at e
    · rename_i hl
      cases e
      obtain ⟨x, y, rfl, h1, h2⟩ := iss2 hs
      cases is_int h1
      cases is_int h2
      exact ⟨_, _, rfl, .inl ⟨i, j, rfl, rfl, hl, flat h ⟨rfl, rfl⟩⟩⟩
    · cases e
  · rename_i o xs k
    split at e
    · rename_i hl
      cases e
      obtain ⟨x, y, rfl, h1, h2⟩ := iss2 hs
      obtain ⟨a, us, q1, rfl, ha, ra, _⟩ := is_lst h1
      cases is_int h2
      have e1 := reps_fro hl.2.2.2 ra
      subst e1
      have l1 := reps_len ra
      refine ⟨_, _, rfl, .inr (.inl ⟨a, k, us, rfl, rfl, ha, hl.1, hl.2.1, le_line (by rw [← l1]; exact hl.2.2.1), fun p hp => ?_⟩)⟩
      exact h _ _ [p] (grow_upd hp) (fun a h => by cases List.mem_singleton.mp h; exact hp) (by simp) (new_lst (reps_rep ra _) hp)
    · cases e
  · rename_i xs k
    split at e
    · rename_i hl
      cases e
      obtain ⟨x, y, rfl, h1, h2⟩ := iss2 hs
      obtain ⟨a, us, rfl, ha, ra⟩ := is_tup h1
      cases is_int h2
      have l1 := reps_len ra
      refine ⟨_, _, rfl, .inr (.inr ⟨a, k, us, rfl, rfl, SqT.of ha, fun z => hl.1 (List.length_eq_zero_iff.mp (by rw [l1, z]; rfl)), hl.2.1, hl.2.2.1, by rw [← l1]; exact hl.2.2.2, fun p hp => ?_⟩)⟩
      exact h _ _ [] (grow_upd hp) (fun _ h => by cases h) List.nodup_nil (new_tup (reps_rep ra _) hp)
    · cases e
  · cases e
def φNeg : List D → Option D
  | [.int i] => some (.int (-i))
  | _ => none
theorem ok_neg : RdOK C φNeg (R1 (rU fun i => .int (-i))) := by
  intro F H ds vs d Q hs trk e h
  unfold φNeg at e
  split at e
  · rename_i i
    cases e
    obtain ⟨x, rfl, h1⟩ := iss1 hs
    cases is_int h1
    exact ⟨_, rfl, i, rfl, flat h ⟨rfl, rfl⟩⟩
  · cases e

/-! ### == and != -/
mutual
def toPy : D → Option PyData
  | .non => some .none
  | .bl b => some (.bool b)
  | .int i => some (.int i)
  | .str x => some (.str x)
  | .tup xs => (toPys xs).map PyData.tuple
  | .lst _ xs => (toPys xs).map PyData.list
  | _ => none
def toPys : List D → Option (List PyData)
  | [] => some []
  | d :: ds => match toPy d, toPys ds with
    | some x, some xs => some (x :: xs)
    | _, _ => none
end
mutual
theorem rep_dp : ∀ {d : D} {v : V} {q : List Addr} {y : PyData}, C.rep F H d v q → toPy d = some y → Dp C.X.K H v y
  | .non, _, _, _, x, e => by cases e; rw [x.1]; exact .non
  | .bl b, _, _, _, x, e => by cases e; rw [x.1]; exact .bl b
  | .int i, _, _, _, x, e => by cases e; rw [x.1]; exact .int i
  | .str z, _, _, _, x, e => by cases e; rw [x.1]; exact .str z
  | .tup xs, _, _, y, x, e => by
    obtain ⟨a, vs, rfl, h, r, _⟩ := x
    unfold toPy at e
    cases ex : toPys xs with
    | none => rw [ex] at e; cases e
    | some ys => rw [ex] at e; cases e; exact .tup (SqT.of h) (reps_dp r ex)
  | .lst o xs, _, _, y, x, e => by
    obtain ⟨a, vs, q, rfl, h, r, _⟩ := is_lst ⟨_, x⟩
    unfold toPy at e
    cases ex : toPys xs with
    | none => rw [ex] at e; cases e
    | some ys => rw [ex] at e; cases e; exact .lst (SqL.of h) (reps_dp r ex)
  | .glob _, _, _, _, _, e => by cases e
  | .ty _, _, _, _, _, e => by cases e
  | .dic _ _, _, _, _, _, e => by cases e
  | .ins _ _ _, _, _, _, _, e => by cases e
  | .err _ _, _, _, _, _, e => by cases e
  | .scr _, _, _, _, _, e => by cases e
theorem reps_dp : ∀ {ds : List D} {vs : List V} {q : List Addr} {ys : List PyData}, C.reps F H ds vs q → toPys ds = some ys → DpAll C.X.K H vs ys
  | [], _, _, _, x, e => by cases e; rw [x.1]; exact .nil
  | d :: ds, _, _, ys, ⟨v, ws, q, r, e1, x1, x2, _⟩, e => by
    subst e1
    unfold toPys at e
    split at e
    · rename_i z zs h1 h2
      cases e
      exact .cons (rep_dp x1 h1) (reps_dp x2 h2)
    · cases e
end
def eqD (a b : D) : Option Bool := match toPy a, toPy b with
  | some x, some y => if SeqAt.shaped x = true ∧ SeqAt.shaped y = true then some (PyData.eqv x y) else none
  | _, _ => none
def φEq : List D → Option D
  | [a, b] => (eqD a b).map D.bl
  | _ => none
def φNe : List D → Option D
  | [a, b] => (eqD a b).map fun x => D.bl !x
  | _ => none
theorem eqD_some {a b : D} {k : Bool} {x y : V} (e : eqD a b = some k) (h1 : is C F H a x) (h2 : is C F H b y) : ∃ d e, Dp C.X.K H x d ∧ Dp C.X.K H y e ∧ SeqAt.shaped d = true ∧ SeqAt.shaped e = true ∧ k = PyData.eqv d e := by
  unfold eqD at e
  split at e
  · rename_i u z e1 e2
    split at e
    · rename_i hs
      cases e
      obtain ⟨_, h1⟩ := h1
      obtain ⟨_, h2⟩ := h2
      exact ⟨u, z, rep_dp h1 e1, rep_dp h2 e2, hs.1, hs.2, rfl⟩
    · cases e
  · cases e
theorem ok_eq : RdOK C φEq (R2' (rEqD C.X.K)) := by
  intro F H ds vs d Q hs trk e h
  unfold φEq at e
  split at e
  · rename_i a b
    obtain ⟨k, e1, rfl⟩ := Option.map_eq_some_iff.mp e
    obtain ⟨x, y, rfl, h1, h2⟩ := iss2 hs
    obtain ⟨u, z, d1, d2, s1, s2, rfl⟩ := eqD_some e1 h1 h2
    exact ⟨_, _, rfl, u, z, d1, d2, s1, s2, flat h ⟨rfl, rfl⟩⟩
  · cases e
theorem ok_ne : RdOK C φNe (R2' (rNeD C.X.K)) := by
  intro F H ds vs d Q hs trk e h
  unfold φNe at e
  split at e
  · rename_i a b
    obtain ⟨k, e1, rfl⟩ := Option.map_eq_some_iff.mp e
    obtain ⟨x, y, rfl, h1, h2⟩ := iss2 hs
    obtain ⟨u, z, d1, d2, s1, s2, rfl⟩ := eqD_some e1 h1 h2
    exact ⟨_, _, rfl, u, z, d1, d2, s1, s2, flat h ⟨rfl, rfl⟩⟩
  · cases e
end
end DL

namespace DL
open PySem PySem.Spec PyProof.Rows L2
section
variable {C : Ctx} {m : Bool} {F F' : FS} {H H' : Hp} {p p' q r : List Addr} {σ : St} {env : Env}
/-! ### names, constants -/
def xc (d : D) : XF := fun env => some (.val d, env)
theorem tx_c {d : D} {v : V} {Q : VK} (h : TX C m (xc d) σ H Q) (hr : ∀ F, C.rep F H d v []) : Q v H := by
  obtain ⟨F, p, env, rel, r, env', e, post⟩ := h
  cases e
  exact post v H F p [] Ext.refl rel (hr F) Apart.nil
theorem x_int {i : Int} {j : Nat} {pos : Pos} : PE C.X (.Constant (.int i) j pos) (TX C m (xc (.int i))) := peImp pe_int fun _ _ _ h => tx_c h fun _ => ⟨rfl, rfl⟩
theorem x_bl {i : Bool} {j : Nat} {pos : Pos} : PE C.X (.Constant (.bool i) j pos) (TX C m (xc (.bl i))) := peImp pe_bl fun _ _ _ h => tx_c h fun _ => ⟨rfl, rfl⟩
theorem x_non {j : Nat} {pos : Pos} : PE C.X (.Constant .none j pos) (TX C m (xc .non)) := peImp pe_non fun _ _ _ h => tx_c h fun _ => ⟨rfl, rfl⟩
theorem x_str {i : Str} {j : Nat} {pos : Pos} : PE C.X (.Constant (.str i) j pos) (TX C m (xc (.str i))) := peImp pe_str fun _ _ _ h => tx_c h fun _ => ⟨rfl, rfl⟩
theorem x_glob {x : Str} {pos : Pos} (hg : Gl C.X x) (hm : C.X.mg x = some (.ref (He.ga C.X.K x))) (hd : (x == ("__debug__" : Str)) = false := by decide) : PE C.X (.Name x pos) (TX C m (xc (.glob x))) :=
  peImp (pe_glob hg hm (v := .ref (He.ga C.X.K x)) rfl hd) fun _ _ _ h => tx_c h fun _ => ⟨rfl, rfl⟩
theorem x_gint {x : Str} {i : Int} {pos : Pos} (hg : Gl C.X x) (hm : ∃ t, C.X.mg x = some (.int i t)) (hd : (x == ("__debug__" : Str)) = false := by decide) : PE C.X (.Name x pos) (TX C m (xc (.int i))) := by
  obtain ⟨t, hm⟩ := hm
  exact peImp (pe_glob hg hm (v := .int i) ⟨t, rfl⟩ hd) fun _ _ _ h => tx_c h fun _ => ⟨rfl, rfl⟩
theorem x_gstr {x : Str} {i : Str} {pos : Pos} (hg : Gl C.X x) (hm : ∃ t, C.X.mg x = some (.str i t)) (hd : (x == ("__debug__" : Str)) = false := by decide) : PE C.X (.Name x pos) (TX C m (xc (.str i))) := by
  obtain ⟨t, hm⟩ := hm
  exact peImp (pe_glob hg hm (v := .str i) ⟨t, rfl⟩ hd) fun _ _ _ h => tx_c h fun _ => ⟨rfl, rfl⟩
theorem x_ty {x : Str} {n : String} {pos : Pos} (hg : Gl C.X x) (hm : C.X.mg x = none) (hv : bootBuiltins x = some (.type n)) (hn : x ≠ "__name__" := by decide) (hd : (x == ("__debug__" : Str)) = false := by decide) : PE C.X (.Name x pos) (TX C m (xc (.ty n))) :=
  peImp (pe_bltn hg hm hv (v := .ty n) rfl hn hd) fun _ _ _ h => tx_c h fun _ => ⟨rfl, rfl⟩

/-- frozen by the look -/
theorem Rel.freeze (rel : Rel C env σ F H p) (q : List Addr) (hq : ∀ a ∈ q, a ∉ p) (ht : ∀ a ∈ q, H a ≠ none) : Rel C env σ (fun a => F a ∨ a ∈ q) H p where
  slots := repE_mono rel.slots (Stab.same fun _ h => .inl h)
  nd := rel.nd
  dis := fun a ha h => h.elim (rel.dis a ha) fun h => hq a h ha
  trk := fun a h => h.elim (rel.trk a) (ht a)
  tabs := rel.tabs
  fx := rel.fx
theorem set_same : ∀ {σ : St} {i : Nat} {v : V}, σ[i]? = some (some v) → σ.set i (some v) = σ
  | [], i, v, e => by cases e
  | x :: σ, 0, v, e => by
    have e1 : x = some v := by simpa using e
    rw [e1, List.set_cons_zero]
  | x :: σ, i + 1, v, e => by
    rw [List.set_cons_succ, set_same (i := i) (by simpa using e)]
def xvar (i : Nat) : XF := fun env => match env[i]? with
  | some (some d) => bif fro d then some (.val d, env) else some (.val (fz d), env.set i (some (fz d)))
  | _ => none
/-- a slot's data frozen -/
theorem Rel.slotFz (rel : Rel C env σ F H p) {i : Nat} {d : D} (e : env[i]? = some (some d)) : ∃ v F' p', σ[i]? = some (some v) ∧ Ext m F H p F' H p' ∧ Rel C (env.set i (some (fz d))) σ F' H p' ∧ C.rep F' H (fz d) v [] := by
  obtain ⟨v, l, q, r, h1, h2, h3, h4, h5⟩ := repE_at rel.slots e
  have nd := rel.nd
  rw [h3] at nd
  obtain ⟨n1, n2, n3⟩ := List.nodup_append.mp nd
  obtain ⟨n4, n5, n6⟩ := List.nodup_append.mp n2
  have sub : ∀ a ∈ l ++ r, a ∈ p := fun a h => by
    rw [h3]
    exact (List.mem_append.mp h).elim (fun h => List.mem_append_left _ h) fun h => List.mem_append_right _ (List.mem_append_right _ h)
  have rp : C.rep (fun a => F a ∨ a ∈ q) H (fz d) v [] := rep_fz (fun _ h => .inl h) h2 fun a h => .inr h
  refine ⟨v, fun a => F a ∨ a ∈ q, l ++ r, h1, Ext.freeze (fun a h => .inl (by rw [h3]; exact List.mem_append_right _ (List.mem_append_left _ h))) sub, ?_, rp⟩
  refine ⟨?_, List.nodup_append.mpr ⟨n1, n5, fun a ha b hb => n3 a ha b (List.mem_append_right _ hb)⟩, fun a ha h => ?_, fun a h => h.elim (rel.trk a) fun h => ne_of_ow (rep_there h2 a h), rel.tabs, rel.fx⟩
  · have z := h5 (fun a => F a ∨ a ∈ q) H (fz d) v [] (Stab.same fun _ h => .inl h) rp
    rw [set_same h1] at z
    exact z
  · rcases h with h | h
    · exact rel.dis a (sub a ha) h
    · rcases List.mem_append.mp ha with ha | ha
      · exact n3 a ha a (List.mem_append_left _ h) rfl
      · exact n6 a h a ha rfl
theorem tx_var {i : Nat} {Q : VK} (h : TX C m (xvar i) σ H Q) : tVar i σ H Q := by
  obtain ⟨F, p, env, rel, r, env', e, post⟩ := h
  unfold xvar at e
  split at e
  · rename_i d ed
    cases hf : fro d with
    | true =>
      rw [hf] at e
      cases e
      obtain ⟨v, q, e1, rp, _⟩ := rel.slot ed
      have e2 := fro_nil hf rp
      subst e2
      exact ⟨v, e1, post v H F p [] Ext.refl rel rp Apart.nil⟩
    | false =>
      rw [hf] at e
      cases e
      obtain ⟨v, F', p', e1, x1, rel1, rp⟩ := rel.slotFz (m := m) ed
      exact ⟨v, e1, post v H F' p' [] x1 rel1 rp Apart.nil⟩
  · cases e
theorem x_var {i : Nat} {x : Str} {pos : Pos} (hN : C.X.N[i]? = some x) (hv : Vis C.X.env.scope x) (hd : (x == ("__debug__" : Str)) = false := by decide) (hcd : (x == ("__classdict__" : Str)) = false := by decide) : PE C.X (.Name x pos) (TX C m (xvar i)) :=
  peImp (pe_var hN hv hd hcd) fun _ _ _ h => tx_var h
theorem x_pk {i : Nat} {x : Str} {pos : Pos} (hN : C.X.N[i]? = some x) (hv : Vis C.X.env.scope x) (hd : (x == ("__debug__" : Str)) = false := by decide) (hcd : (x == ("__classdict__" : Str)) = false := by decide) : PE C.X (.Name x pos) (tO C m (.pk i)) :=
  pe_var hN hv hd hcd
/-- moved out of its slot -/
def xmv (i : Nat) : XF := fun env => match env[i]? with
  | some (some d) => some (.val d, env.set i none)
  | _ => none
theorem tx_mv {i : Nat} {Q : VK} (h : TX C m (xmv i) σ H Q) : tVar i σ H Q := by
  obtain ⟨F, p, env, rel, r, env', e, post⟩ := h
  unfold xmv at e
  split at e
  · rename_i d ed
    cases e
    obtain ⟨v, l, q, r, h1, h2, h3, h4, h5⟩ := repE_at rel.slots ed
    have nd := rel.nd
    rw [h3] at nd
    obtain ⟨n1, n2, n3⟩ := List.nodup_append.mp nd
    obtain ⟨n4, n5, n6⟩ := List.nodup_append.mp n2
    have sub : ∀ a ∈ l ++ r, a ∈ p := fun a h => by
      rw [h3]
      exact (List.mem_append.mp h).elim (fun h => List.mem_append_left _ h) fun h => List.mem_append_right _ (List.mem_append_right _ h)
    have subq : ∀ a ∈ q, a ∈ p := fun a h => by rw [h3]; exact List.mem_append_right _ (List.mem_append_left _ h)
    refine ⟨v, h1, post v H F (l ++ r) q (Ext.refl.sub fun a h => (List.mem_append.mp h).elim (subq a) (sub a)) ⟨h4, List.nodup_append.mpr ⟨n1, n5, fun a ha b hb => n3 a ha b (List.mem_append_right _ hb)⟩, fun a ha => rel.dis a (sub a ha), rel.trk, rel.tabs, rel.fx⟩ h2 ⟨n4, fun a ha h => ?_, fun a ha => rel.dis a (subq a ha)⟩⟩
    rcases List.mem_append.mp h with h | h
    · exact n3 a h a (List.mem_append_left _ ha) rfl
    · exact n6 a ha a h rfl
  · cases e
theorem x_mv {i : Nat} {x : Str} {pos : Pos} (hN : C.X.N[i]? = some x) (hv : Vis C.X.env.scope x) (hd : (x == ("__debug__" : Str)) = false := by decide) (hcd : (x == ("__classdict__" : Str)) = false := by decide) : PE C.X (.Name x pos) (TX C m (xmv i)) :=
  peImp (pe_var hN hv hd hcd) fun _ _ _ h => tx_mv h
/-- what comes is frozen -/
def xfz (f : XF) : XF := fun env => match f env with
  | some (.val d, e1) => some (.val (fz d), e1)
  | r => r
theorem tx_fz {f : XF} {Q : VK} (h : TX C m (xfz f) σ H Q) : TX C m f σ H Q := by
  obtain ⟨F, p, env, rel, r, env', e, post⟩ := h
  refine ⟨F, p, env, rel, ?_⟩
  unfold xfz at e
  split at e
  · rename_i d e1 ef
    cases e
    refine ⟨_, _, ef, fun v H1 F1 p1 q1 x1 rel1 rp1 ap1 => ?_⟩
    have th : ∀ a ∈ q1, H1 a ≠ none := fun a ha => ne_of_ow (rep_there rp1 a ha)
    exact post v H1 (fun a => F1 a ∨ a ∈ q1) p1 [] (x1.trans (Ext.freeze (fun a h => .inl (List.mem_append_left _ h)) fun a h => List.mem_append_right _ h)) (rel1.freeze q1 ap1.dis th) (rep_fz (fun _ h => .inl h) rp1 fun a h => .inr h) Apart.nil
  · rename_i hn
    cases r with
    | val d => exact absurd e (hn _ _)
    | exc c fs => exact ⟨_, _, e, post⟩
theorem x_fz {e : Expr} {f : XF} (h : PE C.X e (TX C m f)) : PE C.X e (TX C m (xfz f)) := peImp h fun _ _ _ z => tx_fz z
/-- a reading that changes no owned object is one that may -/
theorem tx_up {f : XF} {Q : VK} (h : TX C true f σ H Q) : TX C true f σ H Q := h

/-! ### branches -/
def xif (f g h : XF) : XF := fun env => match f env with
  | some (.val (.bl true), e1) => g e1
  | some (.val (.bl false), e1) => h e1
  | some (.exc c fs, e1) => some (.exc c fs, e1)
  | _ => none
theorem tx_if {f g h : XF} {Q : VK} (z : TX C m (xif f g h) σ H Q) : TX C m f σ H fun v H1 => ∃ b, v = .bl b ∧ if b = true then TX C m g σ H1 Q else TX C m h σ H1 Q := by
  obtain ⟨F, p, env, rel, r, env', e, post⟩ := z
  refine ⟨F, p, env, rel, ?_⟩
  have go : ∀ {b : Bool} {e1 : Env} {k : XF}, k e1 = some (r, env') → ∀ v H1 F1 p1 q1, Ext m F H p F1 H1 (q1 ++ p1) → Rel C e1 σ F1 H1 p1 → C.rep F1 H1 (.bl b) v q1 → Apart F1 q1 p1 → v = .bl b ∧ TX C m k σ H1 Q := fun {b e1 k} ek v H1 F1 p1 q1 x1 rel1 rp1 ap1 => by
    obtain ⟨ev, eq⟩ := rp1
    subst eq
    refine ⟨ev, F1, p1, e1, rel1, _, _, ek, ?_⟩
    cases r with
    | val d => exact fun v2 H2 F2 p2 q2 x2 rel2 rp2 ap2 => post v2 H2 F2 p2 q2 (x1.trans x2) rel2 rp2 ap2
    | exc c fs => exact fun dx H2 F2 p2 x2 rel2 ed => post dx H2 F2 p2 (x1.trans x2) rel2 ed
  unfold xif at e
  split at e
  · rename_i e1 ef
    refine ⟨_, _, ef, fun v H1 F1 p1 q1 x1 rel1 rp1 ap1 => ?_⟩
    obtain ⟨ev, z⟩ := go e v H1 F1 p1 q1 x1 rel1 rp1 ap1
    exact ⟨true, ev, by rw [if_pos rfl]; exact z⟩
  · rename_i e1 ef
    refine ⟨_, _, ef, fun v H1 F1 p1 q1 x1 rel1 rp1 ap1 => ?_⟩
    obtain ⟨ev, z⟩ := go e v H1 F1 p1 q1 x1 rel1 rp1 ap1
    exact ⟨false, ev, by rw [if_neg Bool.false_ne_true]; exact z⟩
  · rename_i c fs e1 ef
    cases e
    exact ⟨_, _, ef, post⟩
  · cases e
def xand (f g : XF) : XF := xif f g (xc (.bl false))
def xor (f g : XF) : XF := xif f (xc (.bl true)) g
def xnot (f : XF) : XF := xif f (xc (.bl false)) (xc (.bl true))
theorem tx_cb {b : Bool} {Q : VK} (h : TX C m (xc (.bl b)) σ H Q) : Q (.bl b) H := tx_c h fun _ => ⟨rfl, rfl⟩
/-- a test's reading -/
def TTX (C : Ctx) (m : Bool) (f : XF) : TT := fun σ H Q => TX C m f σ H fun v H' => ∃ b, v = .bl b ∧ Q b H'
theorem x_one {op : BoolOp} {a : Expr} {f : XF} {pos : Pos} (h : PE C.X a (TX C m f)) : PE C.X (.BoolOp op [a] pos) (TX C m f) := pe_one h
theorem x_and {a b : Expr} {rest : List Expr} {f g : XF} {pos : Pos} (ha : PE C.X a (TX C m f)) (hb : PE C.X (.BoolOp .And (b :: rest) pos) (TX C m g)) : PE C.X (.BoolOp .And (a :: b :: rest) pos) (TX C m (xand f g)) :=
  peImp (pe_and ha hb) fun _ _ _ h => tx_imp (tx_if h) fun _ _ ⟨b, e, z⟩ => ⟨b, e, by
    cases b with
    | true => exact z
    | false => exact tx_cb z⟩
theorem x_or {a b : Expr} {rest : List Expr} {f g : XF} {pos : Pos} (ha : PE C.X a (TX C m f)) (hb : PE C.X (.BoolOp .Or (b :: rest) pos) (TX C m g)) : PE C.X (.BoolOp .Or (a :: b :: rest) pos) (TX C m (xor f g)) :=
  peImp (pe_or ha hb) fun _ _ _ h => tx_imp (tx_if h) fun _ _ ⟨b, e, z⟩ => ⟨b, e, by
    cases b with
    | true => exact tx_cb z
    | false => exact z⟩
theorem x_not {a : Expr} {f : XF} {pos : Pos} (ha : PE C.X a (TX C m f)) : PE C.X (.UnaryOp .Not a pos) (TX C m (xnot f)) :=
  peImp (pe_not ha) fun _ _ _ h => tx_imp (tx_if h) fun _ _ ⟨b, e, z⟩ => ⟨b, e, by
    cases b with
    | true => exact tx_cb z
    | false => exact tx_cb z⟩
theorem t_one_and {a : Expr} {f : XF} {pos : Pos} (h : PT C.X a (TTX C m f)) : PW C.X (.BoolOp .And [a] pos) (TTX C m f) := pw_and1 h
theorem t_one_or {a : Expr} {f : XF} {pos : Pos} (h : PT C.X a (TTX C m f)) : PW C.X (.BoolOp .Or [a] pos) (TTX C m f) := pw_or1 h
theorem pwImp {X : Cx} {e : Expr} {t t' : TT} (h : PW X e t) (i : ∀ σ H Q, t' σ H Q → t σ H Q) : PW X e t' := ⟨fun wh pins s σ H Q I z => h.run wh pins s σ H Q I (i σ H Q z)⟩
theorem t_and {a b : Expr} {rest : List Expr} {f g : XF} {pos : Pos} (ha : PT C.X a (TTX C m f)) (hb : PW C.X (.BoolOp .And (b :: rest) pos) (TTX C m g)) : PW C.X (.BoolOp .And (a :: b :: rest) pos) (TTX C m (xand f g)) :=
  pwImp (pw_and ha hb) fun _ _ _ h => tx_imp (tx_if h) fun _ _ ⟨b, e, z⟩ => ⟨b, e, by
    cases b with
    | true => exact z
    | false =>
      obtain ⟨b', e', z⟩ := tx_cb z
      cases e'
      exact z⟩
theorem t_or {a b : Expr} {rest : List Expr} {f g : XF} {pos : Pos} (ha : PT C.X a (TTX C m f)) (hb : PW C.X (.BoolOp .Or (b :: rest) pos) (TTX C m g)) : PW C.X (.BoolOp .Or (a :: b :: rest) pos) (TTX C m (xor f g)) :=
  pwImp (pw_or ha hb) fun _ _ _ h => tx_imp (tx_if h) fun _ _ ⟨b, e, z⟩ => ⟨b, e, by
    cases b with
    | true =>
      obtain ⟨b', e', z⟩ := tx_cb z
      cases e'
      exact z
    | false => exact z⟩
theorem t_not {a : Expr} {f : XF} {pos : Pos} (ha : PT C.X a (TTX C m f)) : PT C.X (.UnaryOp .Not a pos) (TTX C m (xnot f)) :=
  ptImp (pt_not ha) fun _ _ _ h => tx_imp (tx_if h) fun _ _ ⟨b, e, z⟩ => ⟨b, e, by
    cases b with
    | true =>
      obtain ⟨b', e', z⟩ := tx_cb z
      cases e'
      exact z
    | false =>
      obtain ⟨b', e', z⟩ := tx_cb z
      cases e'
      exact z⟩
theorem t_val {a : Expr} {f : XF} (ha : PE C.X a (TX C m f)) (he : ∀ whole, isTrue a C.X.env whole = (do let v ← whole; standAt a.pos; holding [v] (truthy v)) := by intro _; rfl) : PT C.X a (TTX C m f) :=
  ptImp (pt_truth ha he) fun _ _ _ h => tx_imp h fun _ _ ⟨b, e, z⟩ => ⟨b, by rw [e]; rfl, z⟩
theorem t_cmp {op : CmpOp} {r : R2} {φ : List D → Option D} {a b : Expr} {oa ob : Opd} {pos : Pos} (ho : OpR C.X (compareOp op) r) (hk : RdOK C φ (R2' r)) (ha : PE C.X a (tO C m oa)) (hb : PE C.X b (tO C m ob)) (hm : behindInMarks op b = false) :
    PT C.X (.Compare a [op] [b] pos) (TTX C m (pop (consO oa (consO ob nilA)) φ)) := ptImp (pt_cmpR ho ha hb hm) fun σ H Q h => tO_imp (tax2 (pop_ok hk h)) fun _ _ z => tO_imp z fun _ _ ⟨_, _, e, z⟩ => by
      cases e
      exact z
theorem x_ifx {c a b : Expr} {f g h : XF} {pos : Pos} (hc : PT C.X c (TTX C m f)) (ha : PE C.X a (TX C m g)) (hb : PE C.X b (TX C m h)) : PE C.X (.IfExp c a b pos) (TX C m (xif f g h)) :=
  peImp (pe_ifExp hc ha hb) fun _ _ _ z => tx_if z

/-! ### a chain of two comparisons -/
def xchain (a b c : Opd) (φ1 φ2 : List D → Option D) : XF := fun env => match consO a (consO b nilA) env with
  | some (.vals [x, y], e1) => (match ress e1 [x, y] with
    | some ds => (match φ1 ds with
      | some (.bl true) => (match consO c nilA e1 with
        | some (.vals [z], e2) => (match ress e2 [y, z] with
          | some es => (match φ2 es with
            | some d => some (.val d, e2)
            | none => none)
          | none => none)
        | some (.exc c fs, e2) => some (.exc c fs, e2)
        | _ => none)
      | some (.bl false) => some (.val (.bl false), e1)
      | _ => none)
    | none => none)
  | some (.exc c fs, e1) => some (.exc c fs, e1)
  | _ => none
theorem arP_two {x y : Ar} {vs : List V} (h : arP C F H σ [x, y] vs q) : ∃ v w q1 q2, vs = [v, w] ∧ arP C F H σ [x] [v] q1 ∧ arP C F H σ [y] [w] q2 ∧ q = q1 ++ q2 := by
  cases x with
  | tmp d =>
    obtain ⟨v, ws, q1, r, e, x1, x2, hq⟩ := h
    cases y with
    | tmp d' =>
      obtain ⟨w, ws', q2, r', e', y1, y2, hq'⟩ := x2
      obtain ⟨rfl, rfl⟩ := y2
      rw [List.append_nil] at hq'
      subst hq' e' e
      exact ⟨v, w, q1, r, rfl, ⟨v, [], q1, [], rfl, x1, ⟨rfl, rfl⟩, (List.append_nil _).symm⟩, ⟨w, [], r, [], rfl, y1, ⟨rfl, rfl⟩, (List.append_nil _).symm⟩, hq⟩
    | pk j =>
      obtain ⟨w, ws', e', y1, y2⟩ := x2
      obtain ⟨rfl, rfl⟩ := y2
      subst e' e
      exact ⟨v, w, q1, [], rfl, ⟨v, [], q1, [], rfl, x1, ⟨rfl, rfl⟩, (List.append_nil _).symm⟩, ⟨w, [], rfl, y1, ⟨rfl, rfl⟩⟩, hq⟩
  | pk i =>
    obtain ⟨v, ws, e, x1, x2⟩ := h
    cases y with
    | tmp d' =>
      obtain ⟨w, ws', q2, r', e', y1, y2, hq'⟩ := x2
      obtain ⟨rfl, rfl⟩ := y2
      rw [List.append_nil] at hq'
      subst hq' e' e
      exact ⟨v, w, [], q, rfl, ⟨v, [], rfl, x1, ⟨rfl, rfl⟩⟩, ⟨w, [], q, [], rfl, y1, ⟨rfl, rfl⟩, (List.append_nil _).symm⟩, rfl⟩
    | pk j =>
      obtain ⟨w, ws', e', y1, y2⟩ := x2
      obtain ⟨rfl, rfl⟩ := y2
      subst e' e
      exact ⟨v, w, [], [], rfl, ⟨v, [], rfl, x1, ⟨rfl, rfl⟩⟩, ⟨w, [], rfl, y1, ⟨rfl, rfl⟩⟩, rfl⟩
theorem arP_cons1 {x : Ar} {as : List Ar} {v : V} {vs : List V} {q1 q2 : List Addr} (h1 : arP C F H σ [x] [v] q1) (h2 : arP C F H σ as vs q2) : arP C F H σ (x :: as) (v :: vs) (q1 ++ q2) := by
  cases x with
  | tmp d =>
    obtain ⟨v', ws, q, r, e, x1, x2, hq⟩ := h1
    obtain ⟨rfl, rfl⟩ := x2
    cases e
    rw [List.append_nil] at hq
    subst hq
    exact ⟨v, vs, q1, q2, rfl, x1, h2, rfl⟩
  | pk i =>
    obtain ⟨v', ws, e, x1, x2⟩ := h1
    obtain ⟨rfl, rfl⟩ := x2
    cases e
    exact ⟨v, vs, rfl, x1, h2⟩
theorem chain_ok {a b c : Opd} {φ1 φ2 : List D → Option D} {r1 r2 : R2} {Q : VK} (k1 : RdOK C φ1 (R2' r1)) (k2 : RdOK C φ2 (R2' r2)) (h : TX C m (xchain a b c φ1 φ2) σ H Q) :
    tChain r1 r2 (tO C m a) (tO C m b) (tO C m c) σ H Q := by
  have key : TAX C m (consO a (consO b nilA)) σ H fun vs H2 => ∃ y, vs[1]? = some y ∧ R2' r1 vs H2 fun z H3 => ∃ k, z = .bl k ∧ (if k = true then tO C m c σ H3 fun w' H4 => r2 y w' H4 Q else Q (.bl false) H3) := by
    obtain ⟨F, p, env, rel, r, env', e, post⟩ := h
    refine ⟨F, p, env, rel, ?_⟩
    unfold xchain at e
    split at e
    · rename_i x y e1 eg
      refine ⟨_, _, eg, fun vs H1 F1 p1 q1 x1 rel1 ar1 ap1 => ?_⟩
      split at e
      · rename_i ds ed
        have i1 := ress_iss rel1 ar1 ed
        obtain ⟨vx, vy, qx, qy, evs, arx1, ary1, eq1⟩ := arP_two ar1
        subst evs eq1
        refine ⟨vy, rfl, ?_⟩
        split at e
        · rename_i h1
          refine k1 F1 H1 ds [vx, vy] (.bl true) _ i1 rel1.trk h1 fun v H3 q3 g fresh nd rp => ?_
          obtain ⟨ev, eq⟩ := rp
          subst eq
          refine ⟨true, ev, ?_⟩
          rw [if_pos rfl]
          have rel3 := rel1.grow g
          have ary : arP C F1 H3 σ [y] [vy] qy := arP_mono ary1 (Stab.grow g)
          have x3 : Ext m F H p F1 H3 ((qx ++ qy) ++ p1) := x1.trans (Ext.grow (q := []) g (fun a h => by cases h))
          have apy : Apart F1 qy p1 := ⟨(List.nodup_append.mp ap1.nd).2.1, fun a h => ap1.dis a (List.mem_append_right _ h), fun a h => ap1.fr a (List.mem_append_right _ h)⟩
          have x3' : Ext m F H p F1 H3 (qy ++ p1) := x3.sub fun a h => (List.mem_append.mp h).elim (fun h => List.mem_append_left _ (List.mem_append_right _ h)) fun h => List.mem_append_right _ h
          have thy : ∀ a ∈ qy, H3 a ≠ none := fun a ha => ne_of_ow (arP_there ary a ha)
          have T : TAX C m (consO c nilA) σ H3 fun vs H4 => ∃ z, vs = [z] ∧ r2 vy z H4 Q := by
            refine ⟨F1, p1, e1, rel3, ?_⟩
            split at e
            · rename_i z e2 ez
              refine ⟨_, _, ez, fun ws H4 F4 p4 q4 x4 rel4 ar4 ap4 => ?_⟩
              obtain ⟨n1, n2⟩ := x4.apart apy thy
              have ary4 : arP C F4 H4 σ [y] [vy] qy := arP_mono ary (x4.stab rel3.dis rel3.ow fun _ => apy.dis)
              split at e
              · rename_i es ee
                split at e
                · rename_i d hd
                  cases e
                  obtain ⟨z1, ew⟩ : ∃ z1, ws = [z1] := by
                    cases z with
                    | tmp d' =>
                      obtain ⟨w, ws', q2, r', e', y1, y2, hq'⟩ := ar4
                      obtain ⟨rfl, _⟩ := y2
                      exact ⟨w, e'⟩
                    | pk j =>
                      obtain ⟨w, ws', e', y1, y2⟩ := ar4
                      obtain ⟨rfl, _⟩ := y2
                      exact ⟨w, e'⟩
                  subst ew
                  refine ⟨z1, rfl, ?_⟩
                  obtain ⟨_, _, e6, z6⟩ := k2 F4 H4 es [vy, z1] d Q (ress_iss rel4 (arP_cons1 ary4 ar4) ee) rel4.trk hd fun v H5 q5 g5 fresh5 nd5 rp5 =>
                    post v H5 F4 p4 q5 (((x3'.sub fun a h => List.mem_append_right _ h).trans (x4.sub fun a h => List.mem_append_right _ h)).trans (Ext.grow g5 fresh5)) (rel4.grow g5) rp5 ⟨nd5, fun a ha hp => rel4.there a hp (fresh5 a ha), fun a ha hf => rel4.trk a hf (fresh5 a ha)⟩
                  cases e6
                  exact z6
                · cases e
              · cases e
            · rename_i c' fs e2 ez
              cases e
              exact ⟨_, _, ez, fun dx H4 F4 p4 x4 rel4 ed => post dx H4 F4 p4 ((x3'.sub fun a h => List.mem_append_right _ h).trans x4) rel4 ed⟩
            · cases e
          have T1 := tax1 T
          exact tO_imp T1 fun _ _ ⟨z, ez, hz⟩ => by
            cases ez
            exact hz
        · rename_i h1
          cases e
          refine k1 F1 H1 ds [vx, vy] (.bl false) _ i1 rel1.trk h1 fun v H3 q3 g fresh nd rp => ?_
          obtain ⟨ev, eq⟩ := rp
          subst eq
          refine ⟨false, ev, ?_⟩
          rw [if_neg Bool.false_ne_true]
          exact post (.bl false) H3 F1 p1 [] ((x1.sub fun a h => List.mem_append_right _ h).trans (Ext.grow (q := []) g (fun a h => by cases h))) (rel1.grow g) ⟨rfl, rfl⟩ Apart.nil
        · cases e
      · cases e
    · rename_i c' fs e1 eg
      cases e
      exact ⟨_, _, eg, post⟩
    · cases e
  exact tO_imp (tax2 key) fun _ _ z => tO_imp z fun _ _ ⟨_, e1, _, _, e, z⟩ => by
    cases e
    cases e1
    exact z
end
end DL

namespace DL
open PySem PySem.Spec PyProof.Rows L2
section
variable {C : Ctx} {m : Bool} {F F' : FS} {H H' : Hp} {p p' q r : List Addr} {σ : St} {env : Env}
/-! ### displays -/
def itemsOf : D → Option (List D)
  | .tup xs => some xs
  | .lst _ xs => if xs.all fro = true then some xs else none
  | _ => none
theorem rep_items {d : D} {xs : List D} {v : V} (e : itemsOf d = some xs) (x : is C F H d v) : ∃ a vs, v = .ref a ∧ (SqT C.X.K H a vs ∨ SqL C.X.K H a vs) ∧ C.reps F H xs vs [] := by
  unfold itemsOf at e
  split at e
  · cases e
    obtain ⟨a, vs, rfl, h, r⟩ := is_tup x
    exact ⟨a, vs, rfl, .inl (SqT.of h), r⟩
  · split at e
    · rename_i hf
      cases e
      obtain ⟨a, vs, q1, rfl, h, r, _⟩ := is_lst x
      have z := reps_fro hf r
      subst z
      exact ⟨a, vs, rfl, .inr (SqL.of h), r⟩
    · cases e
  · cases e
def consS (f : XF) (g : AF) : AF := fun env => match f env with
  | some (.val d, e1) => (match itemsOf d with
    | some xs => (match g e1 with
      | some (.vals as, e2) => some (.vals (xs.map .tmp ++ as), e2)
      | r => r)
    | none => none)
  | some (.exc c fs, e1) => some (.exc c fs, e1)
  | none => none
theorem arP_tmps : ∀ {ds : List D} {vs ws : List V} {as : List Ar}, C.reps F H ds vs [] → arP C F H σ as ws q → arP C F H σ (ds.map .tmp ++ as) (vs ++ ws) q
  | [], _, _, _, x, y => by
    rw [x.1]
    exact y
  | d :: ds, _, ws, as, ⟨v, us, q1, r, e, x1, x2, hq⟩, y => by
    obtain ⟨rfl, rfl⟩ := List.append_eq_nil_iff.mp hq.symm
    subst e
    exact ⟨v, us ++ ws, [], q, rfl, x1, arP_tmps x2 y, rfl⟩
theorem tax_star {f : XF} {g : AF} {Q : List V → Hp → Prop} (h : TAX C m (consS f g) σ H Q) : StX.tStar C.X.K (TX C m f) (TAX C m g) σ H Q := by
  obtain ⟨F, p, env, rel, r, env', e, post⟩ := h
  refine ⟨F, p, env, rel, ?_⟩
  unfold consS at e
  split at e
  · rename_i d e1 ef
    refine ⟨_, _, ef, fun v H1 F1 p1 q1 x1 rel1 rp1 ap1 => ?_⟩
    split at e
    · rename_i xs ex
      obtain ⟨a, vs, ev, hs, rps⟩ := rep_items ex ⟨_, rp1⟩
      refine ⟨a, vs, ev, hs, F1, p1, e1, rel1, ?_⟩
      have x1' := x1.sub (p2 := p1) fun a h => List.mem_append_right _ h
      split at e
      · rename_i as e2 eg
        cases e
        refine ⟨_, _, eg, fun ws H2 F2 p2 q2 x2 rel2 rp2 ap2 => ?_⟩
        exact post (vs ++ ws) H2 F2 p2 q2 (x1'.trans x2) rel2 (arP_tmps (reps_mono rps (x2.stab rel1.dis rel1.ow fun _ _ h => by cases h)) rp2) ap2
      · rename_i hn
        cases r with
        | vals as => exact absurd e (hn as _)
        | exc c fs => exact ⟨_, _, e, fun dx H2 F2 p2 x2 rel2 ed => post dx H2 F2 p2 (x1'.trans x2) rel2 ed⟩
    · cases e
  · rename_i c fs e1 ef
    cases e
    exact ⟨_, _, ef, post⟩
  · cases e
theorem px_star {e : Expr} {es : List Expr} {f : XF} {g : AF} {sp : Pos} (he : PE C.X e (TX C m f)) (hs : PA C.X es (TAX C m g)) (hz : starEach (.Starred e sp :: es) C.X.env = (true, eval e C.X.env) :: starEach es C.X.env := by rfl) :
    PA C.X (.Starred e sp :: es) (TAX C m (consS f g)) := paImp (StX.pa_star he hs hz) fun _ _ _ h => tax_star h
def tmps : List Ar → Option (List D)
  | [] => some []
  | .tmp d :: as => (tmps as).map (d :: ·)
  | .pk _ :: _ => none
theorem arP_reps : ∀ {as : List Ar} {ds : List D} {vs : List V} {q : List Addr}, tmps as = some ds → arP C F H σ as vs q → C.reps F H ds vs q
  | [], ds, vs, q, e, x => by cases e; exact x
  | .tmp d :: as, ds, vs, q, e, ⟨v, ws, q1, r, ev, x1, x2, hq⟩ => by
    unfold tmps at e
    cases h : tmps as with
    | none => rw [h] at e; cases e
    | some z =>
      rw [h] at e
      cases e
      exact ⟨v, ws, q1, r, ev, x1, arP_reps h x2, hq⟩
  | .pk i :: as, ds, vs, q, e, x => by cases e
def xtup (g : AF) : XF := fun env => match g env with
  | some (.vals as, e1) => (match tmps as with
    | some ds => if ds.length ≤ SZ ∧ ds.all fro = true then some (.val (.tup ds), e1) else none
    | none => none)
  | some (.exc c fs, e1) => some (.exc c fs, e1)
  | none => none
def xlst (g : AF) : XF := fun env => match g env with
  | some (.vals as, e1) => (match tmps as with
    | some ds => if ds.length ≤ SZ then some (.val (.lst true ds), e1) else none
    | none => none)
  | some (.exc c fs, e1) => some (.exc c fs, e1)
  | none => none
theorem tx_tup {g : AF} {Q : VK} (h : TX C m (xtup g) σ H Q) : tTup (TAX C m g) σ H Q := by
  obtain ⟨F, p, env, rel, r, env', e, post⟩ := h
  refine ⟨F, p, env, rel, ?_⟩
  unfold xtup at e
  split at e
  · rename_i as e1 eg
    refine ⟨_, _, eg, fun vs H1 F1 p1 q1 x1 rel1 ar1 ap1 => ?_⟩
    split at e
    · rename_i ds ed
      split at e
      · rename_i hl
        cases e
        have rp := arP_reps ed ar1
        have z := reps_fro hl.2 rp
        subst z
        refine ⟨le_line (by rw [← reps_len rp]; exact hl.1), fun a ha => ?_⟩
        exact post (.ref a) _ F1 p1 [] (x1.trans (Ext.grow (q := []) (grow_upd ha) (fun a h => by cases h))) (rel1.grow (grow_upd ha)) (new_tup rp ha) Apart.nil
      · cases e
    · cases e
  · rename_i c fs e1 eg
    cases e
    exact ⟨_, _, eg, post⟩
  · cases e
theorem tx_lst {g : AF} {Q : VK} (h : TX C m (xlst g) σ H Q) : tLst (TAX C m g) σ H Q := by
  obtain ⟨F, p, env, rel, r, env', e, post⟩ := h
  refine ⟨F, p, env, rel, ?_⟩
  unfold xlst at e
  split at e
  · rename_i as e1 eg
    refine ⟨_, _, eg, fun vs H1 F1 p1 q1 x1 rel1 ar1 ap1 => ?_⟩
    split at e
    · rename_i ds ed
      split at e
      · rename_i hl
        cases e
        have rp := arP_reps ed ar1
        refine ⟨le_line (by rw [← reps_len rp]; exact hl), fun a ha => ?_⟩
        have th : ∀ b ∈ q1, b ≠ a := fun b hb e => ne_of_ow (reps_there rp b hb) (by rw [e]; exact ha)
        refine post (.ref a) _ F1 p1 (a :: q1) (x1.trans (Ext.laid ha)) (rel1.grow (grow_upd ha)) ⟨a, vs, q1, rfl, reps_mono rp (Stab.grow (grow_upd ha)), upd_same, rfl⟩ ⟨?_, ?_, ?_⟩
        · exact List.nodup_cons.mpr ⟨fun h => th a h rfl, ap1.nd⟩
        · intro b hb
          rcases List.mem_cons.mp hb with rfl | hb
          · exact fun h => rel1.there _ h ha
          · exact ap1.dis b hb
        · intro b hb
          rcases List.mem_cons.mp hb with rfl | hb
          · exact fun h => rel1.trk _ h ha
          · exact ap1.fr b hb
      · cases e
    · cases e
  · rename_i c fs e1 eg
    cases e
    exact ⟨_, _, eg, post⟩
  · cases e
theorem x_tup {es : List Expr} {g : AF} {x1 : _} {pos : Pos} (h : PA C.X es (TAX C m g)) : PE C.X (.Tuple es x1 pos) (TX C m (xtup g)) := peImp (pe_tup h) fun _ _ _ z => tx_tup z
theorem x_lst {es : List Expr} {g : AF} {pos : Pos} (h : PA C.X es (TAX C m g)) : PE C.X (.List es pos) (TX C m (xlst g)) := peImp (pe_lst h) fun _ _ _ z => tx_lst z

/-! ### in, not in (lists, tuples of data), is None, is True -/
abbrev rInSq (K : PySem.W.Frag) (neg : Bool) : R2 := fun x y H Q => ∃ d ds, Dp K H x d ∧ (Dp K H y (.list ds) ∨ Dp K H y (.tuple ds)) ∧ SeqAt.shaped d = true ∧ SeqAt.shaped (.list ds) = true ∧ Q (.bl (if neg then !(ds.any fun z => PyData.eqv z d) else ds.any fun z => PyData.eqv z d)) H
theorem shaped_tl {ds : List PyData} (h : SeqAt.shaped (.list ds) = true) : SeqAt.shaped (.tuple ds) = true := h
theorem op_inSq (hu : C.X.A.units + 65 < cLine) : OpR C.X (compareOp .In) (rInSq C.X.K false) := by
  intro pins s σ H x y v u Q I rx ry h
  obtain ⟨d, ds, hd, he, sd, se, q⟩ := h
  obtain ⟨as, r1⟩ := Dp.reads I d x v hd rx
  rcases he with he | he
  · obtain ⟨bs, r2⟩ := Dp.reads I (.list ds) y u he ry
    exact SeqAt.in_list_reads r2 r1 (SeqAt.canLay_of_shaped se) (SeqAt.canLay_of_shaped sd) (room_in_shaped sd hu) ⟨.bl _, H, I, rfl, q⟩
  · obtain ⟨bs, r2⟩ := Dp.reads I (.tuple ds) y u he ry
    exact SeqAt.in_tuple_reads r2 r1 (SeqAt.canLay_of_shaped (shaped_tl se)) (SeqAt.canLay_of_shaped sd) (room_in_shaped sd hu) ⟨.bl _, H, I, rfl, q⟩
theorem op_notInSq (hu : C.X.A.units + 65 < cLine) : OpR C.X (compareOp .NotIn) (rInSq C.X.K true) := by
  intro pins s σ H x y v u Q I rx ry h
  obtain ⟨d, ds, hd, he, sd, se, q⟩ := h
  obtain ⟨as, r1⟩ := Dp.reads I d x v hd rx
  rcases he with he | he
  · obtain ⟨bs, r2⟩ := Dp.reads I (.list ds) y u he ry
    exact SeqAt.notIn_list_reads r2 r1 (SeqAt.canLay_of_shaped se) (SeqAt.canLay_of_shaped sd) (room_in_shaped sd hu) ⟨.bl _, H, I, rfl, q⟩
  · obtain ⟨bs, r2⟩ := Dp.reads I (.tuple ds) y u he ry
    exact SeqAt.notIn_tuple_reads r2 r1 (SeqAt.canLay_of_shaped (shaped_tl se)) (SeqAt.canLay_of_shaped sd) (room_in_shaped sd hu) ⟨.bl _, H, I, rfl, q⟩
def seqItems : D → Option (List D)
  | .tup xs => some xs
  | .lst _ xs => some xs
  | _ => none
def inD (a b : D) : Option Bool := match toPy a, seqItems b with
  | some x, some ys => (match toPys ys with
    | some zs => if SeqAt.shaped x = true ∧ SeqAt.shaped (.list zs) = true then some (zs.any fun z => PyData.eqv z x) else none
    | none => none)
  | _, _ => none
def φIn : List D → Option D
  | [a, b] => (inD a b).map D.bl
  | _ => none
def φNotIn : List D → Option D
  | [a, b] => (inD a b).map fun x => D.bl !x
  | _ => none
theorem inD_some {a b : D} {k : Bool} {x y : V} (e : inD a b = some k) (h1 : is C F H a x) (h2 : is C F H b y) : ∃ d ds, Dp C.X.K H x d ∧ (Dp C.X.K H y (.list ds) ∨ Dp C.X.K H y (.tuple ds)) ∧ SeqAt.shaped d = true ∧ SeqAt.shaped (.list ds) = true ∧ k = ds.any fun z => PyData.eqv z d := by
  unfold inD at e
  split at e
  · rename_i u ys e1 e2
    split at e
    · rename_i zs e3
      split at e
      · rename_i hs
        cases e
        obtain ⟨_, h1⟩ := h1
        refine ⟨u, zs, rep_dp h1 e1, ?_, hs.1, hs.2, rfl⟩
        unfold seqItems at e2
        split at e2
        · cases e2
          obtain ⟨a', vs, rfl, h, r⟩ := is_tup h2
          exact .inr (.tup (SqT.of h) (reps_dp r e3))
        · cases e2
          obtain ⟨a', vs, q1, rfl, h, r, _⟩ := is_lst h2
          exact .inl (.lst (SqL.of h) (reps_dp r e3))
        · cases e2
      · cases e
    · cases e
  · cases e
theorem ok_in : RdOK C φIn (R2' (rInSq C.X.K false)) := by
  intro F H ds vs d Q hs trk e h
  unfold φIn at e
  split at e
  · rename_i a b
    obtain ⟨k, e1, rfl⟩ := Option.map_eq_some_iff.mp e
    obtain ⟨x, y, rfl, h1, h2⟩ := iss2 hs
    obtain ⟨u, z, d1, d2, s1, s2, rfl⟩ := inD_some e1 h1 h2
    exact ⟨_, _, rfl, u, z, d1, d2, s1, s2, flat h ⟨rfl, rfl⟩⟩
  · cases e
theorem ok_notIn : RdOK C φNotIn (R2' (rInSq C.X.K true)) := by
  intro F H ds vs d Q hs trk e h
  unfold φNotIn at e
  split at e
  · rename_i a b
    obtain ⟨k, e1, rfl⟩ := Option.map_eq_some_iff.mp e
    obtain ⟨x, y, rfl, h1, h2⟩ := iss2 hs
    obtain ⟨u, z, d1, d2, s1, s2, rfl⟩ := inD_some e1 h1 h2
    exact ⟨_, _, rfl, u, z, d1, d2, s1, s2, flat h ⟨rfl, rfl⟩⟩
  · cases e
def isNon : D → Bool
  | .non => true
  | _ => false
theorem isNon_v {d : D} {v : V} (h : is C F H d v) : decide (v = .non) = isNon d := by
  obtain ⟨q, h⟩ := h
  cases d with
  | non => rw [h.1]; rfl
  | bl => rw [h.1]; rfl
  | int => rw [h.1]; rfl
  | str => rw [h.1]; rfl
  | glob => rw [h.1]; rfl
  | ty => rw [h.1]; rfl
  | tup => obtain ⟨a, vs, rfl, _⟩ := h; rfl
  | lst => obtain ⟨a, vs, q, rfl, _⟩ := h; rfl
  | dic => obtain ⟨a, vs, q, rfl, _⟩ := h; rfl
  | ins => obtain ⟨a, vs, gs, q, rfl, _⟩ := h; rfl
  | err => obtain ⟨a, vs, rfl, _⟩ := h; rfl
  | scr => obtain ⟨a, rfl, _⟩ := h; rfl
def φIs : List D → Option D
  | [a, .non] => some (.bl (isNon a))
  | [.bl a, .bl b] => some (.bl (decide (a = b)))
  | _ => none
def φIsNot : List D → Option D
  | [a, .non] => some (.bl !(isNon a))
  | [.bl a, .bl b] => some (.bl !(decide (a = b)))
  | _ => none
abbrev rIs : R2 := fun x y H Q => (y = .non ∧ Q (.bl (decide (x = .non))) H) ∨ rIsB x y H Q
abbrev rIsNot : R2 := fun x y H Q => (y = .non ∧ Q (.bl (!decide (x = .non))) H) ∨ rNotB x y H Q
theorem op_is : OpR C.X (compareOp .Is) (fun x y H Q => (fun x y H Q => y = .non ∧ Q (.bl (decide (x = .non))) H) x y H Q ∨ rIsB x y H Q) := op_isN.or op_isBl
theorem op_isnt : OpR C.X (compareOp .IsNot) (fun x y H Q => (fun x y H Q => y = .non ∧ Q (.bl (!decide (x = .non))) H) x y H Q ∨ rNotB x y H Q) := op_notN.or op_notBl
theorem ok_is : RdOK C φIs (R2' rIs) := by
  intro F H ds vs d Q hs trk e h
  unfold φIs at e
  split at e
  · rename_i a
    cases e
    obtain ⟨x, y, rfl, h1, h2⟩ := iss2 hs
    cases is_non h2
    exact ⟨_, _, rfl, .inl ⟨rfl, by rw [isNon_v h1]; exact flat h ⟨rfl, rfl⟩⟩⟩
  · cases e
    obtain ⟨x, y, rfl, h1, h2⟩ := iss2 hs
    exact ⟨_, _, rfl, .inr ⟨_, _, is_bl h1, is_bl h2, flat h ⟨rfl, rfl⟩⟩⟩
  · cases e
theorem ok_isnt : RdOK C φIsNot (R2' rIsNot) := by
  intro F H ds vs d Q hs trk e h
  unfold φIsNot at e
  split at e
  · rename_i a
    cases e
    obtain ⟨x, y, rfl, h1, h2⟩ := iss2 hs
    cases is_non h2
    exact ⟨_, _, rfl, .inl ⟨rfl, by rw [isNon_v h1]; exact flat h ⟨rfl, rfl⟩⟩⟩
  · cases e
    obtain ⟨x, y, rfl, h1, h2⟩ := iss2 hs
    exact ⟨_, _, rfl, .inr ⟨_, _, is_bl h1, is_bl h2, flat h ⟨rfl, rfl⟩⟩⟩
  · cases e

/-! ### len, list, tuple, abs, int, str, min, max of two -/
def φLen : List D → Option D
  | [.str x] => if x.length ≤ SZ then some (.int x.length) else none
  | [.tup xs] => some (.int xs.length)
  | [.lst _ xs] => some (.int xs.length)
  | [.scr xs] => some (.int xs.length)
  | _ => none
abbrev rLenA (K : PySem.W.Frag) : List V → Hp → VK → Prop := fun xs H Q => ∃ x n, xs = [x] ∧ LenV K x H n ∧ Q (.int n) H
theorem ok_len : RdOK C φLen (rLenA C.X.K) := by
  intro F H ds vs d Q hs trk e h
  unfold φLen at e
  split at e
  · rename_i x
    split at e
    · rename_i hl
      cases e
      obtain ⟨x, rfl, h1⟩ := iss1 hs
      cases is_str h1
      exact ⟨_, _, rfl, ⟨le_line hl, rfl⟩, flat h ⟨rfl, rfl⟩⟩
    · cases e
  · cases e
    obtain ⟨x, rfl, h1⟩ := iss1 hs
    obtain ⟨a, us, rfl, ha, ra⟩ := is_tup h1
    exact ⟨_, us.length, rfl, .inr ⟨us, SqT.of ha, rfl⟩, by rw [← reps_len ra]; exact flat h ⟨rfl, rfl⟩⟩
  · cases e
    obtain ⟨x, rfl, h1⟩ := iss1 hs
    obtain ⟨a, us, q1, rfl, ha, ra, _⟩ := is_lst h1
    exact ⟨_, us.length, rfl, .inl ⟨us, SqL.of ha, rfl⟩, by rw [← reps_len ra]; exact flat h ⟨rfl, rfl⟩⟩
  · rename_i ns
    cases e
    obtain ⟨x, rfl, h1⟩ := iss1 hs
    obtain ⟨_, a, rfl, _, ha, _⟩ := h1
    exact ⟨_, (ns.map V.int).length, rfl, .inl ⟨_, ha, rfl⟩, by rw [List.length_map]; exact flat h ⟨rfl, rfl⟩⟩
  · cases e
def φList : List D → Option D
  | [d] => (itemsOf d).map (D.lst true)
  | _ => none
abbrev rListA (K : PySem.W.Frag) : List V → Hp → VK → Prop := fun xs H Q => ∃ p ys, xs = [.ref p] ∧ (SqL K H p ys ∨ SqT K H p ys) ∧ ∀ l, H l = none → Q (.ref l) (upd H l (.lst ys))
theorem ok_list : RdOK C φList (rListA C.X.K) := by
  intro F H ds vs d Q hs trk e h
  unfold φList at e
  split at e
  · rename_i a
    obtain ⟨xs, e1, rfl⟩ := Option.map_eq_some_iff.mp e
    obtain ⟨x, rfl, h1⟩ := iss1 hs
    obtain ⟨b, us, rfl, hq, r⟩ := rep_items e1 h1
    exact ⟨b, us, rfl, hq.symm, fun l hl => h _ _ [l] (grow_upd hl) (fun a h => by cases List.mem_singleton.mp h; exact hl) (by simp) (new_lst r hl)⟩
  · cases e
def φTuple : List D → Option D
  | [d] => (itemsOf d).map D.tup
  | _ => none
abbrev rTupleA (K : PySem.W.Frag) : List V → Hp → VK → Prop := fun xs H Q => ∃ p ys, xs = [.ref p] ∧ ((SqL K H p ys ∧ ∀ l, H l = none → Q (.ref l) (upd H l (.tup ys))) ∨ (SqT K H p ys ∧ Q (.ref p) H))
theorem ok_tuple : RdOK C φTuple (rTupleA C.X.K) := by
  intro F H ds vs d Q hs trk e h
  unfold φTuple at e
  split at e
  · rename_i a
    obtain ⟨xs, e1, rfl⟩ := Option.map_eq_some_iff.mp e
    obtain ⟨x, rfl, h1⟩ := iss1 hs
    unfold itemsOf at e1
    split at e1
    · cases e1
      obtain ⟨b, us, rfl, hb, rb⟩ := is_tup h1
      exact ⟨b, us, rfl, .inr ⟨SqT.of hb, flat h ⟨b, us, rfl, hb, rb, rfl⟩⟩⟩
    · split at e1
      · rename_i hf
        cases e1
        obtain ⟨b, us, q1, rfl, hb, rb, _⟩ := is_lst h1
        have z := reps_fro hf rb
        subst z
        exact ⟨b, us, rfl, .inl ⟨SqL.of hb, fun l hl => h _ _ [] (grow_upd hl) (fun _ h => by cases h) List.nodup_nil (new_tup rb hl)⟩⟩
      · cases e1
    · cases e1
  · cases e
def φAbs : List D → Option D
  | [.int i] => some (.int (if i < 0 then -i else i))
  | _ => none
theorem ok_abs : RdOK C φAbs (fun xs H Q => ∃ i, xs = [.int i] ∧ Q (.int (if i < 0 then -i else i)) H) := by
  intro F H ds vs d Q hs trk e h
  unfold φAbs at e
  split at e
  · cases e
    obtain ⟨x, rfl, h1⟩ := iss1 hs
    cases is_int h1
    exact ⟨_, rfl, flat h ⟨rfl, rfl⟩⟩
  · cases e
def φInt : List D → Option D
  | [.int i] => some (.int i)
  | [.bl k] => some (.int (if k then 1 else 0))
  | _ => none
theorem ok_int1 : RdOK C φInt (fun xs H Q => (∃ i, xs = [.int i] ∧ Q (.int i) H) ∨ ∃ k, xs = [.bl k] ∧ Q (.int (if k then 1 else 0)) H) := by
  intro F H ds vs d Q hs trk e h
  unfold φInt at e
  split at e
  · cases e
    obtain ⟨x, rfl, h1⟩ := iss1 hs
    cases is_int h1
    exact .inl ⟨_, rfl, flat h ⟨rfl, rfl⟩⟩
  · cases e
    obtain ⟨x, rfl, h1⟩ := iss1 hs
    cases is_bl h1
    exact .inr ⟨_, rfl, flat h ⟨rfl, rfl⟩⟩
  · cases e
def φMin2 : List D → Option D := φI fun i j => some (.int (if j < i then j else i))
def φMax2 : List D → Option D := φI fun i j => some (.int (if j > i then j else i))
theorem ok_min2 : RdOK C φMin2 (fun xs H Q => ∃ i j, xs = [.int i, .int j] ∧ Q (.int (if j < i then j else i)) H) := by
  intro F H ds vs d Q hs trk e h
  obtain ⟨i, j, rfl, e⟩ := φI_some e
  cases e
  obtain ⟨x, y, rfl, h1, h2⟩ := iss2 hs
  cases is_int h1
  cases is_int h2
  exact ⟨_, _, rfl, flat h ⟨rfl, rfl⟩⟩
theorem ok_max2 : RdOK C φMax2 (fun xs H Q => ∃ i j, xs = [.int i, .int j] ∧ Q (.int (if j > i then j else i)) H) := by
  intro F H ds vs d Q hs trk e h
  obtain ⟨i, j, rfl, e⟩ := φI_some e
  cases e
  obtain ⟨x, y, rfl, h1, h2⟩ := iss2 hs
  cases is_int h1
  cases is_int h2
  exact ⟨_, _, rfl, flat h ⟨rfl, rfl⟩⟩

/-! ### an item by its place -/
def φAt : List D → Option D
  | [.lst _ xs, .int i] => (match atI xs i with
    | some d => if fro d = true then some d else none
    | none => none)
  | [.tup xs, .int i] => atI xs i
  | _ => none
theorem reps_atI {ds : List D} {vs : List V} {q : List Addr} {i : Int} {d : D} (x : C.reps F H ds vs q) (e : atI ds i = some d) : ∃ v q', atI vs i = some v ∧ C.rep F H d v q' ∧ ∀ a ∈ q', a ∈ q := by
  unfold atI at e ⊢
  rw [reps_len x] at e
  cases h : ixN vs.length i with
  | none => rw [h] at e; cases e
  | some j =>
    rw [h] at e
    obtain ⟨v, q', h1, h2, h3⟩ := reps_at x (show ds[j]? = some d from e)
    exact ⟨v, q', h1, h2, h3⟩
abbrev rAt (K : PySem.W.Frag) : R2 := fun x y H Q => rIxL K x y H Q ∨ rIxT K x y H Q
theorem ix_at : IxR C.X (fun x y H Q => rIxL C.X.K x y H Q ∨ rIxT C.X.K x y H Q) := ix_list.or ix_tup
theorem ok_at : RdOK C φAt (R2' (rAt C.X.K)) := by
  intro F H ds vs d Q hs trk e h
  unfold φAt at e
  split at e
  · rename_i o xs i
    split at e
    · rename_i d' ea
      split at e
      · rename_i hf
        cases e
        obtain ⟨x, y, rfl, h1, h2⟩ := iss2 hs
        obtain ⟨a, us, q1, rfl, ha, ra, _⟩ := is_lst h1
        cases is_int h2
        obtain ⟨v, q', e1, rp, _⟩ := reps_atI ra ea
        have z := fro_nil hf rp
        subst z
        exact ⟨_, _, rfl, .inl ⟨a, us, i, v, rfl, rfl, SqL.of ha, e1, flat h rp⟩⟩
      · cases e
    · cases e
  · rename_i xs i
    obtain ⟨x, y, rfl, h1, h2⟩ := iss2 hs
    obtain ⟨a, us, rfl, ha, ra⟩ := is_tup h1
    cases is_int h2
    obtain ⟨v, q', e1, rp, sub⟩ := reps_atI ra e
    have z : q' = [] := by
      cases q' with
      | nil => rfl
      | cons b r => exact absurd (sub b List.mem_cons_self) (by simp)
    subst z
    exact ⟨_, _, rfl, .inr ⟨a, us, i, v, rfl, rfl, SqT.of ha, e1, flat h rp⟩⟩
  · cases e
end
end DL

namespace DL
open PySem PySem.Spec PyProof.Rows L2
inductive Fl where
  | nx | bk | ct | ret (d : DL.D) | exc (c : Str) (fs : List (Str × DL.D))
abbrev SF := Env → Option (Fl × Env)
section
variable (C : Ctx)
def PostS (F : FS) (H : Hp) (p : List Addr) (En : Ends) (fl : Fl) (env' : Env) : Prop :=
  match fl with
  | .nx => ∀ σ' H' F' p', Ext true F H p F' H' p' → Rel C env' σ' F' H' p' → En.nx σ' H'
  | .bk => ∀ σ' H' F' p', Ext true F H p F' H' p' → Rel C env' σ' F' H' p' → En.bk σ' H'
  | .ct => ∀ σ' H' F' p', Ext true F H p F' H' p' → Rel C env' σ' F' H' p' → En.ct σ' H'
  | .ret d => ∀ v σ' H' F' p' q, Ext true F H p F' H' (q ++ p') → Rel C env' σ' F' H' p' → C.rep F' H' d v q → Apart F' q p' → En.rt v H'
  | .exc c fs => ∀ dx σ' H' F' p', Ext true F H p F' H' p' → Rel C env' σ' F' H' p' → excD C F' H' fs dx → C.W (.ref (He.ga C.X.K c)) dx H'
def TSx (g : SF) : TS := fun En σ H => ∃ F p env, Rel C env σ F H p ∧ ∃ fl env', g env = some (fl, env') ∧ PostS C F H p En fl env'
end
section
variable {C : Ctx} {m : Bool} {F F1 F' : FS} {H H1 H' : Hp} {p p1 p' q r : List Addr} {σ : St} {env : Env} {En : Ends} {pos : Pos}
theorem PostS.trans {fl : Fl} {env' : Env} (h : PostS C F H p En fl env') (x : Ext true F H p F1 H1 p1) : PostS C F1 H1 p1 En fl env' := by
  cases fl with
  | nx => exact fun σ' H' F' p' y => h σ' H' F' p' (x.trans y)
  | bk => exact fun σ' H' F' p' y => h σ' H' F' p' (x.trans y)
  | ct => exact fun σ' H' F' p' y => h σ' H' F' p' (x.trans y)
  | ret d => exact fun v σ' H' F' p' q y => h v σ' H' F' p' q (x.trans y)
  | exc c fs => exact fun dx σ' H' F' p' y => h dx σ' H' F' p' (x.trans y)
def snx : SF := fun env => some (.nx, env)
def sbk : SF := fun env => some (.bk, env)
def sct : SF := fun env => some (.ct, env)
def sseq (f g : SF) : SF := fun env => match f env with
  | some (.nx, e1) => g e1
  | r => r
theorem s_nil : PSs C.X [] (TSx C snx) := pssImp pss_nil fun En σ H ⟨F, p, env, rel, fl, env', e, post⟩ => by
  cases e
  exact post σ H F p Ext.refl rel
theorem s_pass : PS C.X (.Pass pos) (TSx C snx) := psImp ps_pass fun En σ H ⟨F, p, env, rel, fl, env', e, post⟩ => by
  cases e
  exact post σ H F p Ext.refl rel
theorem s_break : PS C.X (.Break pos) (TSx C sbk) := psImp ps_break fun En σ H ⟨F, p, env, rel, fl, env', e, post⟩ => by
  cases e
  exact post σ H F p Ext.refl rel
theorem s_cont : PS C.X (.Continue pos) (TSx C sct) := psImp ps_continue fun En σ H ⟨F, p, env, rel, fl, env', e, post⟩ => by
  cases e
  exact post σ H F p Ext.refl rel
theorem tsx_seq {f g : SF} (h : TSx C (sseq f g) En σ H) : TSx C f { En with nx := TSx C g En } σ H := by
  obtain ⟨F, p, env, rel, fl, env', e, post⟩ := h
  refine ⟨F, p, env, rel, ?_⟩
  unfold sseq at e
  split at e
  · rename_i e1 ef
    exact ⟨_, _, ef, fun σ1 H1 F1 p1 x1 rel1 => ⟨F1, p1, e1, rel1, fl, env', e, post.trans x1⟩⟩
  · rename_i hn
    refine ⟨_, _, e, ?_⟩
    cases fl with
    | nx => exact absurd e (hn _)
    | bk => exact post
    | ct => exact post
    | ret d => exact post
    | exc c fs => exact post
theorem s_cons {st : Stmt} {rest : List Stmt} {f g : SF} (h1 : PS C.X st (TSx C f)) (h2 : PSs C.X rest (TSx C g)) : PSs C.X (st :: rest) (TSx C (sseq f g)) :=
  pssImp (pss_cons h1 h2) fun _ _ _ h => tsx_seq h
theorem s_one {st : Stmt} {f : SF} (h1 : PS C.X st (TSx C f)) : PSs C.X [st] (TSx C f) := pss_one h1

/-- from an expression's value on -/
def sx (f : XF) (k : DL.D → SF) : SF := fun env => match f env with
  | some (.val d, e1) => k d e1
  | some (.exc c fs, e1) => some (.exc c fs, e1)
  | none => none
theorem tsx_x {f : XF} {k : DL.D → SF} (h : TSx C (sx f k) En σ H) : TX C true f σ H fun v H1 => ∃ F1 p1 q1 e1 d fl env', Rel C e1 σ F1 H1 p1 ∧ C.rep F1 H1 d v q1 ∧ Apart F1 q1 p1 ∧ k d e1 = some (fl, env') ∧ PostS C F1 H1 (q1 ++ p1) En fl env' := by
  obtain ⟨F, p, env, rel, fl, env', e, post⟩ := h
  refine ⟨F, p, env, rel, ?_⟩
  unfold sx at e
  split at e
  · rename_i d e1 ef
    exact ⟨_, _, ef, fun v H1 F1 p1 q1 x1 rel1 rp1 ap1 => ⟨F1, p1, q1, e1, d, fl, env', rel1, rp1, ap1, e, post.trans x1⟩⟩
  · rename_i c fs e1 ef
    cases e
    exact ⟨_, _, ef, fun dx H1 F1 p1 x1 rel1 ed => post dx σ H1 F1 p1 x1 rel1 ed⟩
  · cases e
def sret (f : XF) : SF := sx f fun d env => some (.ret d, env)
theorem s_ret {e : Expr} {f : XF} (he : PE C.X e (TX C true f)) : PS C.X (.Return (some e) pos) (TSx C (sret f)) := psImp (ps_ret he) fun En σ H h =>
  tx_imp (tsx_x h) fun v H1 ⟨F1, p1, q1, e1, d, fl, env', rel1, rp1, ap1, e, post⟩ => by
    cases e
    exact post v σ H1 F1 p1 q1 Ext.refl rel1 rp1 ap1
theorem s_retN : PS C.X (.Return none pos) (TSx C (fun env => some (.ret .non, env))) := psImp ps_retN fun En σ H ⟨F, p, env, rel, fl, env', e, post⟩ => by
  cases e
  exact post .non σ H F p [] Ext.refl rel ⟨rfl, rfl⟩ Apart.nil
def sexpr (f : XF) : SF := sx f fun _ env => some (.nx, env)
theorem s_expr {e : Expr} {f : XF} (he : PE C.X e (TX C true f)) (hs : swapsWith e none pos.line C.X.env = pure false := by rfl) : PS C.X (.Expr e pos) (TSx C (sexpr f)) := psImp (ps_expr he hs) fun En σ H h =>
  tx_imp (tsx_x h) fun v H1 ⟨F1, p1, q1, e1, d, fl, env', rel1, rp1, ap1, e, post⟩ => by
    cases e
    exact post σ H1 F1 p1 (Ext.refl.sub fun a h => List.mem_append_right _ h) rel1
/-- a docstring -/
theorem s_doc {x : Str} {j : Nat} {pos' : Pos} : PS C.X (.Expr (.Constant (.str x) j pos) pos') (TSx C snx) := psImp ps_doc fun En σ H ⟨F, p, env, rel, fl, env', e, post⟩ => by
  cases e
  exact post σ H F p Ext.refl rel

/-! ### targets -/
abbrev AS := DL.D → Env → Option Env
/-- only the slots is have another value -/
def Onl (is : List Nat) (σ σ' : St) : Prop := σ'.length = σ.length ∧ ∀ j, j ∉ is → σ'[j]? = σ[j]?
def TGx (C : Ctx) (is : List Nat) (a : AS) : TG := fun v σ H Q => ∃ F p env d q, Rel C env σ F H p ∧ C.rep F H d v q ∧ Apart F q p ∧ ∃ env', a d env = some env' ∧ ∀ σ' H' F' p', Onl is σ σ' → Ext true F H (q ++ p) F' H' p' → Rel C env' σ' F' H' p' → Q σ' H'
def aset (i : Nat) : AS := fun d env => match env[i]? with
  | some _ => some (env.set i (some d))
  | none => none
theorem getElem?_set_of {σ : St} {i j : Nat} {v : V} (h : j ≠ i) : (σ.set i (some v))[j]? = σ[j]? := by
  rw [List.getElem?_set_ne (Ne.symm h)]
/-- data put into a slot -/
theorem Rel.put (rel : Rel C env σ F H p) {i : Nat} {d : DL.D} {v : V} (hi : i < env.length) (hx : i ∉ C.fx) (rp : C.rep F H d v q) (ap : Apart F q p) :
    ∃ p', Rel C (env.set i (some d)) (σ.set i (some v)) F H p' ∧ ∀ a ∈ p', a ∈ q ++ p := by
  obtain ⟨l, r, h1, h2, h3⟩ := repE_put rel.slots hi
  have sl := h3 F H d v q (Stab.same fun _ h => h) rp
  refine ⟨l ++ (q ++ r), ⟨sl, ?_, ?_, rel.trk, rel.tabs, fun j hj => ?_⟩, ?_⟩
  · obtain ⟨n1, n2, n3⟩ := List.nodup_append.mp (h2 rel.nd)
    refine List.nodup_append.mpr ⟨n1, List.nodup_append.mpr ⟨ap.nd, n2, fun a ha b hb e => ?_⟩, fun a ha b hb e => ?_⟩
    · exact ap.dis a ha (h1 a (by rw [e]; exact List.mem_append_right _ hb))
    · rcases List.mem_append.mp hb with hb | hb
      · exact ap.dis b hb (h1 b (by rw [← e]; exact List.mem_append_left _ ha))
      · exact n3 a ha b hb e
  · intro a ha
    rcases List.mem_append.mp ha with ha | ha
    · exact rel.dis a (h1 a (List.mem_append_left _ ha))
    · rcases List.mem_append.mp ha with ha | ha
      · exact ap.fr a ha
      · exact rel.dis a (h1 a (List.mem_append_right _ ha))
  · rw [getElem?_set_of fun e => hx (by rw [← e]; exact hj)]
    exact rel.fx j hj
  · intro a ha
    rcases List.mem_append.mp ha with ha | ha
    · exact List.mem_append_right _ (h1 a (List.mem_append_left _ ha))
    · rcases List.mem_append.mp ha with ha | ha
      · exact List.mem_append_left _ ha
      · exact List.mem_append_right _ (h1 a (List.mem_append_right _ ha))
theorem lt_of_some {α : Type} {l : List α} {i : Nat} {x : α} (h : l[i]? = some x) : i < l.length := (List.getElem?_eq_some_iff.mp h).1
theorem g_name {i : Nat} {x : Str} (hN : C.X.N.Nodup) (hi : C.X.N[i]? = some x) (hl : Loc C.X.env.scope x) (hx : i ∉ C.fx) (hf : C.X.fn x = true ∨ C.X.env.scope.names.lookup x = some .local := by first | exact .inl rfl | exact .inr rfl) : PG C.X (.Name x pos) (TGx C [i] (aset i)) := by
  have z := pg_name (X := C.X) (pos := pos) hN hi hl hf
  refine ⟨fun pins s σ H v u Q I r ⟨F, p, env, d, q, rel, rp, ap, env', e, post⟩ => z.run pins s σ H v u Q I r ?_⟩
  unfold aset at e
  split at e
  · rename_i y hy
    cases e
    obtain ⟨p', rel', sub⟩ := rel.put (lt_of_some hy) hx rp ap
    exact post _ _ F p' ⟨List.length_set, fun j hj => getElem?_set_of (by simpa using hj)⟩ (Ext.refl.sub sub) rel'
  · cases e
/-- several names from a tuple's items -/
def aseq : List AS → List DL.D → Env → Option Env
  | [], [], env => some env
  | a :: as, d :: ds, env => match a d env with
    | some e1 => aseq as ds e1
    | none => none
  | _, _, _ => none
def TGxs (C : Ctx) (is : List Nat) (as : List AS) : TGs := fun vs σ H Q => ∃ F p env ds, Rel C env σ F H p ∧ C.reps F H ds vs [] ∧ ∃ env', aseq as ds env = some env' ∧ ∀ σ' H' F' p', Onl is σ σ' → Ext true F H p F' H' p' → Rel C env' σ' F' H' p' → Q σ' H'
theorem pgsImp {X : Cx} {ts : List Expr} {t t' : TGs} (h : PGs X ts t) (i : ∀ vs σ H Q, t' vs σ H Q → t vs σ H Q) : PGs X ts t' := ⟨fun pins s σ H vs us Q I r z => h.run pins s σ H vs us Q I r (i vs σ H Q z)⟩
theorem pgImp {X : Cx} {e : Expr} {t t' : TG} (h : PG X e t) (i : ∀ v σ H Q, t' v σ H Q → t v σ H Q) : PG X e t' := ⟨fun pins s σ H vs us Q I r z => h.run pins s σ H vs us Q I r (i vs σ H Q z)⟩
theorem gs_nil : PGs C.X [] (TGxs C [] []) := pgsImp pgs_nil fun vs σ H Q ⟨F, p, env, ds, rel, rp, env', e, post⟩ => by
  cases ds with
  | nil =>
    cases e
    exact ⟨rp.1, post σ H F p ⟨rfl, fun _ _ => rfl⟩ Ext.refl rel⟩
  | cons d ds => cases e
theorem gs_cons {e : Expr} {es : List Expr} {is js : List Nat} {a : AS} {as : List AS} (h1 : PG C.X e (TGx C is a)) (h2 : PGs C.X es (TGxs C js as)) (hs : (assignEach (e :: es) C.X.env).map (·.2) = assign e C.X.env :: (assignEach es C.X.env).map (·.2) := by rfl) : PGs C.X (e :: es) (TGxs C (is ++ js) (a :: as)) := pgsImp (pgs_cons h1 h2 hs) fun vs σ H Q ⟨F, p, env, ds, rel, rp, env', e, post⟩ => by
  cases ds with
  | nil => cases e
  | cons d ds =>
    obtain ⟨v, ws, q, r, ev, x1, x2, hq⟩ := rp
    obtain ⟨rfl, rfl⟩ := List.append_eq_nil_iff.mp hq.symm
    unfold aseq at e
    split at e
    · rename_i e1 ha
      refine ⟨v, ws, ev, F, p, env, d, [], rel, x1, Apart.nil, e1, ha, fun σ1 H1 F1 p1 o1 y1 rel1 => ⟨F1, p1, e1, ds, rel1, reps_mono x2 (y1.stab (p := p) rel.dis rel.ow fun _ _ h => by cases h), env', e, fun σ' H' F' p' o2 y => post σ' H' F' p' ⟨o2.1.trans o1.1, fun j hj => (o2.2 j fun h => hj (List.mem_append_right _ h)).trans (o1.2 j fun h => hj (List.mem_append_left _ h))⟩ (Ext.trans y1 y)⟩⟩
    · cases e
/-- the items of a tuple (of a list), told to targets -/
def atup (as : List AS) : AS := fun d env => match d with
  | .tup ds => if ds.length = as.length then aseq as ds env else none
  | _ => none
theorem g_tup {es : List Expr} {k : Nat} {is : List Nat} {as : List AS} (hc : C.X.calm = true) (h : PGs C.X es (TGxs C is as)) (hn : as.length = es.length := by rfl) (hn2 : (assignEach es C.X.env).length = es.length := by rfl) (hst : (assignEach es C.X.env).findIdx? (·.1) = none := by rfl) : PG C.X (.Tuple es k pos) (TGx C is (atup as)) := by
  refine pgImp (pg_tup (n := es.length) hc h hn2 hst) fun v σ H Q ⟨F, p, env, d, q, rel, rp, ap, env', e, post⟩ => ?_
  unfold atup at e
  split at e
  · rename_i ds
    split at e
    · rename_i hl
      obtain ⟨a, vs, ev, ha, ra, q0⟩ := rp
      subst q0
      exact ⟨a, vs, ev, SqT.of ha, by rw [← reps_len ra, hl, hn], F, p, env, ds, rel, ra, env', e, post⟩
    · cases e
  · cases e
def sasg (f : XF) (a : AS) : SF := sx f fun d env => match a d env with
  | some e1 => some (.nx, e1)
  | none => none
theorem s_asg {tg e : Expr} {is : List Nat} {f : XF} {a : AS} (he : PE C.X e (TX C true f)) (hg : PG C.X tg (TGx C is a)) (hs : swapsWithSole [tg] e pos.line C.X.env = pure false := by rfl) (hw : swappedStores [tg] e C.X.env = pure none := by rfl) (h1 : (assignEach [tg] C.X.env).map (·.2) = [assign tg C.X.env] := by rfl) : PS C.X (.Assign [tg] e pos) (TSx C (sasg f a)) :=
  psImp (ps_asg he hg hs hw h1) fun En σ H h => tx_imp (tsx_x h) fun v H1 ⟨F1, p1, q1, e1, d, fl, env', rel1, rp1, ap1, e, post⟩ => by
    split at e
    · rename_i e2 ha
      cases e
      exact ⟨F1, p1, e1, d, q1, rel1, rp1, ap1, _, ha, fun σ' H' F' p' _ y rel' => post σ' H' F' p' y rel'⟩
    · cases e

/-! ### if -/
def sif (f : XF) (g h : SF) : SF := fun env => match f env with
  | some (.val (.bl true), e1) => g e1
  | some (.val (.bl false), e1) => h e1
  | some (.exc c fs, e1) => some (.exc c fs, e1)
  | _ => none
theorem s_if {c : Expr} {a b : List Stmt} {f : XF} {g h : SF} (hc : PT C.X c (TTX C true f)) (ha : PSs C.X a (TSx C g)) (hb : PSs C.X b (TSx C h)) : PS C.X (.If c a b pos) (TSx C (sif f g h)) := by
  refine psImp (ps_if hc ha hb) fun En σ H ⟨F, p, env, rel, fl, env', e, post⟩ => ⟨F, p, env, rel, ?_⟩
  unfold sif at e
  split at e
  · rename_i e1 ef
    refine ⟨_, _, ef, fun v H1 F1 p1 q1 x1 rel1 rp1 ap1 => ?_⟩
    obtain ⟨ev, eq⟩ := rp1
    subst eq
    refine ⟨true, ev, ?_⟩
    show (if true = true then TSx C g En σ H1 else TSx C h En σ H1)
    rw [if_pos rfl]
    exact ⟨F1, p1, e1, rel1, fl, env', e, post.trans x1⟩
  · rename_i e1 ef
    refine ⟨_, _, ef, fun v H1 F1 p1 q1 x1 rel1 rp1 ap1 => ?_⟩
    obtain ⟨ev, eq⟩ := rp1
    subst eq
    refine ⟨false, ev, ?_⟩
    show (if false = true then TSx C g En σ H1 else TSx C h En σ H1)
    rw [if_neg Bool.false_ne_true]
    exact ⟨F1, p1, e1, rel1, fl, env', e, post.trans x1⟩
  · rename_i c' fs e1 ef
    cases e
    exact ⟨_, _, ef, fun dx H1 F1 p1 x1 rel1 ed => post dx σ H1 F1 p1 x1 rel1 ed⟩
  · cases e

/-! ### what is walked -/
inductive ResI where
  | items (ds : List DL.D) | exc (c : Str) (fs : List (Str × DL.D))
abbrev IF := Env → Option (ResI × Env)
/-- the iterator yields ds, whatever happens to what is not frozen -/
def IterOK (C : Ctx) (J : It) (ds : List DL.D) (F : FS) (H : Hp) (p : List Addr) : Prop :=
  ∀ F2 H2 p2, Ext true F H p F2 H2 p2 → (∀ a, F2 a → H2 a ≠ none) →
    (∀ i d, ds[i]? = some d → J.go i H2 ∧ ∀ x H3, J.yld i H2 x H3 → (∀ a o, H2 a = some o → H3 a = some o) ∧ C.rep F2 H3 d x []) ∧ J.stop ds.length H2
def PostI (C : Ctx) (F : FS) (H : Hp) (p : List Addr) (σ : St) (R : It → Hp → Prop) (r : ResI) (env' : Env) : Prop :=
  match r with
  | .items ds => ∀ J H' F' p', Ext true F H p F' H' p' → Rel C env' σ F' H' p' → IterOK C J ds F' H' p' → R J H'
  | .exc c fs => ∀ dx H' F' p', Ext true F H p F' H' p' → Rel C env' σ F' H' p' → excD C F' H' fs dx → C.W (.ref (He.ga C.X.K c)) dx H'
def TIx (C : Ctx) (h : IF) : TI := fun σ H R => ∃ F p env, Rel C env σ F H p ∧ ∃ r env', h env = some (r, env') ∧ PostI C F H p σ R r env'
theorem piImp {X : Cx} {tg e : Expr} {t t' : TI} (h : PI X tg e t) (i : ∀ σ H R, t' σ H R → t σ H R) : PI X tg e t' := ⟨fun pins s σ H R I z => h.run pins s σ H R I (i σ H R z)⟩
/-- from an operand's values on -/
def ix (g : AF) (k : List DL.D → Option (List DL.D)) : IF := fun env => match g env with
  | some (.vals as, e1) => (match tmps as with
    | some ds => (match k ds with
      | some es => some (.items es, e1)
      | none => none)
    | none => none)
  | some (.exc c fs, e1) => some (.exc c fs, e1)
  | none => none
theorem tix {g : AF} {k : List DL.D → Option (List DL.D)} {R : It → Hp → Prop} (h : TIx C (ix g k) σ H R) : TAX C true g σ H fun vs H1 => ∃ F1 p1 q1 ds es, C.reps F1 H1 ds vs q1 ∧ k ds = some es ∧ (∀ a, F1 a → H1 a ≠ none) ∧ (∀ a ∈ p1, ¬ (F1 a ∨ a ∈ q1)) ∧ (∀ a ∈ p1, ∃ o, H1 a = some o ∧ Ow o) ∧
    ∀ J H2, (∀ a o, H1 a = some o → H2 a = some o) → IterOK C J es (fun a => F1 a ∨ a ∈ q1) H2 p1 → R J H2 := by
  obtain ⟨F, p, env, rel, r, env', e, post⟩ := h
  refine ⟨F, p, env, rel, ?_⟩
  unfold ix at e
  split at e
  · rename_i as e1 eg
    refine ⟨_, _, eg, fun vs H1 F1 p1 q1 x1 rel1 ar1 ap1 => ?_⟩
    split at e
    · rename_i ds ed
      split at e
      · rename_i es ek
        cases e
        have rp := arP_reps ed ar1
        refine ⟨F1, p1, q1, ds, es, rp, ek, rel1.trk, fun a ha h => h.elim (rel1.dis a ha) fun h => ap1.dis a h ha, rel1.ow, fun J H2 g2 it => ?_⟩
        have rel2 := rel1.grow g2
        have th : ∀ a ∈ q1, H2 a ≠ none := fun a ha => by
          obtain ⟨o, e, _⟩ := reps_there rp a ha
          rw [g2 a o e]
          intro z
          cases z
        refine post J H2 (fun a => F1 a ∨ a ∈ q1) p1 ((x1.trans (Ext.grow (m := true) (F := F1) (p := q1 ++ p1) (q := []) g2 fun a h => by cases h)).trans (Ext.freeze (p := q1 ++ p1) (fun a h => .inl (List.mem_append_left _ h)) fun a h => List.mem_append_right _ h)) (rel2.freeze q1 ap1.dis th) it
      · cases e
    · cases e
  · rename_i c fs e1 eg
    cases e
    exact ⟨_, _, eg, post⟩
  · cases e
/-- a list or a tuple -/
theorem pi_sq {X : Cx} {tg l : Expr} {tl : TE} (hl : PE X l tl) : PI X tg l (fun σ H R => tl σ H fun x H1 => ∃ a, x = .ref a ∧ (((∃ xs, SqL X.K H1 a xs) ∧ R (Itl X.K a) H1) ∨ ((∃ xs, SqT X.K H1 a xs) ∧ R (Itt X.K a) H1))) := by
  refine ⟨fun pins s σ H R I h => ?_⟩
  refine thn (hl.run pins s σ H _ I h) fun v s1 ⟨x, H1, I1, r1, q1⟩ => ?_
  obtain ⟨a, e, q1⟩ := q1
  subst e
  cases r1
  rcases q1 with ⟨⟨xs, hq⟩, q⟩ | ⟨⟨xs, hq⟩, q⟩
  · obtain ⟨its, rv, p, hz⟩ := I1.list hq
    refine wpAny_pyIter_list p.isList ?_
    refine ⟨s1.heap.objs.size, [s1.heap.objs.size], _, _, H1, rfl, I1.kept (t' := s1.toks) fun b o e => Heap.get?_push_of_some _ e, turn_list a _, ⟨_, Heap.get?_push_size _ rfl, rfl, rfl⟩, fun b hb => ?_, q⟩
    have e : b = s1.heap.objs.size := by simpa using hb
    subst e
    exact I1.fpOk (Nat.le_refl _) (I1.hok.fresh (Nat.le_refl _))
  · obtain ⟨its, rv, p, hz⟩ := I1.tuple hq
    refine wpAny_pyIter_tuple (show s1.heap.IsTuple a its.toArray from p) ?_
    refine ⟨s1.heap.objs.size, [s1.heap.objs.size], _, _, H1, rfl, I1.kept (t' := s1.toks) fun b o e => Heap.get?_push_of_some _ e, turn_tuple a _, ⟨_, Heap.get?_push_size _ rfl, rfl, rfl⟩, fun b hb => ?_, q⟩
    have e : b = s1.heap.objs.size := by simpa using hb
    subst e
    exact I1.fpOk (Nat.le_refl _) (I1.hok.fresh (Nat.le_refl _))
/-- the items of a list or tuple, all frozen -/
def kSeq : List DL.D → Option (List DL.D)
  | [.tup xs] => some xs
  | [.lst _ xs] => if xs.all fro = true then some xs else none
  | [.scr ns] => some (ns.map .int)
  | _ => none
theorem sql_keep {K : PySem.W.Frag} {a : Addr} {xs : List V} (h : SqL K H a xs) (k : ∀ o, H a = some o → (∀ ps, o ≠ .tbl ps) → H' a = some o) : SqL K H' a xs := by
  rcases h with (h | ⟨o, h⟩) | h
  · exact .inl (.inl (k _ h fun _ z => nomatch z))
  · exact .inl (.inr ⟨o, k _ h fun _ z => nomatch z⟩)
  · exact .inr h
/-- a frozen sequence, walked -/
theorem iterL {xs : List DL.D} {vs : List V} {a : Addr} (ha : H a = some (.lst vs)) (fa : F a) (r : C.reps F H xs vs []) (dis : ∀ a ∈ p, ¬ F a) (ow : ∀ a ∈ p, ∃ o, H a = some o ∧ Ow o) : IterOK C (Itl C.X.K a) xs F H p := by
  intro F2 H2 p2 x2 trk2
  have na : a ∉ p := fun h => dis a h fa
  have ha2 : H2 a = some (.lst vs) := x2.keep a _ ha (fun _ z => nomatch z) fun _ => na
  have r2 : C.reps F2 H2 xs vs [] := reps_mono r (x2.stab dis ow fun _ _ h => by cases h)
  refine ⟨fun i d e => ?_, ⟨vs, SqL.of ha2, by rw [reps_len r]; exact Nat.le_refl _⟩⟩
  obtain ⟨v, q', e1, rp, sub⟩ := reps_at r2 e
  have z : q' = [] := by
    cases q' with
    | nil => rfl
    | cons b r => exact absurd (sub b List.mem_cons_self) (by simp)
  subst z
  refine ⟨⟨vs, v, SqL.of ha2, e1⟩, fun x H3 y => ?_⟩
  obtain ⟨rfl, y⟩ := y
  have e2 := y vs (SqL.of ha2)
  rw [e1] at e2
  cases e2
  exact ⟨fun _ _ e => e, rp⟩
theorem iterT {xs : List DL.D} {vs : List V} {a : Addr} (ha : H a = some (.tup vs)) (r : C.reps F H xs vs []) (dis : ∀ a ∈ p, ¬ F a) (ow : ∀ a ∈ p, ∃ o, H a = some o ∧ Ow o) : IterOK C (Itt C.X.K a) xs F H p := by
  intro F2 H2 p2 x2 trk2
  have na : a ∉ p := fun h => by
    obtain ⟨o, e, w⟩ := ow a h
    rw [ha] at e
    cases e
    exact w
  have ha2 : H2 a = some (.tup vs) := x2.keep a _ ha (fun _ z => nomatch z) fun _ => na
  have r2 : C.reps F2 H2 xs vs [] := reps_mono r (x2.stab dis ow fun _ _ h => by cases h)
  refine ⟨fun i d e => ?_, ⟨vs, SqT.of ha2, by rw [reps_len r]; exact Nat.le_refl _⟩⟩
  obtain ⟨v, q', e1, rp, sub⟩ := reps_at r2 e
  have z : q' = [] := by
    cases q' with
    | nil => rfl
    | cons b r => exact absurd (sub b List.mem_cons_self) (by simp)
  subst z
  refine ⟨⟨vs, v, SqT.of ha2, e1⟩, fun x H3 y => ?_⟩
  obtain ⟨rfl, y⟩ := y
  have e2 := y vs (SqT.of ha2)
  rw [e1] at e2
  cases e2
  exact ⟨fun _ _ e => e, rp⟩
theorem iterScr {ns : List Int} {a : Addr} (ha : SqL C.X.K H a (ns.map V.int)) (fa : F a ∨ ∀ H', SqL C.X.K H' a (ns.map V.int)) (dis : ∀ a ∈ p, ¬ F a) : IterOK C (Itl C.X.K a) (ns.map .int) F H p := by
  intro F2 H2 p2 x2 trk2
  have ha2 : SqL C.X.K H2 a (ns.map V.int) := by
    rcases fa with fa | fa
    · exact sql_keep ha fun o e nt => x2.keep a _ e nt fun _ h => dis a h fa
    · exact fa _
  refine ⟨fun i d e => ?_, ⟨_, ha2, by rw [List.length_map, List.length_map]; exact Nat.le_refl _⟩⟩
  rw [List.getElem?_map] at e
  obtain ⟨n, e1, rfl⟩ := Option.map_eq_some_iff.mp e
  have e3 : (ns.map V.int)[i]? = some (V.int n) := by rw [List.getElem?_map, e1]; rfl
  refine ⟨⟨_, _, ha2, e3⟩, fun x H3 y => ?_⟩
  obtain ⟨rfl, y⟩ := y
  have e2 := y _ ha2
  rw [e3] at e2
  cases e2
  exact ⟨fun _ _ e => e, rfl, rfl⟩
theorem reps_one {d : DL.D} {vs : List V} (h : C.reps F H [d] vs q) : ∃ v, vs = [v] ∧ C.rep F H d v q := by
  obtain ⟨v, ws, q1, r, e, x1, x2, hq⟩ := h
  obtain ⟨rfl, rfl⟩ := x2
  rw [List.append_nil] at hq
  subst hq
  exact ⟨v, e, x1⟩
theorem i_seq {tg l : Expr} {f : XF} (hl : PE C.X l (TX C true f)) : PI C.X tg l (TIx C (ix (consA f nilA) kSeq)) := by
  refine piImp (pi_sq hl) fun σ H R h => tx_imp (tax_cons (tix h)) fun x H1 z => ?_
  obtain ⟨F1, p1, q1, ds, es, rp, ek, trk, dis, ow, go⟩ := tax_nil z
  unfold kSeq at ek
  split at ek
  · rename_i xs
    cases ek
    obtain ⟨v, e, rp⟩ := reps_one rp
    cases e
    obtain ⟨a, vs, rfl, ha, ra, q0⟩ := rp
    exact ⟨a, rfl, .inr ⟨⟨vs, SqT.of ha⟩, go _ _ (fun _ _ e => e) (iterT ha (reps_mono ra (Stab.same fun _ h => .inl h)) dis ow)⟩⟩
  · rename_i o xs
    split at ek
    · rename_i hf
      cases ek
      obtain ⟨v, e, rp⟩ := reps_one rp
      cases e
      obtain ⟨a, vs, q2, rfl, ra, how⟩ := rp
      have z := reps_fro hf ra
      subst z
      have fa : F1 a ∨ a ∈ q1 := by
        cases o with
        | true => exact .inr (by rw [how.2]; exact List.mem_cons_self)
        | false => exact .inl how.1
      have ha : H1 a = some (.lst vs) := by
        cases o with
        | true => exact how.1
        | false => exact how.2.1
      exact ⟨a, rfl, .inl ⟨⟨vs, SqL.of ha⟩, go _ _ (fun _ _ e => e) (iterL ha fa (reps_mono ra (Stab.same fun _ h => .inl h)) dis ow)⟩⟩
    · cases ek
  · rename_i ns
    cases ek
    obtain ⟨v, e, rp⟩ := reps_one rp
    cases e
    obtain ⟨a, rfl, fa, ha, q0⟩ := rp
    exact ⟨a, rfl, .inl ⟨⟨_, ha⟩, go _ _ (fun _ _ e => e) (iterScr ha (fa.imp .inl id) dis)⟩⟩
  · cases ek

/-! ### for -/
def forL (a : AS) (body : SF) : List DL.D → SF
  | [], env => some (.nx, env)
  | d :: ds, env => match a d env with
    | some e1 => (match body e1 with
      | some (.nx, e2) => forL a body ds e2
      | some (.ct, e2) => forL a body ds e2
      | some (.bk, e2) => some (.nx, e2)
      | r => r)
    | none => none
def sfor (h : IF) (a : AS) (body : SF) : SF := fun env => match h env with
  | some (.items ds, e1) => forL a body ds e1
  | some (.exc c fs, e1) => some (.exc c fs, e1)
  | none => none
theorem drop_cons {α : Type} {l : List α} {i : Nat} (h : i < l.length) : l.drop i = l[i] :: l.drop (i + 1) := List.drop_eq_getElem_cons h
theorem tsx_for {h : IF} {is : List Nat} {a : AS} {body : SF} (z : TSx C (sfor h a body) En σ H) : tFor (TIx C h) (TGx C is a) (TSx C body) En σ H := by
  obtain ⟨F, p, env, rel, fl, env', e, post⟩ := z
  refine ⟨F, p, env, rel, ?_⟩
  unfold sfor at e
  split at e
  · rename_i ds e1 eh
    refine ⟨_, _, eh, fun J H1 F1 p1 x1 rel1 it => ?_⟩
    have post1 := post.trans x1
    refine ⟨fun i m σ2 H2 => i ≤ ds.length ∧ m = ds.length - i ∧ ∃ F2 p2 env2, Ext true F1 H1 p1 F2 H2 p2 ∧ Rel C env2 σ2 F2 H2 p2 ∧ forL a body (ds.drop i) env2 = some (fl, env'),
      ⟨ds.length, Nat.zero_le _, rfl, F1, p1, e1, Ext.refl, rel1, e⟩, ?_⟩
    rintro i m σ2 H2 ⟨hi, rfl, F2, p2, env2, x2, rel2, ef⟩
    obtain ⟨go, stop⟩ := it F2 H2 p2 x2 rel2.trk
    by_cases hlt : i < ds.length
    · obtain ⟨g1, g2⟩ := go i ds[i] (List.getElem?_eq_getElem hlt)
      refine .inr ⟨g1, fun σ' H' => i + 1 ≤ ds.length ∧ ∃ F2 p2 env2, Ext true F1 H1 p1 F2 H' p2 ∧ Rel C env2 σ' F2 H' p2 ∧ forL a body (ds.drop (i + 1)) env2 = some (fl, env'),
        fun σ' H' ⟨h1, h2⟩ => ⟨ds.length - (i + 1), by omega, h1, rfl, h2⟩, fun x H3 y => ?_⟩
      obtain ⟨gr, rp⟩ := g2 x H3 y
      have rel3 := rel2.grow gr
      have x3 : Ext true F1 H1 p1 F2 H3 p2 := x2.trans (Ext.grow (q := []) gr fun a h => by cases h)
      rw [drop_cons hlt] at ef
      unfold forL at ef
      split at ef
      · rename_i e3 ha
        refine ⟨F2, p2, env2, ds[i], [], rel3, rp, Apart.nil, e3, ha, fun σ4 H4 F4 p4 _ x4 rel4 => ?_⟩
        have x4' := x3.trans x4
        refine ⟨F4, p4, e3, rel4, ?_⟩
        split at ef
        · rename_i e5 eb
          exact ⟨_, _, eb, fun σ6 H6 F6 p6 x6 rel6 => ⟨hlt, F6, p6, e5, x4'.trans x6, rel6, ef⟩⟩
        · rename_i e5 eb
          exact ⟨_, _, eb, fun σ6 H6 F6 p6 x6 rel6 => ⟨hlt, F6, p6, e5, x4'.trans x6, rel6, ef⟩⟩
        · rename_i e5 eb
          cases ef
          exact ⟨_, _, eb, fun σ6 H6 F6 p6 x6 rel6 => post1 σ6 H6 F6 p6 (x4'.trans x6) rel6⟩
        · rename_i n1 n2 n3
          refine ⟨_, _, ef, ?_⟩
          have post4 := post1.trans x4'
          cases fl with
          | nx => exact absurd ef (n1 _)
          | ct => exact absurd ef (n2 _)
          | bk => exact absurd ef (n3 _)
          | ret d => exact post4
          | exc c fs => exact post4
      · cases ef
    · have ei : i = ds.length := by omega
      subst ei
      refine .inl ⟨stop, ?_⟩
      rw [List.drop_eq_nil_of_le (Nat.le_refl _)] at ef
      cases ef
      exact post1 σ2 H2 F2 p2 x2 rel2
  · rename_i c fs e1 eh
    cases e
    exact ⟨_, _, eh, fun dx H1 F1 p1 x1 rel1 ed => post dx σ H1 F1 p1 x1 rel1 ed⟩
  · cases e
theorem s_for {tg iter : Expr} {body : List Stmt} {h : IF} {is : List Nat} {a : AS} {g : SF} (hp : PassesOwn (model C.X.prog C.X.w) C.X.A C.X.env C.X.xe) (hc : C.X.calm = true) (hi : PI C.X tg iter (TIx C h)) (hg : PG C.X tg (TGx C is a)) (hb : PSs C.X body (TSx C g))
    (hs : ∀ x, foldedSetIterable iter C.X.env x = pure x := by intro _; rfl) : PS C.X (.For tg iter body [] pos) (TSx C (sfor h a g)) := psImp (ps_for hp hc hi hg hb hs) fun _ _ _ z => tsx_for z

/-! ### while -/
def whileL (c : XF) (body : SF) : Nat → SF
  | 0, _ => none
  | n + 1, env => match c env with
    | some (.val (.bl true), e1) => (match body e1 with
      | some (.nx, e2) => whileL c body n e2
      | some (.ct, e2) => whileL c body n e2
      | some (.bk, e2) => some (.nx, e2)
      | r => r)
    | some (.val (.bl false), e1) => some (.nx, e1)
    | some (.exc c fs, e1) => some (.exc c fs, e1)
    | _ => none
theorem s_while {c : Expr} {body : List Stmt} {f : XF} {g : SF} {n : Nat} (hp : PassesOwn (model C.X.prog C.X.w) C.X.A C.X.env C.X.xe) (hc : PT C.X c (TTX C true f)) (hb : PSs C.X body (TSx C g)) : PS C.X (.While c body [] pos) (TSx C (whileL f g n)) := by
  refine psImp (ps_while hp hc hb) fun En σ H ⟨F, p, env, rel, fl, env', e, post⟩ => ?_
  refine ⟨fun m σ2 H2 => ∃ F2 p2 env2, Ext true F H p F2 H2 p2 ∧ Rel C env2 σ2 F2 H2 p2 ∧ whileL f g m env2 = some (fl, env'), ⟨n, F, p, env, Ext.refl, rel, e⟩, ?_⟩
  rintro m σ2 H2 ⟨F2, p2, env2, x2, rel2, ef⟩
  refine ⟨F2, p2, env2, rel2, ?_⟩
  cases m with
  | zero => cases ef
  | succ m =>
    unfold whileL at ef
    split at ef
    · rename_i e1 ec
      refine ⟨_, _, ec, fun v H3 F3 p3 q3 x3 rel3 rp3 ap3 => ?_⟩
      obtain ⟨ev, eq⟩ := rp3
      subst eq
      have x3' := x2.trans x3
      refine ⟨true, ev, ?_⟩
      show (if true = true then _ else _)
      rw [if_pos rfl]
      refine ⟨fun σ' H' => ∃ F2 p2 env2, Ext true F H p F2 H' p2 ∧ Rel C env2 σ' F2 H' p2 ∧ whileL f g m env2 = some (fl, env'), fun σ' H' h => ⟨m, Nat.lt_succ_self _, h⟩, F3, p3, e1, rel3, ?_⟩
      split at ef
      · rename_i e5 eb
        exact ⟨_, _, eb, fun σ6 H6 F6 p6 x6 rel6 => ⟨F6, p6, e5, Ext.trans x3' x6, rel6, ef⟩⟩
      · rename_i e5 eb
        exact ⟨_, _, eb, fun σ6 H6 F6 p6 x6 rel6 => ⟨F6, p6, e5, Ext.trans x3' x6, rel6, ef⟩⟩
      · rename_i e5 eb
        cases ef
        exact ⟨_, _, eb, fun σ6 H6 F6 p6 x6 rel6 => post σ6 H6 F6 p6 (Ext.trans x3' x6) rel6⟩
      · rename_i n1 n2 n3
        refine ⟨_, _, ef, ?_⟩
        have post4 := post.trans x3'
        cases fl with
        | nx => exact absurd ef (n1 _)
        | ct => exact absurd ef (n2 _)
        | bk => exact absurd ef (n3 _)
        | ret d => exact post4
        | exc c fs => exact post4
    · rename_i e1 ec
      cases ef
      refine ⟨_, _, ec, fun v H3 F3 p3 q3 x3 rel3 rp3 ap3 => ?_⟩
      obtain ⟨ev, eq⟩ := rp3
      subst eq
      refine ⟨false, ev, ?_⟩
      show (if false = true then _ else _)
      rw [if_neg Bool.false_ne_true]
      exact post σ2 H3 F3 p3 (x2.trans x3) rel3
    · rename_i c' fs e1 ec
      cases ef
      exact ⟨_, _, ec, fun dx H3 F3 p3 x3 rel3 ed => post dx σ2 H3 F3 p3 (x2.trans x3) rel3 ed⟩
    · cases ef
end
end DL

namespace DL
open PySem PySem.Spec PyProof.Rows L2
abbrev MF := List D → Option (Res × List D)
section
variable (P : Program) (w : World) (K : PySem.W.Frag) (T : List (Addr × Str))
/-- what a call of a def has left: refs: the first argument is handed by reference, and comes back -/
def PostF (refs : Bool) (vs : List V) (F : FS) (H : Hp) (p : List Addr) (Q : VK) (E : XK) (r : Res) (outs : List D) : Prop :=
  match r with
  | .val d => ∀ v H' F' q qo, Ext true F H p F' H' (q ++ qo) → LamX.Tabs T H' → (∀ a, F' a → H' a ≠ none) → rep P w K F' H' d v q → reps P w K F' H' outs (if refs then vs.take 1 else []) qo → (q ++ qo).Nodup → (∀ a ∈ q ++ qo, ¬ F' a) → Q v H'
  | .exc c fs => ∀ dx H' F' qo, Ext true F H p F' H' qo → LamX.Tabs T H' → (∀ a, F' a → H' a ≠ none) → reps P w K F' H' outs (if refs then vs.take 1 else []) qo → qo.Nodup → (∀ a ∈ qo, ¬ F' a) →
      ((dx = none ∧ fs = []) ∨ ∃ d gs, dx = some d ∧ F' d ∧ H' d = some (.xd gs) ∧ repF P w K F' H' fs gs []) → E (.ref (He.ga K c)) dx H'
/-- a def's promise: it does what m does -/
def spD (n : Nat) (refs : Bool) (m : MF) : Sp := fun vs H Q E => ∃ F p ds, vs.length = n ∧ reps P w K F H ds vs p ∧ p.Nodup ∧ (∀ a ∈ p, ¬ F a) ∧ (∀ a, F a → H a ≠ none) ∧ LamX.Tabs T H ∧ ∃ r outs, m ds = some (r, outs) ∧ PostF P w K T refs vs F H p Q E r outs
end
/-- the def x does what m does, given its arguments and dfl behind them -/
structure FnD (P : Program) (w : World) (K : PySem.W.Frag) (mg : Str → Option Value) (base : Heap) (T : List (Addr × Str)) (k : Nat) (x : Str) (n : Nat) (refs : Bool) (dfl : List D) (m : MF) : Prop where
  ex : ∃ (fd : FuncData) (ps : List Str) (dvs : List V) (ds : List Value), FnOk P w K mg base (L2.CX P w) k (He.ga K x) fd ps (spD P w K T n refs m) ∧ mg x = some (.ref (He.ga K x)) ∧ PySem.W.keepIn K (.ref (He.ga K x)) = true ∧ Binds K fd ps ds ∧ Vals dvs ds ∧ ∀ F H, reps P w K F H dfl dvs []
/-- how a reading's frame is good -/
structure CtxOk (C : Ctx) : Prop where
  tk : Takes C.X fun c d _ H => C.W c d H
  calm : C.X.calm = true
section
variable {C : Ctx} {m : Bool} {F F1 F' : FS} {H H1 H' : Hp} {p p1 p' q r : List Addr} {σ : St} {env : Env} {En : Ends} {pos : Pos}
theorem CtxOk.pass (O : CtxOk C) : Passes (L2.CX C.X.prog C.X.w) C.X C.W := passes_call O.tk fun _ _ _ _ h => h
def xcall (f : MF) (dfl : List D) (g : AF) : XF := fun env => match g env with
  | some (.vals as, e1) => (match tmps as with
    | some ds => (match f (ds ++ dfl) with
      | some (r, []) => some (r, e1)
      | _ => none)
    | none => none)
  | some (.exc c fs, e1) => some (.exc c fs, e1)
  | none => none
theorem reps_snoc {ds es : List D} {vs ws : List V} {q : List Addr} (x : C.reps F H ds vs q) (y : C.reps F H es ws []) : C.reps F H (ds ++ es) (vs ++ ws) q := by
  have z := reps_append x y
  rw [List.append_nil] at z
  exact z
theorem Rel.after {C : Ctx} {env : Env} {σ : St} {F F' : FS} {H H' : Hp} {p q r : List Addr} (rel : Rel C env σ F H p) (x : Ext true F H q F' H' r) (hq : ∀ a ∈ p, a ∉ q) (ow : ∀ a ∈ q, ∃ o, H a = some o ∧ Ow o) (nF : ∀ a ∈ q, ¬ F a) (tabs : LamX.Tabs C.T H') (trk : ∀ a, F' a → H' a ≠ none) : Rel C env σ F' H' p where
  slots := repE_mono rel.slots (x.stab nF ow fun _ a h => hq a h)
  nd := rel.nd
  dis := fun a ha h => (x.new a h).elim (rel.dis a ha) fun z => z.elim (hq a ha) (rel.there a ha)
  trk := trk
  tabs := tabs
  fx := rel.fx
theorem tx_call {f : MF} {dfl : List D} {g : AF} {n : Nat} {dvs : List V} {Q : VK} (hd : ∀ F H, C.reps F H dfl dvs []) (hn : ∀ ds r o, f ds = some (r, o) → ds.length = n) (h : TX C true (xcall f dfl g) σ H Q) : tCall (spD C.X.prog C.X.w C.X.K C.T n false f) dvs C.W (TAX C true g) σ H Q := by
  obtain ⟨F, p, env, rel, r, env', e, post⟩ := h
  refine ⟨F, p, env, rel, ?_⟩
  unfold xcall at e
  split at e
  · rename_i as e1 eg
    refine ⟨_, _, eg, fun vs H1 F1 p1 q1 x1 rel1 ar1 ap1 => ?_⟩
    split at e
    · rename_i ds ed
      split at e
      · rename_i r' em
        cases e
        have rp := arP_reps ed ar1
        have rp2 := reps_snoc rp (hd F1 H1)
        refine ⟨F1, q1, ds ++ dfl, by rw [← reps_len rp2]; exact hn _ _ _ em, rp2, ap1.nd, ap1.fr, rel1.trk, rel1.tabs, _, _, em, ?_⟩
        have ow1 : ∀ a ∈ q1, ∃ o, H1 a = some o ∧ Ow o := fun a ha => reps_there rp a ha
        cases r with
        | val d =>
          intro v H2 F2 q2 qo x2 tabs trk rp3 ro nd nF
          obtain ⟨_, rfl⟩ := ro
          rw [List.append_nil] at x2 nd nF
          have rel2 := rel1.after x2 (fun a ha h => ap1.dis a h ha) ow1 ap1.fr tabs trk
          refine post v H2 F2 p1 q2 ?_ rel2 rp3 ⟨nd, fun a ha hp => ?_, nF⟩
          · have z := x2.beside [] p1
            exact x1.trans z
          · exact (x2.own a ha).elim (fun h => ap1.dis a h hp) (rel1.there a hp)
        | exc c fs =>
          intro dx H2 F2 qo x2 tabs trk ro nd nF ed
          obtain ⟨_, rfl⟩ := ro
          have rel2 := rel1.after x2 (fun a ha h => ap1.dis a h ha) ow1 ap1.fr tabs trk
          exact post dx H2 F2 p1 (x1.trans (x2.beside [] p1)) rel2 ed
      · cases e
    · cases e
  · rename_i c fs e1 eg
    cases e
    exact ⟨_, _, eg, post⟩
  · cases e
theorem x_call {x : Str} {k n : Nat} {dfl : List D} {f : MF} {px : Pos} {e : Expr} {es : List Expr} {g : AF} (O : CtxOk C) (G : FnD C.X.prog C.X.w C.X.K C.X.mg C.X.base C.T k x n false dfl f) (hn : ∀ ds r o, f ds = some (r, o) → ds.length = n) (hr : Room k C.X.A) (hg : Gl C.X x)
    (ha : PA C.X (e :: es) (TAX C true g)) (hdb : (x == ("__debug__" : Str)) = false := by decide) (he : starEach (e :: es) C.X.env = (false, eval e C.X.env) :: starEach es C.X.env := by rfl) (hpl : (backTo pos (starEach es C.X.env)).any (·.1) = false := by rfl) :
    PE C.X (.Call (.Name x px) (e :: es) [] pos) (TX C true (xcall f dfl g)) := by
  obtain ⟨fd, ps, dvs, ds, F, hm, hk, hb, hd, hv⟩ := G.ex
  exact peImp (pe_call F hr hg hm hk hb hd O.pass ha hdb he hpl) fun σ H Q h => tx_call hv hn h
/-- the first argument by reference -/
def xcallR (f : MF) (i : Nat) (g : AF) : XF := fun env => match env[i]? with
  | some (some _) => (match g env with
    | some (.vals as, e1) => (match tmps as, e1[i]? with
      | some ds, some (some d0) => (match f (d0 :: ds) with
        | some (r, [o]) => some (r, e1.set i (some o))
        | _ => none)
      | _, _ => none)
    | some (.exc c fs, e1) => some (.exc c fs, e1)
    | none => none)
  | _ => none
theorem set_set_same {α : Type} {l : List α} {i : Nat} {x y : α} : (l.set i x).set i y = l.set i y := List.set_set ..
/-- a slot lent to a call comes back -/
theorem Rel.lent {i : Nat} {o : D} {v0 : V} {l0 r0 : List Addr} {q0 : List Addr} (rel : Rel C env σ F H p) (e : σ[i]? = some (some v0)) (h3 : p = l0 ++ (q0 ++ r0))
    (h5 : ∀ F' H' d' v' q', Stab F F' H H' (l0 ++ r0) → C.rep F' H' d' v' q' → repE C.X.prog C.X.w C.X.K F' H' (env.set i (some d')) (σ.set i (some v')) (l0 ++ (q' ++ r0)))
    {qt qr qo : List Addr} (ap : Apart F qt p) (x : Ext true F H (q0 ++ qt) F' H' (qr ++ qo)) (ow : ∀ a ∈ q0 ++ qt, ∃ o, H a = some o ∧ Ow o) (tabs : LamX.Tabs C.T H') (trk : ∀ a, F' a → H' a ≠ none) (ro : C.rep F' H' o v0 qo) (nd : (qr ++ qo).Nodup) (nF : ∀ a ∈ qr ++ qo, ¬ F' a) :
    Ext true F H (qt ++ p) F' H' (qr ++ (l0 ++ (qo ++ r0))) ∧ Rel C (env.set i (some o)) σ F' H' (l0 ++ (qo ++ r0)) ∧ ∀ a ∈ qr, a ∉ l0 ++ (qo ++ r0) := by
  have nd0 := rel.nd
  rw [h3] at nd0
  obtain ⟨n1, n2, n3⟩ := List.nodup_append.mp nd0
  obtain ⟨n4, n5, n6⟩ := List.nodup_append.mp n2
  have subl : ∀ a ∈ l0, a ∈ p := fun a h => by rw [h3]; exact List.mem_append_left _ h
  have subq : ∀ a ∈ q0, a ∈ p := fun a h => by rw [h3]; exact List.mem_append_right _ (List.mem_append_left _ h)
  have subr : ∀ a ∈ r0, a ∈ p := fun a h => by rw [h3]; exact List.mem_append_right _ (List.mem_append_right _ h)
  have nFq : ∀ a ∈ q0 ++ qt, ¬ F a := fun a h => (List.mem_append.mp h).elim (fun h => rel.dis a (subq a h)) (ap.fr a)
  have sep : ∀ a ∈ l0 ++ r0, a ∉ q0 ++ qt := fun a ha h => by
    rcases List.mem_append.mp ha with ha | ha
    · rcases List.mem_append.mp h with h | h
      · exact n3 a ha a (List.mem_append_left _ h) rfl
      · exact ap.dis a h (subl a ha)
    · rcases List.mem_append.mp h with h | h
      · exact n6 a h a ha rfl
      · exact ap.dis a h (subr a ha)
  have there : ∀ a ∈ l0 ++ r0, H a ≠ none := fun a ha => rel.there a ((List.mem_append.mp ha).elim (subl a) (subr a))
  have st : Stab F F' H H' (l0 ++ r0) := x.stab nFq ow fun _ => sep
  have apart : ∀ a ∈ l0 ++ r0, a ∉ qr ++ qo := fun a ha h => (x.own a h).elim (sep a ha) (there a ha)
  have nFo : ∀ a ∈ l0 ++ r0, ¬ F' a := fun a ha h => (x.new a h).elim (rel.dis a ((List.mem_append.mp ha).elim (subl a) (subr a))) fun z => z.elim (sep a ha) (there a ha)
  obtain ⟨m1, m2, m3⟩ := List.nodup_append.mp nd
  refine ⟨?_, ⟨?_, ?_, ?_, trk, tabs, rel.fx⟩, ?_⟩
  · refine ⟨x.mono, fun a ob ea nt z => x.keep a ob ea nt fun _ h => z rfl ?_, x.there, fun a h => (x.new a h).elim .inl fun z => z.elim (fun h => .inr (.inl ?_)) fun n => .inr (.inr n), fun a h => ?_⟩
    · exact (List.mem_append.mp h).elim (fun h => List.mem_append_right _ (subq a h)) fun h => List.mem_append_left _ h
    · exact (List.mem_append.mp h).elim (fun h => List.mem_append_right _ (subq a h)) fun h => List.mem_append_left _ h
    · have go : ∀ {a}, a ∈ qr ++ qo → a ∈ qt ++ p ∨ H a = none := fun {a} h => (x.own a h).elim (fun h => .inl ((List.mem_append.mp h).elim (fun h => List.mem_append_right _ (subq a h)) fun h => List.mem_append_left _ h)) .inr
      rcases List.mem_append.mp h with h | h
      · exact go (List.mem_append_left _ h)
      · rcases List.mem_append.mp h with h | h
        · exact .inl (List.mem_append_right _ (subl a h))
        · rcases List.mem_append.mp h with h | h
          · exact go (List.mem_append_right _ h)
          · exact .inl (List.mem_append_right _ (subr a h))
  · have z := h5 F' H' o v0 qo st ro
    rw [set_same e] at z
    exact z
  · refine List.nodup_append.mpr ⟨n1, List.nodup_append.mpr ⟨m2, n5, fun a ha b hb eb => ?_⟩, fun a ha b hb eb => ?_⟩
    · exact apart b (List.mem_append_right _ hb) (by rw [← eb]; exact List.mem_append_right _ ha)
    · rcases List.mem_append.mp hb with hb | hb
      · exact apart a (List.mem_append_left _ ha) (by rw [eb]; exact List.mem_append_right _ hb)
      · exact n3 a ha b (List.mem_append_right _ hb) eb
  · intro a ha h
    rcases List.mem_append.mp ha with ha | ha
    · exact nFo a (List.mem_append_left _ ha) h
    · rcases List.mem_append.mp ha with ha | ha
      · exact nF a (List.mem_append_right _ ha) h
      · exact nFo a (List.mem_append_right _ ha) h
  · intro a ha h
    rcases List.mem_append.mp h with h | h
    · exact apart a (List.mem_append_left _ h) (List.mem_append_left _ ha)
    · rcases List.mem_append.mp h with h | h
      · exact m3 a ha a h rfl
      · exact apart a (List.mem_append_right _ h) (List.mem_append_left _ ha)
theorem take_one {v : V} {vs : List V} : (v :: vs).take 1 = [v] := rfl
theorem tx_callR {f : MF} {i : Nat} {g : AF} {n : Nat} {Q : VK} (hn : ∀ ds r o, f ds = some (r, o) → ds.length = n) (h : TX C true (xcallR f i g) σ H Q) : tCall (spD C.X.prog C.X.w C.X.K C.T n true f) [] C.W (tCons (tVar i) (TAX C true g)) σ H Q := by
  obtain ⟨F, p, env, rel, r, env', e, post⟩ := h
  unfold xcallR at e
  split at e
  case h_2 => cases e
  rename_i dd edd
  obtain ⟨v0, _, ev0, _, _⟩ := rel.slot edd
  refine ⟨v0, ev0, F, p, env, rel, ?_⟩
  split at e
  · rename_i as e1 eg
    refine ⟨_, _, eg, fun vs H1 F1 p1 q1 x1 rel1 ar1 ap1 => ?_⟩
    split at e
    · rename_i ds d0 ed ei
      split at e
      · rename_i r' o em
        cases e
        have rp := arP_reps ed ar1
        obtain ⟨v, l, q, r2, h1, h2, h3, h4, h5⟩ := repE_at rel1.slots ei
        rw [ev0] at h1
        cases h1
        have rpa : C.reps F1 H1 (d0 :: ds) (v0 :: vs) (q ++ q1) := ⟨v0, vs, q, q1, rfl, h2, rp, rfl⟩
        have nd1 := rel1.nd
        rw [h3] at nd1
        have subq : ∀ a ∈ q, a ∈ p1 := fun a h => by rw [h3]; exact List.mem_append_right _ (List.mem_append_left _ h)
        rw [List.append_nil]
        refine ⟨F1, q ++ q1, d0 :: ds, by rw [← reps_len rpa]; exact hn _ _ _ em, rpa, List.nodup_append.mpr ⟨(List.nodup_append.mp (List.nodup_append.mp nd1).2.1).1, ap1.nd, fun a ha b hb eb => ap1.dis b hb (by rw [← eb]; exact subq a ha)⟩,
          fun a h => (List.mem_append.mp h).elim (fun h => rel1.dis a (subq a h)) (ap1.fr a), rel1.trk, rel1.tabs, _, _, em, ?_⟩
        have ow1 : ∀ a ∈ q ++ q1, ∃ o, H1 a = some o ∧ Ow o := fun a ha => (List.mem_append.mp ha).elim (rep_there h2 a) (reps_there rp a)
        cases r with
        | val d =>
          intro v' H2 F2 qr qo x2 tabs trk rp3 ro nd nF
          obtain ⟨v1, e1', ro⟩ := reps_one ro
          cases e1'
          obtain ⟨y1, y2, y3⟩ := rel1.lent ev0 h3 h5 ap1 x2 ow1 tabs trk ro nd nF
          exact post v' H2 F2 _ qr (x1.trans y1) y2 rp3 ⟨(List.nodup_append.mp nd).1, y3, fun a ha => nF a (List.mem_append_left _ ha)⟩
        | exc c fs =>
          intro dx H2 F2 qo x2 tabs trk ro nd nF ed
          obtain ⟨v1, e1', ro⟩ := reps_one ro
          cases e1'
          obtain ⟨y1, y2, y3⟩ := rel1.lent (qr := []) ev0 h3 h5 ap1 x2 ow1 tabs trk ro nd nF
          exact post dx H2 F2 _ (x1.trans y1) y2 ed
      · cases e
    · cases e
  · rename_i c fs e1 eg
    cases e
    exact ⟨_, _, eg, post⟩
  · cases e
theorem x_callR {x : Str} {k n i : Nat} {f : MF} {px pe : Pos} {y : Str} {es : List Expr} {g : AF} (O : CtxOk C) (G : FnD C.X.prog C.X.w C.X.K C.X.mg C.X.base C.T k x n true [] f) (hn : ∀ ds r o, f ds = some (r, o) → ds.length = n) (hr : Room k C.X.A) (hg : Gl C.X x)
    (hN : C.X.N[i]? = some y) (hv : Vis C.X.env.scope y) (ha : PA C.X es (TAX C true g)) (hdb : (x == ("__debug__" : Str)) = false := by decide) (hd2 : (y == ("__debug__" : Str)) = false := by decide) (hcd : (y == ("__classdict__" : Str)) = false := by decide)
    (he : starEach (.Name y pe :: es) C.X.env = (false, eval (.Name y pe) C.X.env) :: starEach es C.X.env := by rfl) (hpl : (backTo pos (starEach es C.X.env)).any (·.1) = false := by rfl) :
    PE C.X (.Call (.Name x px) (.Name y pe :: es) [] pos) (TX C true (xcallR f i g)) := by
  obtain ⟨fd, ps, dvs, ds, F, hm, hk, hb, hd, hv'⟩ := G.ex
  have e0 : dvs = [] := (hv' (fun _ => True) (fun _ => none)).1
  subst e0
  exact peImp (pe_call (pos := pos) F hr hg hm hk hb hd O.pass (pa_cons (pe_var (pos := pe) hN hv hd2 hcd) ha he) hdb he hpl) fun σ H Q h => tx_callR hn h

/-! ### a def -/
/-- the function that a body's reading makes -/
def defn (n extra : Nat) (refs : Bool) (g : SF) : MF := fun ds =>
  if ds.length = n then
    match g (ds.map some ++ List.replicate extra none) with
    | some (fl, env') => (match (if refs then (match env'[0]? with
        | some (some o) => some [o]
        | _ => none) else some []) with
      | some outs => (match fl with
        | .nx => some (.val .non, outs)
        | .ret d => some (.val d, outs)
        | .exc c fs => some (.exc c fs, outs)
        | _ => none)
      | none => none)
    | none => none
  else none
theorem defn_len {n extra : Nat} {refs : Bool} {g : SF} : ∀ ds r o, defn n extra refs g ds = some (r, o) → ds.length = n := fun ds r o h => by
  unfold defn at h
  split at h
  · rename_i e
    exact e
  · cases h
theorem repE_nones : ∀ n : Nat, repE C.X.prog C.X.w C.X.K F H (List.replicate n none) (List.replicate n none) []
  | 0 => ⟨rfl, rfl⟩
  | n + 1 => ⟨none, _, rfl, repE_nones n⟩
theorem repE_start : ∀ {ds : List D} {vs : List V} {q : List Addr} (n : Nat), C.reps F H ds vs q → repE C.X.prog C.X.w C.X.K F H (ds.map some ++ List.replicate n none) (vs.map some ++ List.replicate n none) q
  | [], _, _, n, x => by
    obtain ⟨rfl, rfl⟩ := x
    exact repE_nones n
  | d :: ds, _, _, n, ⟨v, ws, q, r, e, x1, x2, hq⟩ => by
    subst e hq
    exact ⟨v, _, q, r, rfl, x1, repE_start n x2, rfl⟩
/-- the context of a def's body -/
abbrev bodyC (P : Program) (w : World) (K : PySem.W.Frag) (mg : Str → Option Value) (base : Heap) (T : List (Addr × Str)) (N : List Str) (qual : Str) (scope : Scope) (f : Addr) (cdv : Value) (A : Around) (outer : List PySem.Env) (s : Shared) (H : Hp) (E : XK) (refs : Bool) (vs : List V) : Ctx where
  X := cxOf (L2.CX P w) P w K mg base N qual scope f cdv A outer s H E
  T := T
  fx := if refs then [0] else []
  fv := fun i => vs.getD i .non
  W := E
theorem bodyOk {P : Program} {w : World} {K : PySem.W.Frag} {mg : Str → Option Value} {base : Heap} {T : List (Addr × Str)} {N : List Str} {qual : Str} {scope : Scope} {f : Addr} {cdv : Value} {A : Around} {outer : List PySem.Env} {s : Shared} {H : Hp} {E : XK} {refs : Bool} {vs : List V} :
    CtxOk (bodyC P w K mg base T N qual scope f cdv A outer s H E refs vs) := ⟨takes_of rfl rfl rfl rfl, rfl⟩
theorem bodyPass {P : Program} {w : World} {K : PySem.W.Frag} {mg : Str → Option Value} {base : Heap} {T : List (Addr × Str)} {N : List Str} {qual : Str} {scope : Scope} {f : Addr} {cdv : Value} {A : Around} {outer : List PySem.Env} {s : Shared} {H : Hp} {E : XK} {refs : Bool} {vs : List V} :
    PassesOwn (model P w) (bodyC P w K mg base T N qual scope f cdv A outer s H E refs vs).X.A (bodyC P w K mg base T N qual scope f cdv A outer s H E refs vs).X.env (bodyC P w K mg base T N qual scope f cdv A outer s H E refs vs).X.xe := passes_of rfl
/-- a body's reading keeps the promise of its function -/
theorem body_keeps {P : Program} {w : World} {K : PySem.W.Frag} {mg : Str → Option Value} {base : Heap} {T : List (Addr × Str)} {N : List Str} {qual : Str} {scope : Scope} {f : Addr} {cdv : Value} {A : Around} {outer : List PySem.Env} {s : Shared} {H : Hp} {E : XK} {refs : Bool} {vs : List V} {g : SF} {n extra : Nat} {Q : VK}
    (hN : N.length = n + extra) (hn : refs = true → 0 < n) (h : spD P w K T n refs (defn n extra refs g) vs H Q E) :
    TSx (bodyC P w K mg base T N qual scope f cdv A outer s H E refs vs) g { nx := fun _ H' => Q .non H', rt := Q } (L2.start N vs) H := by
  obtain ⟨F, p, ds, hl, rp, nd, nF, trk, tabs, r, outs, em, post⟩ := h
  have hld : ds.length = n := by rw [reps_len (C := bodyC P w K mg base T N qual scope f cdv A outer s H E refs vs) rp]; exact hl
  have est : L2.start N vs = vs.map some ++ List.replicate extra none := by
    unfold L2.start
    rw [show N.length - vs.length = extra by omega]
  unfold defn at em
  rw [if_pos hld] at em
  refine ⟨F, p, ds.map some ++ List.replicate extra none, ⟨by rw [est]; exact repE_start (C := bodyC P w K mg base T N qual scope f cdv A outer s H E refs vs) extra rp, nd, nF, trk, tabs, fun i hi => ?_⟩, ?_⟩
  · cases refs with
    | false => cases hi
    | true =>
      have ei : i = 0 := by simpa using hi
      subst ei
      have h0 := hn rfl
      rw [est]
      cases vs with
      | nil => simp at hl; omega
      | cons v vs => rfl
  split at em
  · rename_i fl env' eg
    refine ⟨fl, env', eg, ?_⟩
    have outs_ok : ∀ {σ' : St} {H' : Hp} {F' : FS} {p' : List Addr}, Rel (bodyC P w K mg base T N qual scope f cdv A outer s H E refs vs) env' σ' F' H' p' → ∀ outs', (if refs then (match env'[0]? with
        | some (some o) => some [o]
        | _ => none) else some []) = some outs' → ∃ qo, reps P w K F' H' outs' (if refs then vs.take 1 else []) qo ∧ qo.Nodup ∧ (∀ a ∈ qo, a ∈ p') := fun {σ' H' F' p'} rel outs' e => by
      cases refs with
      | false =>
        cases e
        exact ⟨[], ⟨rfl, rfl⟩, List.nodup_nil, fun a h => by cases h⟩
      | true =>
        have e : (match env'[0]? with
          | some (some o) => some [o]
          | _ => none) = some outs' := e
        split at e
        · rename_i o eo
          cases e
          obtain ⟨v, l, q, r, h1, h2, h3, _, _⟩ := repE_at rel.slots eo
          have hfx := rel.fx 0 (by simp)
          rw [h1] at hfx
          have ev : v = vs.getD 0 .non := by simpa using hfx
          have h0 := hn rfl
          cases vs with
          | nil => simp at hl; omega
          | cons v1 vs =>
            have ev : v = v1 := ev
            subst ev
            have ndp := rel.nd
            rw [h3] at ndp
            exact ⟨q, ⟨v, [], q, [], rfl, h2, ⟨rfl, rfl⟩, (List.append_nil _).symm⟩, (List.nodup_append.mp (List.nodup_append.mp ndp).2.1).1, fun a h => by rw [h3]; exact List.mem_append_right _ (List.mem_append_left _ h)⟩
        · cases e
    split at em
    · rename_i outs' eo
      split at em
      · cases em
        intro σ' H' F' p' x rel
        obtain ⟨qo, ro, n1, n2⟩ := outs_ok rel _ eo
        exact post .non H' F' [] qo (x.sub fun a h => n2 a h) rel.tabs rel.trk ⟨rfl, rfl⟩ ro n1 fun a h => rel.dis a (n2 a h)
      · cases em
        intro v σ' H' F' p' q x rel rp' ap
        obtain ⟨qo, ro, n1, n2⟩ := outs_ok rel _ eo
        refine post v H' F' q qo (x.sub fun a h => (List.mem_append.mp h).elim (fun h => List.mem_append_left _ h) fun h => List.mem_append_right _ (n2 a h)) rel.tabs rel.trk rp' ro (List.nodup_append.mpr ⟨ap.nd, n1, fun a ha b hb e => ap.dis a ha (by rw [e]; exact n2 b hb)⟩) fun a h => (List.mem_append.mp h).elim (ap.fr a) fun h => rel.dis a (n2 a h)
      · cases em
        intro dx σ' H' F' p' x rel ed
        obtain ⟨qo, ro, n1, n2⟩ := outs_ok rel _ eo
        exact post dx H' F' qo (x.sub n2) rel.tabs rel.trk ro n1 (fun a h => rel.dis a (n2 a h)) ed
      · cases em
    · cases em
  · cases em
end
end DL

namespace DL
open PySem PySem.Spec PyProof.Rows L2
/-! ### an object beside is changed -/
/-- not a table, not a code object, not a tuple -/
structure Free (o : HO) : Prop where
  tbl : ∀ ps, o ≠ .tbl ps
  code : ∀ c q, o ≠ LamX.CodeO c q
  tup : ∀ xs, o ≠ .tup xs
theorem free_lst {xs : List V} : Free (.lst xs) := ⟨(fun _ z => nomatch z), (fun _ _ z => nomatch z), (fun _ z => nomatch z)⟩
theorem free_ins {C dx : Addr} {fs : List (Str × V)} : Free (.ins C dx fs) := ⟨(fun _ z => nomatch z), (fun _ _ z => nomatch z), (fun _ z => nomatch z)⟩
theorem free_obj {a : Addr} {od : Obj} {ea : Array DictEntry} {ep : Nat} (hd : od.data = .dict ea ep) : Free (objO a od) := by
  refine ⟨(fun _ z => nomatch z), fun c q z => ?_, (fun _ z => nomatch z)⟩
  have e : (fun h : Heap => h.get? a = some od) = fun h => ∃ (oc : Obj) (vs : Array Value) (t : Tok), h.get? c = some oc ∧ oc.data = .fields vs ∧ vs[1]? = some (.str q t) := HO.ext.inj z
  let h : Heap := ⟨(List.replicate (a + 1) od).toArray, (default : Heap).life⟩
  have e1 := congrFun e h
  have g : ∀ b, h.get? b = if b < a + 1 then some od else none := fun b => by
    have e0 : h.objs[b]? = if b < a + 1 then some od else none := by
      show (List.replicate (a + 1) od).toArray[b]? = _
      rw [List.getElem?_toArray, List.getElem?_replicate]
    unfold Heap.get?
    rw [e0]
    by_cases hb : b < a + 1
    · rw [if_pos hb]
      obtain ⟨c1, c2, c3, c4⟩ := od
      cases hd
      rfl
    · rw [if_neg hb]
  have l : h.get? a = some od := by rw [g, if_pos (Nat.lt_succ_self a)]
  rw [l] at e1
  have r := e1.mp rfl
  obtain ⟨oc, vs, t, h1, h2, _⟩ := r
  rw [g] at h1
  split at h1
  · cases h1
    rw [hd] at h2
    cases h2
  · cases h1
theorem tabs_upd {T : List (Addr × Str)} {H : Hp} {a : Addr} {o o' : HO} (t : LamX.Tabs T H) (h : H a = some o) (f : Free o) : LamX.Tabs T (upd H a o') := fun p hp => by
  obtain ⟨ps, h1, h2, h3⟩ := t p hp
  have n1 : p.1 ≠ a := fun e => by
    rw [e, h] at h1
    exact f.tbl ps (Option.some.inj h1)
  refine ⟨ps, by rw [upd_ne n1]; exact h1, h2, fun pos cv hc => ?_⟩
  obtain ⟨c, e1, e2⟩ := h3 pos cv hc
  refine ⟨c, e1, ?_⟩
  rw [upd_ne fun e => ?_]
  · exact e2
  · rw [e, h] at e2
    exact f.code _ _ (Option.some.inj e2)
section
variable {C : Ctx} {m : Bool} {F F1 F' : FS} {H H1 H' : Hp} {p p1 p' q r : List Addr} {σ : St} {env : Env} {En : Ends} {pos : Pos}
theorem Ext.mut {a : Addr} {o : HO} (ha : a ∈ p) (h : H a ≠ none) : Ext true F H p F (upd H a o) p where
  mono := fun _ h => h
  keep := fun b u e _ z => by
    rw [upd_ne fun e2 => z rfl (by rw [e2]; exact ha)]
    exact e
  there := fun b z => by
    by_cases hb : b = a
    · rw [hb, upd_same]; intro q; cases q
    · rw [upd_ne hb]; exact z
  new := fun _ h => .inl h
  own := fun _ h => .inl h
theorem Rel.mutBeside (rel : Rel C env σ F H p) {a : Addr} {o o' : HO} (h : H a = some o) (f : Free o) (hp : a ∉ p) (hF : ¬ F a) : Rel C env σ F (upd H a o') p where
  slots := repE_mono rel.slots ⟨fun _ h => h, fun b u e _ z => by
    rw [upd_ne fun e2 => ?_]
    · exact e
    · subst e2
      rcases z with z | z | ⟨xs, z⟩
      · exact hF z
      · exact hp z
      · rw [h] at e
        cases e
        exact f.tup xs z⟩
  nd := rel.nd
  dis := rel.dis
  trk := fun b hb => by
    by_cases e : b = a
    · rw [e, upd_same]; intro q; cases q
    · rw [upd_ne e]; exact rel.trk b hb
  tabs := tabs_upd rel.tabs h f
  fx := rel.fx
/-! ### comprehensions -/
abbrev Ctx.cmp (C : Ctx) : Ctx := { C with W := fun _ _ _ => False }
def wipeE (env : Env) : List Nat → Env
  | [] => env
  | v :: vs => (wipeE env vs).set v none
def restE (e1 : Env) : Env → List Nat → Env
  | env, [] => env
  | env, v :: vs => restE e1 (env.set v (e1.getD v none)) vs
def froO : Option D → Bool
  | some d => fro d
  | none => true
def lcL (vs : List Nat) (a : AS) (t f : XF) : List D → Env → List D → Option (List D × Env)
  | [], env, acc => some (acc, env)
  | d :: ds, env, acc => match a d env with
    | some e1 => (match t e1 with
      | some (.val (.bl true), e2) => (match f e2 with
        | some (.val y, e3) => if fro y = true ∧ acc.length < SZ then lcL vs a t f ds (wipeE e3 vs) (acc ++ [y]) else none
        | _ => none)
      | some (.val (.bl false), e2) => lcL vs a t f ds (wipeE e2 vs) acc
      | _ => none)
    | none => none
def xlc (vs : List Nat) (h : IF) (a : AS) (t f : XF) : XF := fun env => match h env with
  | some (.items ds, e1) => if (vs.all fun v => match e1[v]? with
      | some x => froO x
      | none => false) = true then
      (match lcL vs a t f ds (wipeE e1 vs) [] with
      | some (acc, e2) => some (.val (.lst true acc), restE e1 e2 vs)
      | none => none) else none
  | some (.exc c fs, e1) => some (.exc c fs, e1)
  | none => none
theorem wipe_at : ∀ {vs : List Nat} {σ : St} {j : Nat}, (wipe σ vs)[j]? = if j ∈ vs then (σ[j]?).map (fun _ => none) else σ[j]?
  | [], σ, j => by simp [wipe]
  | v :: vs, σ, j => by
    unfold wipe
    by_cases h : v = j
    · subst h
      rw [if_pos List.mem_cons_self]
      by_cases hl : v < (wipe σ vs).length
      · rw [List.getElem?_set_self hl]
        rw [wipe_length] at hl
        rw [List.getElem?_eq_getElem hl]
        rfl
      · rw [List.getElem?_eq_none (by simpa using hl)]
        rw [wipe_length] at hl
        rw [List.getElem?_eq_none (by omega)]
        rfl
    · rw [List.getElem?_set_ne h, wipe_at]
      by_cases hm : j ∈ vs
      · rw [if_pos hm, if_pos (List.mem_cons_of_mem _ hm)]
      · rw [if_neg hm, if_neg (fun z => (List.mem_cons.mp z).elim (fun e => h e.symm) hm)]
theorem wipe_onl {vs is : List Nat} {σ σ' : St} (h : Onl is σ σ') (hs : ∀ i ∈ is, i ∈ vs) : wipe σ' vs = wipe σ vs := by
  refine List.ext_getElem? fun j => ?_
  rw [wipe_at, wipe_at]
  by_cases hm : j ∈ vs
  · rw [if_pos hm, if_pos hm]
    by_cases hl : j < σ.length
    · rw [List.getElem?_eq_getElem hl, List.getElem?_eq_getElem (by rw [h.1]; exact hl)]
      rfl
    · rw [List.getElem?_eq_none (l := σ') (by rw [h.1]; omega), List.getElem?_eq_none (l := σ) (by omega)]
  · rw [if_neg hm, if_neg hm, h.2 j fun z => hm (hs j z)]
theorem wipe_wipe {vs : List Nat} {σ : St} : wipe (wipe σ vs) vs = wipe σ vs := by
  refine List.ext_getElem? fun j => ?_
  rw [wipe_at, wipe_at]
  by_cases hm : j ∈ vs
  · rw [if_pos hm, if_pos hm, Option.map_map]
    rfl
  · rw [if_neg hm, if_neg hm]
/-- a slot's data dropped, whatever stands there then -/
theorem repE_drop : ∀ {env : Env} {σ : St} {p : List Addr} {i : Nat} (x : Option V), repE C.X.prog C.X.w C.X.K F H env σ p → ∃ p', repE C.X.prog C.X.w C.X.K F H (env.set i none) (σ.set i x) p' ∧ (∀ a ∈ p', a ∈ p) ∧ (p.Nodup → p'.Nodup)
  | [], _, _, i, x, ⟨h1, h2⟩ => by
    subst h1 h2
    exact ⟨[], ⟨rfl, rfl⟩, fun a h => h, fun h => h⟩
  | none :: env, _, p, 0, x, ⟨y, σ', e, r⟩ => by
    subst e
    exact ⟨p, ⟨x, σ', rfl, r⟩, fun a h => h, fun h => h⟩
  | some d :: env, _, p, 0, x, ⟨v, σ', q, r, e, x1, x2, hp⟩ => by
    subst e hp
    exact ⟨r, ⟨x, σ', rfl, x2⟩, fun a h => List.mem_append_right _ h, fun h => (List.nodup_append.mp h).2.1⟩
  | none :: env, _, p, i + 1, x, ⟨y, σ', e, r⟩ => by
    subst e
    obtain ⟨p', h1, h2, h3⟩ := repE_drop (i := i) x r
    exact ⟨p', ⟨y, _, rfl, h1⟩, h2, h3⟩
  | some d :: env, _, p, i + 1, x, ⟨v, σ', q, r, e, x1, x2, hp⟩ => by
    subst e hp
    obtain ⟨p', h1, h2, h3⟩ := repE_drop (i := i) x x2
    refine ⟨q ++ p', ⟨v, _, q, p', rfl, x1, h1, rfl⟩, fun a h => (List.mem_append.mp h).elim (fun h => List.mem_append_left _ h) fun h => List.mem_append_right _ (h2 a h), fun h => ?_⟩
    obtain ⟨n1, n2, n3⟩ := List.nodup_append.mp h
    exact List.nodup_append.mpr ⟨n1, h3 n2, fun a ha b hb => n3 a ha b (h2 b hb)⟩
theorem repE_wipe : ∀ {vs : List Nat} {env : Env} {σ : St} {p : List Addr}, repE C.X.prog C.X.w C.X.K F H env σ p → ∃ p', repE C.X.prog C.X.w C.X.K F H (wipeE env vs) (wipe σ vs) p' ∧ (∀ a ∈ p', a ∈ p) ∧ (p.Nodup → p'.Nodup)
  | [], env, σ, p, h => ⟨p, h, fun a h => h, fun h => h⟩
  | v :: vs, env, σ, p, h => by
    obtain ⟨p1, h1, h2, h3⟩ := repE_wipe (vs := vs) h
    obtain ⟨p2, g1, g2, g3⟩ := repE_drop (i := v) none h1
    exact ⟨p2, g1, fun a h => h2 a (g2 a h), fun h => g3 (h3 h)⟩
theorem Rel.wipe (rel : Rel C env σ F H p) (vs : List Nat) (hx : ∀ i ∈ C.fx, i ∉ vs) : ∃ p', Rel C (wipeE env vs) (L2.wipe σ vs) F H p' ∧ ∀ a ∈ p', a ∈ p := by
  obtain ⟨p', h1, h2, h3⟩ := repE_wipe (C := C) (vs := vs) rel.slots
  refine ⟨p', ⟨h1, h3 rel.nd, fun a h => rel.dis a (h2 a h), rel.trk, rel.tabs, fun i hi => ?_⟩, h2⟩
  rw [wipe_at, if_neg (hx i hi)]
  exact rel.fx i hi
theorem getD_of {α : Type} {l : List α} {i : Nat} {d x : α} (h : l[i]? = some x) : l.getD i d = x := by
  rw [List.getD_eq_getElem?_getD, h]
  rfl
/-- the hidden slots come back -/
theorem repE_rest {e1 : Env} {σ : St} : ∀ {vs : List Nat} {env : Env} {p : List Addr}, (∀ v d, e1.getD v none = some d → v ∈ vs → ∃ u, σ[v]? = some (some u) ∧ C.rep F H d u []) → vs.Nodup → (∀ v ∈ vs, v < σ.length) → repE C.X.prog C.X.w C.X.K F H env (L2.wipe σ vs) p →
    ∃ p', repE C.X.prog C.X.w C.X.K F H (restE e1 env vs) σ p' ∧ (∀ a ∈ p', a ∈ p) ∧ (p.Nodup → p'.Nodup)
  | [], env, p, _, _, _, h => ⟨p, h, fun a h => h, fun h => h⟩
  | v :: vs, env, p, h1, nd, hv, h => by
    have nv := (List.nodup_cons.mp nd).1
    have hl : v < σ.length := hv v List.mem_cons_self
    have back : ∀ x, σ[v]? = some x → ((L2.wipe σ vs).set v none).set v x = L2.wipe σ vs := fun x ex => by
      rw [List.set_set]
      refine List.ext_getElem? fun j => ?_
      by_cases hj : v = j
      · subst hj
        rw [List.getElem?_set_self (by rw [wipe_length]; exact hl), wipe_at, if_neg nv, ex]
      · rw [List.getElem?_set_ne hj]
    have go : ∃ p', repE C.X.prog C.X.w C.X.K F H (env.set v (e1.getD v none)) (L2.wipe σ vs) p' ∧ (∀ a ∈ p', a ∈ p) ∧ (p.Nodup → p'.Nodup) := by
      cases e : e1.getD v none with
      | none =>
        obtain ⟨p1, g1, g2, g3⟩ := repE_drop (i := v) (σ[v]) h
        rw [show L2.wipe σ (v :: vs) = (L2.wipe σ vs).set v none from rfl, back _ (List.getElem?_eq_getElem hl)] at g1
        exact ⟨p1, g1, g2, g3⟩
      | some d =>
        obtain ⟨u, eu, rp⟩ := h1 v d e List.mem_cons_self
        have hle : v < env.length := by
          rw [repE_len h]
          show v < (L2.wipe σ (v :: vs)).length
          rw [wipe_length]
          exact hl
        obtain ⟨l, r, g1, g2, g3⟩ := repE_put h hle
        have z := g3 F H d u [] (Stab.same fun _ h => h) rp
        rw [show L2.wipe σ (v :: vs) = (L2.wipe σ vs).set v none from rfl, back _ eu] at z
        exact ⟨l ++ ([] ++ r), z, g1, g2⟩
    obtain ⟨p1, g1, g2, g3⟩ := go
    obtain ⟨p2, k1, k2, k3⟩ := repE_rest (vs := vs) (fun v d e h => h1 v d e (List.mem_cons_of_mem _ h)) (List.nodup_cons.mp nd).2 (fun v h => hv v (List.mem_cons_of_mem _ h)) g1
    exact ⟨p2, k1, fun a h => g2 a (k2 a h), fun h => k3 (g3 h)⟩
theorem reps_snoc1 {ds : List D} {vs : List V} {d : D} {v : V} (x : C.reps F H ds vs []) (y : C.rep F H d v []) : C.reps F H (ds ++ [d]) (vs ++ [v]) [] :=
  reps_append (q := []) (r := []) x ⟨v, [], [], [], rfl, y, ⟨rfl, rfl⟩, rfl⟩
theorem tx_lc {vs is : List Nat} {h : IF} {a : AS} {t f : XF} {Q : VK} (hnd : vs.Nodup) (his : ∀ i ∈ is, i ∈ vs) (hx : ∀ i ∈ C.fx, i ∉ vs) (z : TX C true (xlc vs h a t f) σ H Q) :
    tLc (TIx C h) (TGx C.cmp is a) (TTX C.cmp true t) (TX C.cmp true f) vs σ H Q := by
  obtain ⟨F, p, env, rel, r, env', e, post⟩ := z
  refine ⟨F, p, env, rel, ?_⟩
  unfold xlc at e
  split at e
  · rename_i ds e1 eh
    refine ⟨_, _, eh, fun J H1 F1 p1 x1 rel1 it L hL => ?_⟩
    split at e
    · rename_i hfro
      split at e
      · rename_i accF eF el
        cases e
        have nL1 : L ∉ p1 := fun h => rel1.there _ h hL
        have nFL : ¬ F1 L := fun h => rel1.trk _ h hL
        obtain ⟨p0, rel0, sub0⟩ := Rel.wipe (C := C) rel1 vs hx
        have relN : Rel C (wipeE e1 vs) (L2.wipe σ vs) F1 (upd H1 L (.lst [])) p0 := Rel.grow (C := C) rel0 (grow_upd hL)
        have xN : Ext true F1 H1 p1 F1 (upd H1 L (.lst [])) (L :: p0) := (Ext.laid hL).sub fun a h => (List.mem_cons.mp h).elim (fun e => by rw [e]; exact List.mem_cons_self) fun h => List.mem_cons_of_mem _ (sub0 a h)
        refine ⟨fun i mm H2 => i ≤ ds.length ∧ mm = ds.length - i ∧ ∃ F2 p2 env2 acc accV, Ext true F1 H1 p1 F2 H2 (L :: p2) ∧ Rel C env2 (L2.wipe σ vs) F2 H2 p2 ∧ L ∉ p2 ∧ ¬ F2 L ∧ H2 L = some (.lst accV) ∧ C.reps F2 H2 acc accV [] ∧ lcL vs a t f (ds.drop i) env2 acc = some (accF, eF),
          ⟨ds.length, Nat.zero_le _, rfl, F1, p0, _, [], [], xN, relN, fun h => nL1 (sub0 _ h), nFL, upd_same, ⟨rfl, rfl⟩, el⟩, ?_⟩
        rintro i mm H2 ⟨hi, rfl, F2, p2, env2, acc, accV, x2, rel2, nLp, nLF, hLv, racc, ef⟩
        have x2' : Ext true F1 H1 p1 F2 H2 p2 := x2.sub fun a h => List.mem_cons_of_mem _ h
        obtain ⟨go, stop⟩ := it F2 H2 p2 x2' rel2.trk
        by_cases hlt : i < ds.length
        · obtain ⟨g1, g2⟩ := go i ds[i] (List.getElem?_eq_getElem hlt)
          refine .inr ⟨g1, fun H' => i + 1 ≤ ds.length ∧ ∃ F2 p2 env2 acc accV, Ext true F1 H1 p1 F2 H' (L :: p2) ∧ Rel C env2 (L2.wipe σ vs) F2 H' p2 ∧ L ∉ p2 ∧ ¬ F2 L ∧ H' L = some (.lst accV) ∧ C.reps F2 H' acc accV [] ∧ lcL vs a t f (ds.drop (i + 1)) env2 acc = some (accF, eF),
            fun H' ⟨k1, k2⟩ => ⟨ds.length - (i + 1), by omega, k1, rfl, k2⟩, fun x H3 y => ?_⟩
          obtain ⟨gr, rp⟩ := g2 x H3 y
          have rel3 := Rel.grow (C := C) rel2 gr
          have hL3 := gr _ _ hLv
          have x3 : Ext true F1 H1 p1 F2 H3 (L :: p2) := x2.trans (Ext.grow (q := []) gr fun a h => by cases h)
          have racc3 : C.reps F2 H3 acc accV [] := reps_mono racc (Stab.grow gr)
          rw [drop_cons hlt] at ef
          unfold lcL at ef
          split at ef
          · rename_i e3 ha
            refine ⟨F2, p2, env2, ds[i], [], rel3, rp, Apart.nil, e3, ha, fun σ4 H4 F4 p4 on4 x4 rel4 => ?_⟩
            have ew := wipe_onl on4 his
            rw [wipe_wipe] at ew
            refine ⟨ew, ?_⟩
            have apL : Apart F2 [L] p2 := ⟨by simp, fun a h => by rw [List.mem_singleton.mp h]; exact nLp, fun a h => by rw [List.mem_singleton.mp h]; exact nLF⟩
            -- the list stands beside
            have step : ∀ {Ha Hb : Hp} {Fa Fb : FS} {pa pb : List Addr} {ea eb : Env} {σa : St}, Ext true F1 H1 p1 Fa Ha (L :: pa) → Rel C ea σa Fa Ha pa → L ∉ pa → ¬ Fa L → Ha L = some (.lst accV) → C.reps Fa Ha acc accV [] → Ext true Fa Ha pa Fb Hb pb →
                Ext true F1 H1 p1 Fb Hb (L :: pb) ∧ L ∉ pb ∧ ¬ Fb L ∧ Hb L = some (.lst accV) ∧ C.reps Fb Hb acc accV [] := fun {Ha Hb Fa Fb pa pb ea eb σa} xa ra n1 n2 hl rr xb => by
              refine ⟨xa.trans ?_, (fun h => (xb.own _ h).elim n1 fun z => (by rw [hl] at z; cases z)), (fun h => (xb.new _ h).elim n2 fun z => z.elim n1 fun z => (by rw [hl] at z; cases z)), xb.keep _ _ hl (fun _ z => nomatch z) fun _ => n1, reps_mono rr (xb.stab ra.dis ra.ow fun _ _ h => by cases h)⟩
              have z := xb.beside [L] []
              rw [List.append_nil, List.append_nil] at z
              exact z
            obtain ⟨y1, y2, y3, y4, y5⟩ := step (eb := e3) x3 rel3 nLp nLF hL3 racc3 x4
            refine ⟨F4, p4, e3, rel4, ?_⟩
            -- what a turn leaves
            have fin : ∀ {e5 : Env} {acc' : List D} {accV' : List V} {F5 : FS} {H5 : Hp} {p5 : List Addr}, Ext true F1 H1 p1 F5 H5 (L :: p5) → Rel C e5 σ4 F5 H5 p5 → L ∉ p5 → ¬ F5 L → H5 L = some (.lst accV') → C.reps F5 H5 acc' accV' [] → lcL vs a t f (ds.drop (i + 1)) (wipeE e5 vs) acc' = some (accF, eF) →
                i + 1 ≤ ds.length ∧ ∃ F2 p2 env2 acc accV, Ext true F1 H1 p1 F2 H5 (L :: p2) ∧ Rel C env2 (L2.wipe σ vs) F2 H5 p2 ∧ L ∉ p2 ∧ ¬ F2 L ∧ H5 L = some (.lst accV) ∧ C.reps F2 H5 acc accV [] ∧ lcL vs a t f (ds.drop (i + 1)) env2 acc = some (accF, eF) := fun {e5 acc' accV' F5 H5 p5} xa ra n1 n2 hl rr el => by
              obtain ⟨p6, ra6, sub6⟩ := Rel.wipe (C := C) ra vs hx
              rw [ew] at ra6
              exact ⟨hlt, F5, p6, _, acc', accV', xa.sub fun b h => (List.mem_cons.mp h).elim (fun e => by rw [e]; exact List.mem_cons_self) fun h => List.mem_cons_of_mem _ (sub6 b h), ra6, fun h => n1 (sub6 _ h), n2, hl, rr, el⟩
            split at ef
            · rename_i e5 et
              refine ⟨_, _, et, fun v H5 F5 p5 q5 x5 rel5 rp5 ap5 => ?_⟩
              obtain ⟨ev, eq⟩ := rp5
              subst eq
              refine ⟨true, ev, ?_⟩
              show (if true = true then _ else _)
              rw [if_pos rfl]
              obtain ⟨z1, z2, z3, z4, z5⟩ := step (eb := e5) y1 rel4 y2 y3 y4 y5 x5
              refine ⟨F5, p5, e5, rel5, ?_⟩
              split at ef
              · rename_i yv e6 ee
                split at ef
                · rename_i hy
                  refine ⟨_, _, ee, fun v6 H6 F6 p6 q6 x6 rel6 rp6 ap6 => ?_⟩
                  have eq6 := fro_nil hy.1 rp6
                  subst eq6
                  obtain ⟨w1, w2, w3, w4, w5⟩ := step (eb := e6) z1 rel5 z2 z3 z4 z5 x6
                  refine ⟨accV, w4, by rw [← reps_len w5, sizeLine_eq]; exact hy.2, ?_⟩
                  have rel7 : Rel C e6 σ4 F6 (upd H6 L (.lst (accV ++ [v6]))) p6 := Rel.mutBeside (C := C) rel6 w4 free_lst w2 w3
                  have st7 : Stab F6 F6 H6 (upd H6 L (.lst (accV ++ [v6]))) [] := ⟨fun _ h => h, fun b u e _ zz => by
                    rw [upd_ne fun e2 => ?_]
                    · exact e
                    · subst e2
                      rcases zz with zz | zz | ⟨xs, zz⟩
                      · exact w3 zz
                      · cases zz
                      · rw [w4] at e
                        cases e
                        cases zz⟩
                  exact fin (w1.trans (Ext.mut List.mem_cons_self (by rw [w4]; intro z; cases z))) rel7 w2 w3 upd_same (reps_mono (reps_snoc1 w5 rp6) st7) ef
                · cases ef
              · cases ef
            · rename_i e5 et
              refine ⟨_, _, et, fun v H5 F5 p5 q5 x5 rel5 rp5 ap5 => ?_⟩
              obtain ⟨ev, eq⟩ := rp5
              subst eq
              refine ⟨false, ev, ?_⟩
              show (if false = true then _ else _)
              rw [if_neg Bool.false_ne_true]
              obtain ⟨z1, z2, z3, z4, z5⟩ := step (eb := e5) y1 rel4 y2 y3 y4 y5 x5
              exact fin z1 rel5 z2 z3 z4 z5 ef
            · cases ef
          · cases ef
        · have ei : i = ds.length := by omega
          subst ei
          refine .inl ⟨stop, ?_⟩
          rw [List.drop_eq_nil_of_le (Nat.le_refl _)] at ef
          cases ef
          -- the hidden slots
          have back : ∀ v d, e1.getD v none = some d → v ∈ vs → ∃ u, σ[v]? = some (some u) ∧ C.rep F2 H2 d u [] := fun v d ed hv => by
            have ed' : e1[v]? = some (some d) := by
              rw [List.getD_eq_getElem?_getD] at ed
              cases e0 : e1[v]? with
              | none => rw [e0] at ed; cases ed
              | some o => rw [e0] at ed; rw [show o = some d from ed]
            obtain ⟨u, q1, eu, rp, _⟩ := Rel.slot (C := C) rel1 ed'
            have hf : fro d = true := by
              have z := List.all_eq_true.mp hfro v hv
              rw [ed'] at z
              exact z
            have eq := fro_nil hf rp
            subst eq
            exact ⟨u, eu, rep_mono rp (x2'.stab rel1.dis rel1.ow fun _ _ h => by cases h)⟩
          have hvl : ∀ v ∈ vs, v < σ.length := fun v hv => by
            have z := List.all_eq_true.mp hfro v hv
            rw [← repE_len rel1.slots]
            cases e0 : e1[v]? with
            | none => rw [e0] at z; cases z
            | some o => exact lt_of_some e0
          have R : ∃ p3, Rel C (restE e1 eF vs) σ F2 H2 p3 ∧ ∀ a ∈ p3, a ∈ p2 := by
            obtain ⟨p3, g1, g2, g3⟩ := repE_rest (C := C) back hnd hvl rel2.slots
            exact ⟨p3, ⟨g1, g3 rel2.nd, fun a h => rel2.dis a (g2 a h), rel2.trk, rel2.tabs, rel1.fx⟩, g2⟩
          obtain ⟨p3, rel3, sub3⟩ := R
          refine post (.ref L) H2 F2 p3 [L] (x1.trans (x2.sub fun b h => (List.mem_cons.mp h).elim (fun e => by rw [e]; exact List.mem_cons_self) fun h => List.mem_cons_of_mem _ (sub3 b h))) rel3 ⟨L, accV, [], rfl, racc, hLv, rfl⟩ ⟨by simp, fun b h => by rw [List.mem_singleton.mp h]; exact fun z => nLp (sub3 _ z), fun b h => by rw [List.mem_singleton.mp h]; exact nLF⟩
      · cases e
    · cases e
  · rename_i c fs e1 eh
    cases e
    exact ⟨_, _, eh, post⟩
  · cases e
/-- the condition of a comprehension -/
theorem t_ifs0 {X : Cx} : PTs X [] (TTX C m (xc (.bl true))) := ⟨fun pins s σ H Q I z => pts_nil.run pins s σ H Q I (by
  obtain ⟨b, e, q⟩ := tx_cb z
  cases e
  exact q)⟩
theorem ptsImp {X : Cx} {e : List Expr} {t t' : TT} (h : PTs X e t) (i : ∀ σ H Q, t' σ H Q → t σ H Q) : PTs X e t' := ⟨fun pins s σ H Q I z => h.run pins s σ H Q I (i σ H Q z)⟩
end
/-- the context within a comprehension -/
abbrev Ctx.blk (C : Ctx) (s : Shared) (H : Hp) (scope : Scope) (cl : List (Str × Addr)) (L : Addr) (fp : List Addr) : Ctx :=
  { X := C.X.blk s H scope (compEnvC scope cl L C.X.env) fp, T := C.T, fx := C.fx, fv := C.fv, W := fun _ _ _ => False }
section
variable {C : Ctx} {pos : Pos}
theorem Ctx.blkOk (O : CtxOk C) {s : Shared} {H : Hp} {scope : Scope} {cl : List (Str × Addr)} {L : Addr} {fp : List Addr} : CtxOk (C.blk s H scope cl L fp) := ⟨L2.takes0, O.calm⟩
theorem x_lc {elt tg iter : Expr} {ifs : List Expr} {scope : Scope} {own : List (Str × Nat)} {is : List Nat} {h : IF} {a : AS} {t f : XF} (O : CtxOk C) (hN : C.X.N.Nodup) (hi : PI C.X tg iter (TIx C h)) (ok : BlkOk C.X.N C.X.env.scope scope own)
    (hg : ∀ s H L cl fp, PG (C.blk s H scope cl L fp).X tg (TGx (C.blk s H scope cl L fp) is a)) (ht : ∀ s H L cl fp, PTs (C.blk s H scope cl L fp).X ifs (TTX (C.blk s H scope cl L fp) true t)) (he : ∀ s H L cl fp, PE (C.blk s H scope cl L fp).X elt (TX (C.blk s H scope cl L fp) true f))
    (hnd : (own.map (·.2)).Nodup) (his : ∀ i ∈ is, i ∈ own.map (·.2)) (hx : ∀ i ∈ C.fx, i ∉ own.map (·.2)) (hs : ∀ x, foldedSetIterable iter C.X.env x = pure x := by intro _; rfl) : PE C.X (.ListComp elt [⟨tg, iter, ifs, 0⟩] scope pos) (TX C true (xlc (own.map (·.2)) h a t f)) :=
  peImp (pe_lc (g := TGx C.cmp is a) (tt := TTX C.cmp true t) (te := TX C.cmp true f) O.calm hN hi ok (fun s H L cl fp => hg s H L cl fp) (fun s H L cl fp => ht s H L cl fp) (fun s H L cl fp => he s H L cl fp) hs) fun σ H Q z => tx_lc hnd his hx z
/-- y = [..] on one line -/
theorem s_setLc {i : Nat} {y : Str} {py spos : Pos} {elt tg iter : Expr} {ifs : List Expr} {scope : Scope} {own : List (Str × Nat)} {is : List Nat} {h : IF} {a : AS} {t f : XF} (O : CtxOk C) (hN : C.X.N.Nodup) (hy : C.X.N[i]? = some y) (hyl : C.X.env.scope.names.lookup y = some .local) (hfx : i ∉ C.fx)
    (hl : (py.line == pos.line) = true) (hsn : (scope.names.any fun (n, k) => n == y && (k == .local || k == .cell)) = false) (hk : C.X.env.scope.kind = .function)
    (hi : PI C.X tg iter (TIx C h)) (ok : BlkOk C.X.N C.X.env.scope scope own)
    (hg : ∀ s H L cl fp, PG (C.blk s H scope cl L fp).X tg (TGx (C.blk s H scope cl L fp) is a)) (ht : ∀ s H L cl fp, PTs (C.blk s H scope cl L fp).X ifs (TTX (C.blk s H scope cl L fp) true t)) (he : ∀ s H L cl fp, PE (C.blk s H scope cl L fp).X elt (TX (C.blk s H scope cl L fp) true f))
    (hnd : (own.map (·.2)).Nodup) (his : ∀ i ∈ is, i ∈ own.map (·.2)) (hx : ∀ i ∈ C.fx, i ∉ own.map (·.2)) (hs : ∀ x, foldedSetIterable iter C.X.env x = pure x := by intro _; rfl) :
    PS C.X (.Assign [.Name y py] (.ListComp elt [⟨tg, iter, ifs, 0⟩] scope pos) spos) (TSx C (sasg (xlc (own.map (·.2)) h a t f) (aset i))) :=
  psImp (ps_setLc (g := TGx C.cmp is a) (tt := TTX C.cmp true t) (te := TX C.cmp true f) O.calm hN hy hyl (sw_true hk hyl hl hsn) hi ok (fun s H L cl fp => hg s H L cl fp) (fun s H L cl fp => ht s H L cl fp) (fun s H L cl fp => he s H L cl fp) hs) fun En σ H z => by
    refine tx_lc hnd his hx (tx_imp (tsx_x z) fun v H1 ⟨F1, p1, q1, e1, d, fl, env', rel1, rp1, ap1, e, post⟩ => ?_)
    split at e
    · rename_i e2 ha
      cases e
      unfold aset at ha
      split at ha
      · rename_i y' hy'
        cases ha
        obtain ⟨p', rel', sub⟩ := Rel.put (C := C) rel1 (lt_of_some hy') hfx rp1 ap1
        exact post _ _ F1 p' (Ext.refl.sub sub) rel'
      · cases ha
    · cases e
end
end DL

namespace DL
open PySem PySem.Spec PyProof.Rows L2
/-! ### keys and look-ups of data -/
def lookK : List (D × D) → Key → Option D
  | [], _ => none
  | (x, d) :: r, k => if fkey x = some k then some d else lookK r k
def lookT : List (D × D) → NestedKey → Option D
  | [], _ => none
  | (x, d) :: r, k => if nkey x = some k then some d else lookT r k
def isTup : D → Bool
  | .tup _ => true
  | _ => false
def flatB (kvs : List (D × D)) : Bool := kvs.all fun x => (fkey x.1).isSome
def tupB (kvs : List (D × D)) : Bool := kvs.all fun x => isTup x.1
/-- the outcome of a look: none: it can't be asked -/
def dlook (kvs : List (D × D)) (key : D) : Option (Option D) := match fkey key with
  | some k => if flatB kvs = true then some (lookK kvs k) else none
  | none => if isTup key = true ∧ tupB kvs = true then (match nkey key with
    | some k => if k.depth ≤ 8 then some (lookT kvs k) else none
    | none => none) else none
def putK' : List (D × D) → D → Key → D → List (D × D)
  | [], x, _, d => [(x, d)]
  | (y, e) :: r, x, k, d => if fkey y = some k then (y, d) :: r else (y, e) :: putK' r x k d
def putT' : List (D × D) → D → NestedKey → D → List (D × D)
  | [], x, _, d => [(x, d)]
  | (y, e) :: r, x, k, d => if nkey y = some k then (y, d) :: r else (y, e) :: putT' r x k d
def dput (kvs : List (D × D)) (key d : D) : Option (List (D × D)) := if kvs.length < SZ then (match fkey key with
  | some k => if flatB kvs = true then some (putK' kvs key k d) else none
  | none => if isTup key = true ∧ tupB kvs = true then (match nkey key with
    | some k => if k.depth ≤ 8 then some (putT' kvs key k d) else none
    | none => none) else none) else none

section
variable {P : Program} {w : World} {K : PySem.W.Frag} {F : FS} {H : Hp}
/-- a dict at a with int and text keys; with tuple keys -/
def IsFlat (P : Program) (w : World) (H : Hp) (a : Addr) (kv : List (Key × V)) : Prop := ∃ od vs, (a == sysModules) = false ∧ H a = some (objO a od) ∧ KV kv vs ∧ FlatD P w od vs
def KeyAt (P : Program) (w : World) (K : PySem.W.Frag) (H : Hp) (b : Addr) (k : NestedKey) : Prop := ∃ F d, rep P w K F H d (.ref b) [] ∧ nkey d = some k ∧ k.depth ≤ 8
def IsTupl (P : Program) (w : World) (K : PySem.W.Frag) (H : Hp) (a : Addr) (es : List (NestedKey × Addr × Value)) : Prop := ∃ od, (a == sysModules) = false ∧ H a = some (objO a od) ∧ TupD P w od es ∧ ∀ x ∈ es, KeyAt P w K H x.2.1 x.1
theorem flat_of_nil {od : Obj} (h : TupD P w od []) : FlatD P w od [] := by
  obtain ⟨ea, ep, h1, h2⟩ := h.dat
  have e : ea = #[] := by
    have : ea.toList = [] := h2
    cases ea
    simp_all
  subst e
  exact ⟨h.ex, ⟨#[], ep, h1, fun e h => by simp at h, .nil⟩, List.nodup_nil, Nat.zero_le _⟩
theorem tup_of_nil {od : Obj} (h : FlatD P w od []) : TupD P w od [] := by
  obtain ⟨ea, ep, h1, _, h2⟩ := h.dat
  have e : ea.toList = [] := by cases h2' : ea.toList with
    | nil => rfl
    | cons x r => rw [h2'] at h2; cases h2
  exact ⟨h.ex, ⟨ea, ep, h1, e⟩, List.nodup_nil, Nat.zero_le _⟩
theorem repT_tup : ∀ {kvs : List (D × D)} {es : List (NestedKey × Addr × Value)} {q : List Addr}, repT P w K F H kvs es q → ∀ x ∈ kvs, isTup x.1 = true := by
  intro kvs
  induction kvs with
  | nil => intro es q _ x h; cases h
  | cons y r ih =>
    obtain ⟨y, d⟩ := y
    intro es q h x hx
    obtain ⟨k, b, u, v, ws, q1, r1, ek, dp, e, x0, ru, x1, x2, hq⟩ := h
    rcases List.mem_cons.mp hx with rfl | hx
    · cases y <;> first | rfl | (exfalso; cases ek; done) | (exfalso; obtain ⟨z, _⟩ := x0; cases z; done)
    · exact ih x2 x hx
theorem repK_flat : ∀ {kvs : List (D × D)} {kv : List (Key × V)} {q : List Addr}, repK P w K F H kvs kv q → ∀ x ∈ kvs, (fkey x.1).isSome = true := by
  intro kvs
  induction kvs with
  | nil => intro es q _ x h; cases h
  | cons y r ih =>
    obtain ⟨y, d⟩ := y
    intro es q h x hx
    obtain ⟨k, v, ws, q1, r1, ek, e, x1, x2, hq⟩ := h
    rcases List.mem_cons.mp hx with rfl | hx
    · show (fkey y).isSome = true
      rw [ek]
      rfl
    · exact ih x2 x hx
theorem repT_keys : ∀ {kvs : List (D × D)} {es : List (NestedKey × Addr × Value)} {q : List Addr}, repT P w K F H kvs es q → ∀ x ∈ es, KeyAt P w K H x.2.1 x.1 := by
  intro kvs
  induction kvs with
  | nil => intro es q h x hx; rw [h.1] at hx; cases hx
  | cons y r ih =>
    obtain ⟨y, d⟩ := y
    intro es q h x hx
    obtain ⟨k, b, u, v, ws, q1, r1, ek, dp, e, x0, ru, x1, x2, hq⟩ := h
    subst e
    rcases List.mem_cons.mp hx with rfl | hx
    · exact ⟨F, y, x0, ek, dp⟩
    · exact ih x2 x hx
/-- a dict whose keys are all flat is one -/
theorem dic_flat {o : Bool} {kvs : List (D × D)} {v : V} {p : List Addr} (h : rep P w K F H (.dic o kvs) v p) (f : flatB kvs = true) : ∃ a od kv vs q, v = .ref a ∧ (a == sysModules) = false ∧ own o F H a (objO a od) q p ∧ repK P w K F H kvs kv q ∧ KV kv vs ∧ FlatD P w od vs := by
  obtain ⟨a, od, q, e, sm, ow, h⟩ := h
  rcases h with ⟨kv, vs, r, kvr, fd⟩ | ⟨es, r, td⟩
  · exact ⟨a, od, kv, vs, q, e, sm, ow, r, kvr, fd⟩
  · cases kvs with
    | nil =>
      obtain ⟨rfl, rfl⟩ := r
      exact ⟨a, od, [], [], [], e, sm, ow, ⟨rfl, rfl⟩, .nil, flat_of_nil td⟩
    | cons x r' =>
      exfalso
      have h1 := repT_tup r x List.mem_cons_self
      have h2 := List.all_eq_true.mp f x List.mem_cons_self
      obtain ⟨y, d⟩ := x
      have h1 : isTup y = true := h1
      have h2 : (fkey y).isSome = true := h2
      cases y <;> first | (cases h1; done) | (cases h2; done)
theorem dic_tup {o : Bool} {kvs : List (D × D)} {v : V} {p : List Addr} (h : rep P w K F H (.dic o kvs) v p) (f : tupB kvs = true) : ∃ a od es q, v = .ref a ∧ (a == sysModules) = false ∧ own o F H a (objO a od) q p ∧ repT P w K F H kvs es q ∧ TupD P w od es := by
  obtain ⟨a, od, q, e, sm, ow, h⟩ := h
  rcases h with ⟨kv, vs, r, kvr, fd⟩ | ⟨es, r, td⟩
  · cases kvs with
    | nil =>
      obtain ⟨rfl, rfl⟩ := r
      cases kvr
      exact ⟨a, od, [], [], e, sm, ow, ⟨rfl, rfl⟩, tup_of_nil fd⟩
    | cons x r' =>
      exfalso
      have h1 := repK_flat r x List.mem_cons_self
      have h2 := List.all_eq_true.mp f x List.mem_cons_self
      obtain ⟨y, d⟩ := x
      have h1 : (fkey y).isSome = true := h1
      have h2 : isTup y = true := h2
      cases y <;> first | (cases h1; done) | (cases h2; done)
  · exact ⟨a, od, es, q, e, sm, ow, r, td⟩
theorem own_at {o : Bool} {a : Addr} {u : HO} {q p : List Addr} (h : own o F H a u q p) : H a = some u := by
  cases o with
  | true => exact h.1
  | false => exact h.2.1
theorem repK_look : ∀ {kvs : List (D × D)} {kv : List (Key × V)} {q : List Addr} {k : Key}, repK P w K F H kvs kv q → (∀ d, lookK kvs k = some d → ∃ v q', valV kv k = some v ∧ rep P w K F H d v q' ∧ ∀ a ∈ q', a ∈ q) ∧ (lookK kvs k = none → valV kv k = none) := by
  intro kvs
  induction kvs with
  | nil =>
    intro kv q k h
    rw [h.1]
    exact ⟨(fun d e => by cases e), fun _ => rfl⟩
  | cons y r ih =>
    obtain ⟨y, d⟩ := y
    intro kv q k h
    obtain ⟨k0, v, ws, q1, r1, ek, e, x1, x2, hq⟩ := h
    subst e hq
    obtain ⟨i1, i2⟩ := ih (k := k) x2
    unfold lookK
    by_cases hk : k0 = k
    · subst hk
      rw [if_pos ek]
      exact ⟨fun d' e => by cases e; exact ⟨v, q1, valV_pos rfl, x1, fun a h => List.mem_append_left _ h⟩, fun e => by cases e⟩
    · rw [if_neg fun z => hk (by rw [ek] at z; exact Option.some.inj z)]
      rw [valV_neg (p := (k0, v)) hk]
      exact ⟨fun d' e => by
        obtain ⟨v', q', h1, h2, h3⟩ := i1 d' e
        exact ⟨v', q', h1, h2, fun a h => List.mem_append_right _ (h3 a h)⟩, i2⟩
theorem atKey_cons {x : NestedKey × Addr × Value} {es : List (NestedKey × Addr × Value)} {k : NestedKey} : atKey (x :: es) k = if x.1 = k then some x.2 else atKey es k := by
  unfold atKey
  by_cases h : x.1 = k
  · simp [List.find?_cons, h]
  · simp [List.find?_cons, h]
theorem repT_look : ∀ {kvs : List (D × D)} {es : List (NestedKey × Addr × Value)} {q : List Addr} {k : NestedKey}, repT P w K F H kvs es q → (∀ d, lookT kvs k = some d → ∃ b u v q', atKey es k = some (b, u) ∧ RelV v u ∧ rep P w K F H d v q' ∧ ∀ a ∈ q', a ∈ q) ∧ (lookT kvs k = none → atKey es k = none) := by
  intro kvs
  induction kvs with
  | nil =>
    intro es q k h
    rw [h.1]
    exact ⟨(fun d e => by cases e), fun _ => rfl⟩
  | cons y r ih =>
    obtain ⟨y, d⟩ := y
    intro es q k h
    obtain ⟨k0, b, u, v, ws, q1, r1, ek, dp, e, x0, ru, x1, x2, hq⟩ := h
    subst e hq
    obtain ⟨i1, i2⟩ := ih (k := k) x2
    unfold lookT
    rw [atKey_cons]
    by_cases hk : k0 = k
    · subst hk
      rw [if_pos ek, if_pos rfl]
      exact ⟨fun d' e => by cases e; exact ⟨b, u, v, q1, rfl, ru, x1, fun a h => List.mem_append_left _ h⟩, fun e => by cases e⟩
    · rw [if_neg fun z => hk (by rw [ek] at z; exact Option.some.inj z), if_neg hk]
      exact ⟨fun d' e => by
        obtain ⟨b', u', v', q', h1, h2, h3, h4⟩ := i1 d' e
        exact ⟨b', u', v', q', h1, h2, h3, fun a h => List.mem_append_right _ (h4 a h)⟩, i2⟩
end
/-! ### what stands in the heap -/
section
variable {X : Cx} {pins : List (Addr × Obj)} {σ : L2.St} {H : Hp} {s : Shared} {F : FS}
mutual
theorem rep_nested (I : Inv X pins σ H s) : ∀ {d : D} {v : V} {q : List Addr} {k : NestedKey} {u : Value}, rep X.prog X.w X.K F H d v q → nkey d = some k → RelV v u → NestedIs s.heap k u
  | .non, _, _, _, _, x, e, r => by
    cases e
    rw [x.1] at r
    cases r
    exact .none
  | .bl b, _, _, _, _, x, e, r => by
    cases e
    rw [x.1] at r
    cases r
    exact .bool rfl
  | .int i, _, _, _, _, x, e, r => by
    cases e
    rw [x.1] at r
    obtain ⟨t, rfl⟩ := r
    exact .int _ _
  | .str z, _, _, _, _, x, e, r => by
    cases e
    rw [x.1] at r
    obtain ⟨t, rfl⟩ := r
    exact .text _ _
  | .tup xs, _, _, _, _, x, e, r => by
    obtain ⟨a, vs, rfl, h, rs, _⟩ := x
    cases r
    unfold nkey at e
    cases ex : nkeys xs with
    | none => rw [ex] at e; cases e
    | some ks =>
      rw [ex] at e
      cases e
      obtain ⟨_, its, rv, o, h1, h2, n, h3⟩ := (show ObjOk X.prog X.w H s.heap a (.tup vs) from I.hok a _ h)
      exact .tup h1 h2 h3 (by simpa using reps_nested I rs ex rv)
  | .lst _ _, _, _, _, _, _, e, _ => by cases e
  | .glob _, _, _, _, _, _, e, _ => by cases e
  | .ty _, _, _, _, _, _, e, _ => by cases e
  | .dic _ _, _, _, _, _, _, e, _ => by cases e
  | .ins _ _ _, _, _, _, _, _, e, _ => by cases e
  | .err _ _, _, _, _, _, _, e, _ => by cases e
  | .scr _, _, _, _, _, _, e, _ => by cases e
theorem reps_nested (I : Inv X pins σ H s) : ∀ {ds : List D} {vs : List V} {q : List Addr} {ks : List NestedKey} {us : List Value}, reps X.prog X.w X.K F H ds vs q → nkeys ds = some ks → Vals vs us → NestedAll s.heap ks us
  | [], _, _, _, _, x, e, r => by
    cases e
    rw [x.1] at r
    cases r
    exact .nil
  | d :: ds, _, _, _, _, ⟨v, ws, q, q', e1, x1, x2, _⟩, e, r => by
    subst e1
    cases r with
    | cons r1 r2 =>
      unfold nkeys at e
      split at e
      · rename_i k ks h1 h2
        cases e
        exact .cons (rep_nested I x1 h1 r1) (reps_nested I x2 h2 r2)
      · cases e
end
theorem KeyAt.is (I : Inv X pins σ H s) {b : Addr} {k : NestedKey} (h : KeyAt X.prog X.w X.K H b k) : (nestedKind X.prog X.w).is s.heap k b := by
  obtain ⟨F, d, r, e, dp⟩ := h
  exact ⟨rep_nested I r e rfl, dp⟩
theorem obj_at (I : Inv X pins σ H s) {a : Addr} {od : Obj} (h : H a = some (objO a od)) : s.heap.get? a = some od := (I.hok a _ h).1
theorem IsFlat.at (I : Inv X pins σ H s) {a : Addr} {kv : List (Key × V)} (h : IsFlat X.prog X.w H a kv) : ∃ vs, (a == sysModules) = false ∧ KV kv vs ∧ s.heap.DictOf (mixKind X.prog X.w) a vs ∧ vs.length ≤ sizeLine := by
  obtain ⟨od, vs, sm, e, r, fd⟩ := h
  obtain ⟨ea, ep, h1, h2, h3⟩ := fd.dat
  exact ⟨vs, sm, r, ⟨od, ea, ep, obj_at I e, fd.ex, h1, h2, h3, fd.nd⟩, fd.len⟩
theorem IsTupl.at (I : Inv X pins σ H s) {a : Addr} {es : List (NestedKey × Addr × Value)} (h : IsTupl X.prog X.w X.K H a es) : (a == sysModules) = false ∧ s.heap.DictOfH (nestedKind X.prog X.w) a es ∧ es.length ≤ sizeLine := by
  obtain ⟨od, sm, e, td, hk⟩ := h
  obtain ⟨ea, ep, h1, h2⟩ := td.dat
  exact ⟨sm, ⟨od, ea, ep, obj_at I e, td.ex, h1, h2, fun x hx => (hk x hx).is I, td.nd⟩, td.len⟩
/-! ### d[k], k in d, len(d) -/
abbrev rDGet (X : Cx) : R2 := fun x y H Q => (∃ a kv k v, x = .ref a ∧ y = kV k ∧ IsFlat X.prog X.w H a kv ∧ valV kv k = some v ∧ Q v H) ∨
  (∃ a es k b b' u v, x = .ref a ∧ y = .ref b ∧ IsTupl X.prog X.w X.K H a es ∧ KeyAt X.prog X.w X.K H b k ∧ atKey es k = some (b', u) ∧ RelV v u ∧ Q v H)
theorem ix_dict (hu : X.A.units + 16 < cLine) : IxR X (rDGet X) := by
  intro value slice pins s σ H x y v u Q I rx ry h hs
  rcases h with ⟨a, kv, k, r, rfl, rfl, hf, hv, q⟩ | ⟨a, es, k, b, b', z, r, rfl, rfl, hf, hk, hv, rz, q⟩
  · obtain ⟨vs, sm, rel, dd, _⟩ := hf.at I
    cases rx
    obtain ⟨w', hw, rw'⟩ := RelO.some_of (v := r) (o := valueAt vs k) (by rw [← hv]; exact rel.val k)
    exact tail_any dd.typeIs PySem.F.slot_dict_getitem.lookup (wpAny_getItem_of (kV_is ry) dd.mapOf hw ⟨r, H, I.tok _, rw', q⟩) hs
  · obtain ⟨sm, dd, _⟩ := hf.at I
    cases rx
    cases ry
    exact tail_any dd.typeIs PySem.F.slot_dict_getitem.lookup (wpAny_getItem_heap (by show X.A.in1.units + 8 < cLine; simp only [Around.in1_units]; omega) (hk.is I) dd hv ⟨r, H, I.tok _, rz, q⟩) hs
abbrev rDIn (X : Cx) (neg : Bool) : R2 := fun x y H Q => (∃ a kv k, y = .ref a ∧ x = kV k ∧ IsFlat X.prog X.w H a kv ∧ Q (.bl (if neg then !(valV kv k).isSome else (valV kv k).isSome)) H) ∨
  (∃ a es k b, y = .ref a ∧ x = .ref b ∧ IsTupl X.prog X.w X.K H a es ∧ KeyAt X.prog X.w X.K H b k ∧ Q (.bl (if neg then !(atKey es k).isSome else (atKey es k).isSome)) H)
theorem op_inDict (hu : X.A.units + 16 < cLine) : OpR X (compareOp .In) (rDIn X false) := by
  intro pins s σ H x y v u Q I rx ry h
  rcases h with ⟨a, kv, k, rfl, rfl, hf, q⟩ | ⟨a, es, k, b, rfl, rfl, hf, hk, q⟩
  · obtain ⟨vs, sm, rel, dd, _⟩ := hf.at I
    cases ry
    refine wpAny_in_of (kV_is rx) sm dd.mapOf ?_
    rw [← (rel.val k).isSome_eq]
    exact ⟨.bl _, H, I.tok _, rfl, q⟩
  · obtain ⟨sm, dd, _⟩ := hf.at I
    cases rx
    cases ry
    exact wpAny_in_heap (by show X.A.in1.units + 8 < cLine; simp only [Around.in1_units]; omega) (hk.is I) sm dd ⟨.bl _, H, I.tok _, rfl, q⟩
theorem op_notInDict (hu : X.A.units + 16 < cLine) : OpR X (compareOp .NotIn) (rDIn X true) := by
  intro pins s σ H x y v u Q I rx ry h
  rcases h with ⟨a, kv, k, rfl, rfl, hf, q⟩ | ⟨a, es, k, b, rfl, rfl, hf, hk, q⟩
  · obtain ⟨vs, sm, rel, dd, _⟩ := hf.at I
    cases ry
    refine wpAny_notIn_of (kV_is rx) sm dd.mapOf ?_
    rw [← (rel.val k).isSome_eq]
    exact ⟨.bl _, H, I.tok _, rfl, q⟩
  · obtain ⟨sm, dd, _⟩ := hf.at I
    cases rx
    cases ry
    exact wpAny_notIn_heap (by show X.A.in1.units + 8 < cLine; simp only [Around.in1_units]; omega) (hk.is I) sm dd ⟨.bl _, H, I.tok _, rfl, q⟩
end
section
variable {C : Ctx} {m : Bool} {F F1 F' : FS} {H H1 H' : Hp} {p p1 p' q r : List Addr} {σ : St} {env : Env} {En : Ends} {pos : Pos}
theorem fkey_kV {d : D} {k : Key} {v : V} (h : is C F H d v) (e : fkey d = some k) : v = kV k := by
  cases d with
  | int i => cases e; exact is_int h
  | str i => cases e; exact is_str h
  | _ => cases e
theorem tup_ref {d : D} {v : V} {k : NestedKey} (h : is C F H d v) (e : isTup d = true) (hk : nkey d = some k) (dp : k.depth ≤ 8) : ∃ b, v = .ref b ∧ KeyAt C.X.prog C.X.w C.X.K H b k := by
  cases d with
  | tup xs =>
    obtain ⟨q, h⟩ := h
    have h' := h
    obtain ⟨a, vs, rfl, h1, h2, rfl⟩ := h
    exact ⟨a, rfl, F, _, h', hk, dp⟩
  | _ => cases e
theorem dic_isFlat {o : Bool} {kvs : List (D × D)} {v : V} (h : is C F H (.dic o kvs) v) (f : flatB kvs = true) : ∃ a kv q, v = .ref a ∧ IsFlat C.X.prog C.X.w H a kv ∧ repK C.X.prog C.X.w C.X.K F H kvs kv q := by
  obtain ⟨p, h⟩ := h
  obtain ⟨a, od, kv, vs, q, e, sm, ow, r, kvr, fd⟩ := dic_flat h f
  exact ⟨a, kv, q, e, ⟨od, vs, sm, own_at ow, kvr, fd⟩, r⟩
theorem dic_isTupl {o : Bool} {kvs : List (D × D)} {v : V} (h : is C F H (.dic o kvs) v) (f : tupB kvs = true) : ∃ a es q, v = .ref a ∧ IsTupl C.X.prog C.X.w C.X.K H a es ∧ repT C.X.prog C.X.w C.X.K F H kvs es q := by
  obtain ⟨p, h⟩ := h
  obtain ⟨a, od, es, q, e, sm, ow, r, td⟩ := dic_tup h f
  exact ⟨a, es, q, e, ⟨od, sm, own_at ow, td, repT_keys r⟩, r⟩
/-- what a look says -/
theorem dlook_some {o : Bool} {kvs : List (D × D)} {key : D} {x y : V} {res : Option D} (e : dlook kvs key = some res) (h1 : is C F H (.dic o kvs) x) (h2 : is C F H key y) :
    (∃ a kv k q, x = .ref a ∧ y = kV k ∧ IsFlat C.X.prog C.X.w H a kv ∧ repK C.X.prog C.X.w C.X.K F H kvs kv q ∧ res = lookK kvs k) ∨
    (∃ a es k b q, x = .ref a ∧ y = .ref b ∧ IsTupl C.X.prog C.X.w C.X.K H a es ∧ KeyAt C.X.prog C.X.w C.X.K H b k ∧ repT C.X.prog C.X.w C.X.K F H kvs es q ∧ res = lookT kvs k) := by
  unfold dlook at e
  split at e
  · rename_i k ek
    split at e
    · rename_i hf
      cases e
      obtain ⟨a, kv, q, rfl, hF, r⟩ := dic_isFlat h1 hf
      exact .inl ⟨a, kv, k, q, rfl, fkey_kV h2 ek, hF, r, rfl⟩
    · cases e
  · split at e
    · rename_i ht
      split at e
      · rename_i k ek
        split at e
        · rename_i dp
          cases e
          obtain ⟨a, es, q, rfl, hT, r⟩ := dic_isTupl h1 ht.2
          obtain ⟨b, rfl, hb⟩ := tup_ref h2 ht.1 ek dp
          exact .inr ⟨a, es, k, b, q, rfl, rfl, hT, hb, r, rfl⟩
        · cases e
      · cases e
    · cases e
def φDGet : List D → Option D
  | [.dic _ kvs, key] => (match dlook kvs key with
    | some (some d) => if fro d = true then some d else none
    | _ => none)
  | _ => none
theorem ok_dget : RdOK C φDGet (R2' (rDGet C.X)) := by
  intro F H ds vs d Q hs trk e h
  unfold φDGet at e
  split at e
  · rename_i o kvs key
    split at e
    · rename_i d' el
      split at e
      · rename_i hf
        cases e
        obtain ⟨x, y, rfl, h1, h2⟩ := iss2 hs
        rcases dlook_some el h1 h2 with ⟨a, kv, k, q, rfl, rfl, hF, r, er⟩ | ⟨a, es, k, b, q, rfl, rfl, hT, hb, r, er⟩
        · obtain ⟨v, q', hv, rp, _⟩ := (repK_look r).1 d er.symm
          have z := fro_nil hf rp
          subst z
          exact ⟨_, _, rfl, .inl ⟨a, kv, k, v, rfl, rfl, hF, hv, flat h rp⟩⟩
        · obtain ⟨b', u, v, q', hv, ru, rp, _⟩ := (repT_look r).1 d er.symm
          have z := fro_nil hf rp
          subst z
          exact ⟨_, _, rfl, .inr ⟨a, es, k, b, b', u, v, rfl, rfl, hT, hb, hv, ru, flat h rp⟩⟩
      · cases e
    · cases e
  · cases e
theorem RdOK.or {φ1 φ2 : List D → Option D} {r1 r2 : R2} (h1 : RdOK C φ1 (R2' r1)) (h2 : RdOK C φ2 (R2' r2)) : RdOK C (fun ds => match φ1 ds with
    | some d => some d
    | none => φ2 ds) (R2' fun x y H Q => r1 x y H Q ∨ r2 x y H Q) := by
  intro F H ds vs d Q hs trk e h
  have e : (match φ1 ds with
    | some d => some d
    | none => φ2 ds) = some d := e
  split at e
  · rename_i d' e1
    cases e
    obtain ⟨x, y, e2, z⟩ := h1 F H ds vs d Q hs trk e1 h
    exact ⟨x, y, e2, .inl z⟩
  · obtain ⟨x, y, e2, z⟩ := h2 F H ds vs d Q hs trk e h
    exact ⟨x, y, e2, .inr z⟩
/-- an item of a list, a tuple, a dict -/
def φIx : List D → Option D := fun ds => match φAt ds with
  | some d => some d
  | none => φDGet ds
theorem ok_ix : RdOK C φIx (R2' fun x y H Q => rAt C.X.K x y H Q ∨ rDGet C.X x y H Q) := ok_at.or ok_dget
theorem ix_all (hu : C.X.A.units + 16 < cLine) : IxR C.X (fun x y H Q => rAt C.X.K x y H Q ∨ rDGet C.X x y H Q) := ix_at.or (ix_dict hu)
def dinD (a b : D) : Option Bool := match b with
  | .dic _ kvs => (dlook kvs a).map Option.isSome
  | _ => none
def φInD : List D → Option D
  | [a, b] => (dinD a b).map D.bl
  | _ => none
def φNotInD : List D → Option D
  | [a, b] => (dinD a b).map fun x => D.bl !x
  | _ => none
theorem isSome_lookK {kvs : List (D × D)} {kv : List (Key × V)} {q : List Addr} {k : Key} (r : repK C.X.prog C.X.w C.X.K F H kvs kv q) : (valV kv k).isSome = (lookK kvs k).isSome := by
  obtain ⟨h1, h2⟩ := repK_look (k := k) r
  cases e : lookK kvs k with
  | none => rw [h2 e]; rfl
  | some d =>
    obtain ⟨v, _, hv, _⟩ := h1 d e
    rw [hv]
    rfl
theorem isSome_lookT {kvs : List (D × D)} {es : List (NestedKey × Addr × Value)} {q : List Addr} {k : NestedKey} (r : repT C.X.prog C.X.w C.X.K F H kvs es q) : (atKey es k).isSome = (lookT kvs k).isSome := by
  obtain ⟨h1, h2⟩ := repT_look (k := k) r
  cases e : lookT kvs k with
  | none => rw [h2 e]; rfl
  | some d =>
    obtain ⟨b, u, v, _, hv, _⟩ := h1 d e
    rw [hv]
    rfl
theorem ok_inD0 {neg : Bool} {a b : D} {k : Bool} {x y : V} {Q : VK} (e : dinD a b = some k) (h1 : is C F H a x) (h2 : is C F H b y) (h : Q (.bl (if neg then !k else k)) H) : rDIn C.X neg x y H Q := by
  unfold dinD at e
  split at e
  · rename_i o kvs
    obtain ⟨res, el, rfl⟩ := Option.map_eq_some_iff.mp e
    rcases dlook_some el h2 h1 with ⟨a, kv, k, q, rfl, rfl, hF, r, er⟩ | ⟨a, es, k, b, q, rfl, rfl, hT, hb, r, er⟩
    · exact .inl ⟨a, kv, k, rfl, rfl, hF, by rw [isSome_lookK r, ← er]; exact h⟩
    · exact .inr ⟨a, es, k, b, rfl, rfl, hT, hb, by rw [isSome_lookT r, ← er]; exact h⟩
  · cases e
theorem ok_inDict : RdOK C φInD (R2' (rDIn C.X false)) := by
  intro F H ds vs d Q hs trk e h
  unfold φInD at e
  split at e
  · rename_i a b
    obtain ⟨k, e1, rfl⟩ := Option.map_eq_some_iff.mp e
    obtain ⟨x, y, rfl, h1, h2⟩ := iss2 hs
    exact ⟨_, _, rfl, ok_inD0 (neg := false) e1 h1 h2 (flat h ⟨rfl, rfl⟩)⟩
  · cases e
theorem ok_notInDict : RdOK C φNotInD (R2' (rDIn C.X true)) := by
  intro F H ds vs d Q hs trk e h
  unfold φNotInD at e
  split at e
  · rename_i a b
    obtain ⟨k, e1, rfl⟩ := Option.map_eq_some_iff.mp e
    obtain ⟨x, y, rfl, h1, h2⟩ := iss2 hs
    exact ⟨_, _, rfl, ok_inD0 (neg := true) e1 h1 h2 (flat h ⟨rfl, rfl⟩)⟩
  · cases e
/-- in, not in: a list, a tuple, a dict -/
def φInA : List D → Option D := fun ds => match φIn ds with
  | some d => some d
  | none => φInD ds
def φNotInA : List D → Option D := fun ds => match φNotIn ds with
  | some d => some d
  | none => φNotInD ds
theorem ok_inA : RdOK C φInA (R2' fun x y H Q => rInSq C.X.K false x y H Q ∨ rDIn C.X false x y H Q) := ok_in.or ok_inDict
theorem ok_notInA : RdOK C φNotInA (R2' fun x y H Q => rInSq C.X.K true x y H Q ∨ rDIn C.X true x y H Q) := ok_notIn.or ok_notInDict
theorem op_inA (hu : C.X.A.units + 100 < cLine) : OpR C.X (compareOp .In) (fun x y H Q => rInSq C.X.K false x y H Q ∨ rDIn C.X false x y H Q) := (op_inSq (by omega)).or (op_inDict (by omega))
theorem op_notInA (hu : C.X.A.units + 100 < cLine) : OpR C.X (compareOp .NotIn) (fun x y H Q => rInSq C.X.K true x y H Q ∨ rDIn C.X true x y H Q) := (op_notInSq (by omega)).or (op_notInDict (by omega))
end
end DL

namespace DL
open PySem PySem.Spec PyProof.Rows L2
/-! ### turns of frozen sources -/
/-- tuples made anew -/
def ItT (B : Hp → Prop) (n : Nat) (Pv : Nat → List V → Prop) : It :=
  ⟨fun i H => B H ∧ i < n, fun i H v H' => ∃ T xs, v = .ref T ∧ H T = none ∧ H' = upd H T (.tup xs) ∧ Pv i xs, fun i H => B H ∧ i = n⟩
/-- values -/
def ItV (B : Hp → Prop) (n : Nat) (Pv : Nat → V → Prop) : It :=
  ⟨fun i H => B H ∧ i < n, fun i H v H' => H' = H ∧ Pv i v, fun i H => B H ∧ i = n⟩
section
variable {P : Program} {w : World} {K : PySem.W.Frag} {elts : List Expr} {kk : Nat} {tpos : Pos} {β : Type} {I : Addr} {own wr : List Addr} {Tn : Nat → Heap → Prop} {Bh : β → Heap → Prop} {n : Nat} {B : Hp → Prop}
theorem turn_tups {Pt : β → Nat → Array Value → Prop} {Pv : Nat → List V → Prop} (hI : I ∈ own) (hwr : ∀ b ∈ wr, b ∈ own)
    (obj : ∀ i h, Tn i h → ∀ b ∈ own, ∃ o, h.get? b = some o ∧ ∀ v, o.data ≠ .cell v) (keep : ∀ i h h', Tn i h → (∀ b ∈ own, ∀ o, h.get? b = some o → h'.get? b = some o) → Tn i h')
    (W : ∀ b A, A.handled = none → ∃ fp, GoesN P w A (.Tuple elts kk tpos) I fp wr n (fun i h₀ v h => ∃ T vals, v = .ref T ∧ h₀.objs.size ≤ T ∧ Pt b i vals ∧ h.IsTuple T vals) (fun i h => Tn i h ∧ Bh b h))
    (hB : ∀ (X : Cx), X.prog = P → X.w = w → X.K = K → ∀ pins σ H s, Inv X pins σ H s → B H → ∃ b, Bh b s.heap ∧ ∀ i vals, i < n → Pt b i vals → ∃ xs, Vals xs vals.toList ∧ xs.length ≤ sizeLine ∧ Pv i xs)
    (self : ∀ (A : Around) (i : Nat) (s : Shared) (Q : Value → Shared → Prop) (E : Value → Shared → Prop), Tn i s.heap → Q (.ref I) s → wpAny (model P w) A (pyIter (.ref I)) Q E s) :
    Turn P w K (.Tuple elts kk tpos) (ItT B n Pv) own I Tn where
  mem := hI
  obj := obj
  keep := keep
  item := by
    intro X hP hw hK hc i pins s σ H E Iv hf st hg
    subst hP hw hK
    obtain ⟨hBH, hi⟩ := hg
    obtain ⟨b, hb, hpt⟩ := hB X rfl rfl rfl pins σ H s Iv hBH
    obtain ⟨fp, W⟩ := W b X.A (Iv.ok.hd hc)
    refine W.goes i s (fun u s2 => ∃ x H', Inv X pins σ H' s2 ∧ RelV x u ∧ (ItT B n Pv).yld i H x H' ∧ Tn (i + 1) s2.heap ∧ ∀ b ∈ own, H' b = none) E hi ⟨st, hb⟩ fun v h' tk ⟨T, vals, ev, hT, hp, ht⟩ st' hk htk => ?_
    obtain ⟨xs, rv, hl, pv⟩ := hpt i vals hi hp
    subst ev
    have new : ObjOk X.prog X.w (upd H T (.tup xs)) h' T (.tup xs) := ⟨hl, vals.toList, rv, ht⟩
    have I1 : Inv X pins σ (upd H T (.tup xs)) { s with heap := h', toks := tk } := Iv.turnedNew (ch := wr) (fun b ob hb q => hk b ob hb q) (fun b hb => hf b (hwr b hb)) hT new
    refine ⟨.ref T, _, I1, rfl, ⟨T, xs, rfl, Iv.hok.fresh hT, rfl, pv⟩, st'.1, fun b hb => ?_⟩
    obtain ⟨o, ho, _⟩ := obj i s.heap st b hb
    rw [upd_ne (Nat.ne_of_lt (Nat.lt_of_lt_of_le (Heap.lt_size ho) hT))]
    exact (hf b hb).1
  done := by
    intro X hP hw hK hc i pins s σ H E Iv hf st hg
    subst hP hw hK
    obtain ⟨hBH, rfl⟩ := hg
    obtain ⟨b, hb, hpt⟩ := hB X rfl rfl rfl pins σ H s Iv hBH
    obtain ⟨fp, W⟩ := W b X.A (Iv.ok.hd hc)
    exact W.stops s (fun s1 => Inv X pins σ H s1) E ⟨st, hb⟩ fun h' tk hk htk => Iv.turnedL (ch := wr) (fun b ob hb q => hk b ob hb q) fun b hb => hf b (hwr b hb)
  self := self
theorem turn_valsG {tg : Expr} {Pt : β → Nat → Value → Prop} {Pv : Nat → V → Prop} (hI : I ∈ own) (hwr : ∀ b ∈ wr, b ∈ own)
    (obj : ∀ i h, Tn i h → ∀ b ∈ own, ∃ o, h.get? b = some o ∧ ∀ v, o.data ≠ .cell v) (keep : ∀ i h h', Tn i h → (∀ b ∈ own, ∀ o, h.get? b = some o → h'.get? b = some o) → Tn i h')
    (W : ∀ b A, A.handled = none → ∃ fp, Goes P w A tg I fp wr n (fun i v _ => Pt b i v) (fun i h => Tn i h ∧ Bh b h))
    (hB : ∀ (X : Cx), X.prog = P → X.w = w → X.K = K → ∀ pins σ H s, Inv X pins σ H s → B H → ∃ b, Bh b s.heap ∧ ∀ i v, i < n → Pt b i v → ∃ x, RelV x v ∧ Pv i x)
    (self : ∀ (A : Around) (i : Nat) (s : Shared) (Q : Value → Shared → Prop) (E : Value → Shared → Prop), Tn i s.heap → Q (.ref I) s → wpAny (model P w) A (pyIter (.ref I)) Q E s) :
    Turn P w K tg (ItV B n Pv) own I Tn where
  mem := hI
  obj := obj
  keep := keep
  item := by
    intro X hP hw hK hc i pins s σ H E Iv hf st hg
    subst hP hw hK
    obtain ⟨hBH, hi⟩ := hg
    obtain ⟨b, hb, hpt⟩ := hB X rfl rfl rfl pins σ H s Iv hBH
    obtain ⟨fp, W⟩ := W b X.A (Iv.ok.hd hc)
    refine W.goes i s (fun u s2 => ∃ x H', Inv X pins σ H' s2 ∧ RelV x u ∧ (ItV B n Pv).yld i H x H' ∧ Tn (i + 1) s2.heap ∧ ∀ b ∈ own, H' b = none) E hi ⟨st, hb⟩ fun v h' tk hp st' hk htk => ?_
    obtain ⟨x, rv, pv⟩ := hpt i v hi hp
    have I1 : Inv X pins σ H { s with heap := h', toks := tk } := Iv.turnedL (ch := wr) (fun b ob hb q => hk b ob hb q) fun b hb => hf b (hwr b hb)
    exact ⟨x, H, I1, rv, ⟨rfl, pv⟩, st'.1, fun b hb => (hf b hb).1⟩
  done := by
    intro X hP hw hK hc i pins s σ H E Iv hf st hg
    subst hP hw hK
    obtain ⟨hBH, rfl⟩ := hg
    obtain ⟨b, hb, hpt⟩ := hB X rfl rfl rfl pins σ H s Iv hBH
    obtain ⟨fp, W⟩ := W b X.A (Iv.ok.hd hc)
    exact W.stops s (fun s1 => Inv X pins σ H s1) E ⟨st, hb⟩ fun h' tk hk htk => Iv.turnedL (ch := wr) (fun b ob hb q => hk b ob hb q) fun b hb => hf b (hwr b hb)
  self := self
/-! ### lists and tuples alike -/
def SqB (K : PySem.W.Frag) (t : Bool) (H : Hp) (a : Addr) (vs : List V) : Prop := if t = true then SqT K H a vs else SqL K H a vs
def ItB (t : Bool) (h : Heap) (it a : Addr) (i : Nat) : Prop := if t = true then h.IsTupleIter it a i else h.IsListIter it a i
def HpB (t : Bool) (h : Heap) (a : Addr) (its : Array Value) : Prop := if t = true then h.IsTuple a its else h.IsList a its
def obB (t : Bool) (a : Addr) : Obj := if t = true then { cls := .type "tuple_iterator", data := .fields #[.ref a, .int 0 0] } else { cls := .type "list_iterator", data := .fields #[.ref a, .int 0 0] }
theorem ItB.obj {t : Bool} {h : Heap} {it a : Addr} {i : Nat} (x : ItB t h it a i) : ∃ o, h.get? it = some o ∧ ∀ v, o.data ≠ .cell v := by
  cases t with
  | true => obtain ⟨o, ho, _, hd⟩ := x; exact ⟨o, ho, fun v z => by rw [hd] at z; cases z⟩
  | false => obtain ⟨o, ho, _, hd⟩ := x; exact ⟨o, ho, fun v z => by rw [hd] at z; cases z⟩
theorem ItB.at {t : Bool} {h h' : Heap} {it a : Addr} {i : Nat} (x : ItB t h it a i) (k : ∀ o, h.get? it = some o → h'.get? it = some o) : ItB t h' it a i := by
  cases t with
  | true => exact Heap.IsTupleIter.at x k
  | false => exact Heap.IsListIter.at x k
theorem obB_it {t : Bool} {h : Heap} {it a : Addr} (x : h.get? it = some (obB t a)) : ItB t h it a 0 := by
  cases t with
  | true => exact ⟨_, x, rfl, rfl⟩
  | false => exact ⟨_, x, rfl, rfl⟩
theorem begB {t : Bool} {a : Addr} {its : Array Value} : Begins (.ref a) (obB t a) fun h => HpB t h a its := by
  cases t with
  | true => exact begins_tuple a its
  | false => exact begins_list a its
theorem drawsB {A : Around} (hh : A.handled = none) {t : Bool} {it a : Addr} (hne : a ≠ it) {its : Array Value} : Draws P w A it [it, a] its.size (fun i v => its[i]? = some v) (fun i h => ItB t h it a i ∧ HpB t h a its) := by
  cases t with
  | true => exact Draws.tuple hh it a hne its
  | false => exact Draws.list hh it a hne its
theorem SqB.at {X : Cx} {pins : List (Addr × Obj)} {σ : L2.St} {H : Hp} {s : Shared} (Iv : Inv X pins σ H s) {t : Bool} {a : Addr} {vs : List V} (h : SqB X.K t H a vs) : ∃ its : Array Value, Vals vs its.toList ∧ HpB t s.heap a its ∧ its.size = vs.length ∧ a < s.heap.objs.size := by
  cases t with
  | true =>
    obtain ⟨its, rv, p, hz⟩ := Iv.tuple (show SqT X.K H a vs from h)
    exact ⟨its.toArray, by simpa using rv, p, by simp [rv.length], p.lt⟩
  | false =>
    obtain ⟨its, rv, p, hz⟩ := Iv.list (show SqL X.K H a vs from h)
    exact ⟨its.toArray, by simpa using rv, p.isList, by simp [rv.length], p.lt⟩
theorem small_two : (2 : Nat) ≤ sizeLine := by decide
/-- enumerate of a list or tuple -/
theorem turn_enumB {t : Bool} {a e it : Addr} {vs : List V} (hei : e ≠ it) (hea : e ≠ a) (hai : a ≠ it) :
    Turn P w K (.Tuple elts kk tpos) (ItT (fun H => SqB K t H a vs) vs.length fun i xs => ∃ x, vs[i]? = some x ∧ xs = [.int (i : Nat), x]) [e, it] e (fun i h => (∃ old, IsEnum h e it ((0 : Int) + (i : Int)) old) ∧ ItB t h it a i) := by
  refine turn_tups (β := { its : Array Value // its.size = vs.length }) (Bh := fun b h => HpB t h a b.1) (Pt := fun b i vals => ∃ tk x, b.1[i]? = some x ∧ vals = #[.int ((0 : Int) + (i : Int)) tk, x]) (wr := [e, it]) (by simp) (fun b h => h) (fun i h st b hb => ?_) (fun i h h' st k => ?_) (fun b A hh => ⟨e :: [it, a], ?_⟩) (fun X hP hw hK pins σ H s Iv hB => ?_) fun A i s Q E st h => ?_
  · obtain ⟨⟨old, he⟩, hi⟩ := st
    have e' : b = e ∨ b = it := by simpa using hb
    rcases e' with z | z
    · rw [z]; exact ⟨_, he, fun v q => nomatch q⟩
    · rw [z]; exact hi.obj
  · obtain ⟨⟨old, he⟩, hi⟩ := st
    exact ⟨⟨old, k e (by simp) _ he⟩, hi.at fun o q => k it (by simp) o q⟩
  · obtain ⟨its, hz⟩ := b
    have G := GoesN.enumFrom (elts := elts) (x1 := kk) (pos := tpos) (0 : Int) (drawsB (P := P) (w := w) (A := A.in1) hh (t := t) hai (its := its)) e hei (by simp [hei, hea]) (by simp)
    rw [hz] at G
    refine ⟨G.sub, fun i h h' st k => ?_, fun i s Q E hi st q => ?_, fun s Q E st q => ?_, fun i s Q E st q => ?_⟩
    · obtain ⟨z1, z2⟩ := G.frame i h h' ⟨st.1.1, st.1.2, st.2⟩ k
      exact ⟨⟨z1, z2.1⟩, z2.2⟩
    · exact G.goes i s Q E hi ⟨st.1.1, st.1.2, st.2⟩ fun v h' tk ⟨T, t', x, ev, hT, hx, ht⟩ ⟨z1, z2⟩ hk htk => q v h' tk ⟨T, _, ev, hT, ⟨t', x, hx, rfl⟩, ht⟩ ⟨⟨z1, z2.1⟩, z2.2⟩ hk htk
    · exact G.stops s Q E ⟨st.1.1, st.1.2, st.2⟩ q
    · exact G.self i s Q E ⟨st.1.1, st.1.2, st.2⟩ q
  · subst hP hw hK
    obtain ⟨its, rv, hb, hz, _⟩ := SqB.at Iv hB
    refine ⟨⟨its, hz⟩, hb, fun i vals hi ⟨tk, x, hx, ev⟩ => ?_⟩
    obtain ⟨u, hu, ru⟩ := rv.get (i := i) (List.getElem?_eq_getElem hi)
    rw [Array.getElem?_toList] at hu
    rw [hx] at hu
    cases hu
    refine ⟨[.int (i : Nat), vs[i]], ?_, small_two, vs[i], List.getElem?_eq_getElem hi, rfl⟩
    rw [ev]
    exact .cons ⟨tk, by rw [Int.zero_add]⟩ (.cons ru .nil)
  · obtain ⟨⟨old, he⟩, _⟩ := st
    exact wpAny_pyIter_enum he h
/-- zip of two -/
theorem turn_zipB {t1 t2 : Bool} {a b z TI TO i1 i2 : Addr} {vs ws : List V} (S : ZipSep2 z TI TO i1 i2 [i1, a] [i2, b]) (h1 : a ≠ i1) (h2 : b ≠ i2) :
    Turn P w K (.Tuple elts kk tpos) (ItT (fun H => SqB K t1 H a vs ∧ SqB K t2 H b ws) (min vs.length ws.length) fun i xs => ∃ x y, vs[i]? = some x ∧ ws[i]? = some y ∧ xs = [x, y]) [z, TI, TO, i1, i2] z
      (fun i h => IsZip h z TI TO .none ∧ IsTupOf2 h TI (.ref i1) (.ref i2) ∧ (∃ a1 a2, IsTupOf2 h TO a1 a2) ∧ ItB t1 h i1 a i ∧ ItB t2 h i2 b i) := by
  refine turn_tups (β := { its : Array Value × Array Value // its.1.size = vs.length ∧ its.2.size = ws.length }) (Bh := fun c h => HpB t1 h a c.1.1 ∧ HpB t2 h b c.1.2) (Pt := fun c i vals => ∃ x y, c.1.1[i]? = some x ∧ c.1.2[i]? = some y ∧ vals = #[x, y]) (wr := [z, TO, i1, i2])
    (by simp) (fun b h => ?_) (fun i h st b hb => ?_) (fun i h h' st k => ?_) (fun c A hh => ⟨z :: TI :: TO :: ([i1, a] ++ [i2, b]), ?_⟩) (fun X hP hw hK pins σ H s Iv hB => ?_) fun A i s Q E st h => ?_
  · have e' : b = z ∨ b = TO ∨ b = i1 ∨ b = i2 := by simpa using h
    rcases e' with q | q | q | q <;> simp [q]
  · obtain ⟨hz, hTI, ⟨x, y, hTO⟩, g1, g2⟩ := st
    have e' : b = z ∨ b = TI ∨ b = TO ∨ b = i1 ∨ b = i2 := by simpa using hb
    rcases e' with q | q | q | q | q
    · rw [q]; exact ⟨_, hz, fun v q => nomatch q⟩
    · rw [q]; exact ⟨_, hTI, fun v q => nomatch q⟩
    · rw [q]; exact ⟨_, hTO, fun v q => nomatch q⟩
    · rw [q]; exact g1.obj
    · rw [q]; exact g2.obj
  · obtain ⟨hz, hTI, ⟨x, y, hTO⟩, g1, g2⟩ := st
    exact ⟨k z (by simp) _ hz, k TI (by simp) _ hTI, ⟨x, y, k TO (by simp) _ hTO⟩, g1.at fun o q => k i1 (by simp) o q, g2.at fun o q => k i2 (by simp) o q⟩
  · obtain ⟨⟨its, its2⟩, hz1, hz2⟩ := c
    have G := GoesN.zip2 (elts := elts) (x1 := kk) (pos := tpos) S (drawsB (P := P) (w := w) (A := A.in1) hh (t := t1) h1 (its := its)) (drawsB (P := P) (w := w) (A := A.in1) hh (t := t2) h2 (its := its2))
    rw [show its.size = vs.length from hz1, show its2.size = ws.length from hz2] at G
    have go : ∀ {i h}, ((IsZip h z TI TO .none ∧ IsTupOf2 h TI (.ref i1) (.ref i2) ∧ (∃ a1 a2, IsTupOf2 h TO a1 a2) ∧ ItB t1 h i1 a i ∧ ItB t2 h i2 b i) ∧ HpB t1 h a its ∧ HpB t2 h b its2) →
      (IsZip h z TI TO .none ∧ IsTupOf2 h TI (.ref i1) (.ref i2) ∧ (∃ a1 a2, IsTupOf2 h TO a1 a2) ∧ (ItB t1 h i1 a i ∧ HpB t1 h a its) ∧ (ItB t2 h i2 b i ∧ HpB t2 h b its2)) := fun st => ⟨st.1.1, st.1.2.1, st.1.2.2.1, ⟨st.1.2.2.2.1, st.2.1⟩, ⟨st.1.2.2.2.2, st.2.2⟩⟩
    refine ⟨G.sub, fun i h h' st k => ?_, fun i s Q E hi st q => ?_, fun s Q E st q => ?_, fun i s Q E st q => ?_⟩
    · obtain ⟨z1, z2, z3, z4, z5⟩ := G.frame i h h' (go st) k
      exact ⟨⟨z1, z2, z3, z4.1, z5.1⟩, z4.2, z5.2⟩
    · exact G.goes i s Q E hi (go st) fun v h' tk ⟨T, x, y, ev, hT, hx, hy, ht⟩ ⟨z1, z2, z3, z4, z5⟩ hk htk => q v h' tk ⟨T, _, ev, hT, ⟨x, y, hx, hy, rfl⟩, ht⟩ ⟨⟨z1, z2, z3, z4.1, z5.1⟩, z4.2, z5.2⟩ hk htk
    · exact G.stops s Q E (go st) q
    · exact G.self i s Q E (go st) q
  · subst hP hw hK
    obtain ⟨its, rv, hb, hz, _⟩ := SqB.at Iv hB.1
    obtain ⟨its2, rv2, hb2, hz2, _⟩ := SqB.at Iv hB.2
    refine ⟨⟨(its, its2), hz, hz2⟩, ⟨hb, hb2⟩, fun i vals hi ⟨x, y, hx, hy, ev⟩ => ?_⟩
    have hi1 : i < vs.length := by omega
    have hi2 : i < ws.length := by omega
    obtain ⟨u, hu, ru⟩ := rv.get (i := i) (List.getElem?_eq_getElem hi1)
    obtain ⟨u2, hu2, ru2⟩ := rv2.get (i := i) (List.getElem?_eq_getElem hi2)
    rw [Array.getElem?_toList] at hu hu2
    rw [show its[i]? = some x from hx] at hu
    rw [show its2[i]? = some y from hy] at hu2
    cases hu
    cases hu2
    refine ⟨[vs[i], ws[i]], ?_, small_two, _, _, List.getElem?_eq_getElem hi1, List.getElem?_eq_getElem hi2, rfl⟩
    rw [ev]
    exact .cons ru (.cons ru2 .nil)
  · exact wpAny_pyIter_zip st.1 h
end
end DL

namespace DL
open PySem PySem.Spec PyProof.Rows L2
theorem meets_enumerate_new1 {v : Value} {o : Obj} {H : Heap → Prop} (B : Begins v o H) :
    Meets (Builtin.«enumerate.__new__» ⟨[.type "enumerate", v], []⟩) (fun _ R s => H s.heap ∧
      R (.ok (.ret (.ref (s.heap.push o).objs.size))) { s with heap := (s.heap.push o).push { cls := .type "enumerate", data := .fields #[.none, .bool false, .ref s.heap.objs.size, rawInt 0, .none, .none] } }) :=
  .of_wp fun prog w A R s h => by
    obtain ⟨hp, g, d, tk, os⟩ := s; obtain ⟨h1, h⟩ := h
    have hsub := sub_enumerate
    have q1 : ∀ {A' : Around} {E : Value → Shared → Prop} {Q : Value → Shared → Prop}, Q (.ref hp.objs.size) ⟨hp.push o, g, d, tk, os⟩ → wpAny (model prog w) A' (pyIter v) Q E ⟨hp, g, d, tk, os⟩ :=
      fun q => B.iter prog w _ _ ⟨hp, g, d, tk, os⟩ _ h1 q
    wp_walk using q1
    refine wpAny_stack_any fun st => wpAny_pure ?_
    split
    · rename_i c _ _ _ _ _
      cases (c == Value.type "enumerate")
      · wp_walk using q1
        exact ⟨_, rfl, h⟩
      · wp_walk using q1
        exact ⟨_, rfl, h⟩
    · wp_walk using q1
      exact ⟨_, rfl, h⟩
theorem enum_begins1 {prog : Program} {w : World} {A : Around} {E : Value → Shared → Prop} {s : Shared} {v : Value} {o : Obj} {H : Heap → Prop} {Q : Value → Shared → Prop} (B : Begins v o H) (h1 : H s.heap)
    (h : ∀ h', IsEnum h' (s.heap.objs.size + 1) s.heap.objs.size 0 .none → h'.get? s.heap.objs.size = some o → h'.objs.size = s.heap.objs.size + 2 →
      (∀ b o, s.heap.get? b = some o → h'.get? b = some o) → Q (.ref (s.heap.objs.size + 1)) { s with heap := h' }) :
    wpAny (model prog w) A (call (.type "enumerate") [v]) Q E s := by
  refine callType_new F.called_enumerate (by decide) (F.typeCall_enumerate_1 _) (F.newCall_enumerate_1 _) (fun obj => F.args_object_init_2 obj _) F.entry_enumerate_new
    (meets_enumerate_new1 B) ⟨h1, ?_⟩
  have hz : (s.heap.push o).objs.size = s.heap.objs.size + 1 := Heap.size_push ..
  show _ ∧ _
  rw [hz]
  have he : IsEnum ((s.heap.push o).push { cls := .type "enumerate", data := .fields #[.none, .bool false, .ref s.heap.objs.size, rawInt 0, .none, .none] }) (s.heap.objs.size + 1) s.heap.objs.size 0 .none := by
    have := Heap.get?_push_size (s.heap.push o) (o := { cls := .type "enumerate", data := .fields #[.none, .bool false, .ref s.heap.objs.size, rawInt 0, .none, .none] }) rfl
    rw [hz] at this; exact this
  refine ⟨⟨_, he, rfl⟩, h _ he (Heap.get?_push_of_some _ (Heap.get?_push_size _ B.free)) (by rw [Heap.size_push, hz]) fun b o x => Heap.get?_push_of_some _ (Heap.get?_push_of_some _ x)⟩
theorem neN {a b : Nat} (h : a ≠ b) : (a : Addr) ≠ b := h
theorem zip_sep (n a b : Nat) (la : a < n) (lb : b < n) : ZipSep2 (n + 4) (n + 2) (n + 3) n (n + 1) [n, a] [n + 1, b] := by
  have two : ∀ {x y z : Nat}, x ≠ y → x ≠ z → (x : Addr) ∉ [(y : Addr), z] := fun {x y z} h1 h2 h => by
    rcases List.mem_cons.mp h with e | h
    · exact h1 e
    · exact h2 (List.mem_singleton.mp h)
  constructor
  · exact neN (by omega)
  · exact neN (by omega)
  · exact neN (by omega)
  · exact neN (by omega)
  · exact List.mem_cons_self
  · exact two (by omega) (by omega)
  · exact two (by omega) (by omega)
  · exact neN (by omega)
  · exact List.mem_cons_self
  · exact two (by omega) (by omega)
  · exact two (by omega) (by omega)
  · exact two (by omega) (by omega)
  · exact two (by omega) (by omega)
section
variable {X : Cx} {tg : Expr} {elts : List Expr} {kk : Nat} {p pos tpos : Pos}
/-- enumerate(list or tuple) -/
theorem pi_enumB {e : Expr} {ta : TA} (hg : Gl X "enumerate") (hm : X.mg "enumerate" = none) (ha : PA X [e] ta) (hs : starEach [e] X.env = [(false, eval e X.env)] := by rfl) :
    PI X (.Tuple elts kk tpos) (.Call (.Name "enumerate" p) [e] [] pos) (fun σ H R => ta σ H fun vs H1 => ∃ a t xs, vs = [.ref a] ∧ SqB X.K t H1 a xs ∧ R (ItT (fun H => SqB X.K t H a xs) xs.length fun i ys => ∃ x, xs[i]? = some x ∧ ys = [.int (i : Nat), x]) H1) := by
  refine ⟨fun pins s σ H R I h => ?_⟩
  refine Call_ (ld_blt I hg hm boot_enumerate (PyProof.Rows.callWith_type1 (thn (ha.run pos pins s σ H _ I h) fun us s1 ⟨vs, H1, I1, r1, q1⟩ => ?_) hs rfl))
  obtain ⟨a, t, xs, ex, hq, q⟩ := q1
  subst ex
  cases r1 with
  | cons r rr =>
    cases rr
    cases r
    obtain ⟨its, rv, hb, hz, la⟩ := SqB.at I1 hq
    refine enum_begins1 (begB (t := t) (a := a) (its := its)) hb fun h' he hit hsz hk => wpAny_pyIter_enum he ?_
    have I2 : Inv X pins σ H1 { s1 with heap := h' } := I1.kept (t' := s1.toks) hk
    refine ⟨s1.heap.objs.size + 1, [s1.heap.objs.size + 1, s1.heap.objs.size], _, _, H1, rfl, I2, turn_enumB (t := t) (a := a) (e := s1.heap.objs.size + 1) (it := s1.heap.objs.size) (vs := xs) (Nat.succ_ne_self _) (Nat.ne_of_gt (Nat.lt_succ_of_lt la)) (Nat.ne_of_lt la), ⟨⟨.none, by simpa using he⟩, obB_it hit⟩, fun b hb => ?_, q⟩
    have e' : b = s1.heap.objs.size + 1 ∨ b = s1.heap.objs.size := by simpa using hb
    have hle : s1.heap.objs.size ≤ b := by
      rcases e' with z | z
      · rw [z]; exact Nat.le_add_right _ _
      · rw [z]; exact Nat.le_refl _
    exact I1.fpOk hle (I1.hok.fresh hle)
/-- zip of two -/
theorem pi_zipB {e e2 : Expr} {ta : TA} (hg : Gl X "zip") (hm : X.mg "zip" = none) (ha : PA X [e, e2] ta)
    (hs : starEach [e, e2] X.env = (false, eval e X.env) :: starEach [e2] X.env := by rfl) (hpl : (backTo pos (starEach [e2] X.env)).any (·.1) = false := by rfl) :
    PI X (.Tuple elts kk tpos) (.Call (.Name "zip" p) [e, e2] [] pos) (fun σ H R => ta σ H fun vs H1 => ∃ a b t1 t2 xs ys, vs = [.ref a, .ref b] ∧ SqB X.K t1 H1 a xs ∧ SqB X.K t2 H1 b ys ∧
      R (ItT (fun H => SqB X.K t1 H a xs ∧ SqB X.K t2 H b ys) (min xs.length ys.length) fun i zs => ∃ x y, xs[i]? = some x ∧ ys[i]? = some y ∧ zs = [x, y]) H1) := by
  refine ⟨fun pins s σ H R I h => ?_⟩
  refine Call_ (ld_blt I hg hm PyProof.Rows.boot_zip (PyProof.Rows.callWith_type1 (thn (ha.run pos pins s σ H _ I h) fun us s1 ⟨vs, H1, I1, r1, q1⟩ => ?_) hs hpl))
  obtain ⟨a, b, t1, t2, xs, ys, ex, hq1, hq2, q⟩ := q1
  subst ex
  cases r1 with
  | cons r rr =>
    cases rr with
    | cons r' rr =>
      cases rr
      cases r
      cases r'
      obtain ⟨its, rv, hb, hz, la⟩ := SqB.at I1 hq1
      obtain ⟨its2, rv2, hb2, hz2, lb⟩ := SqB.at I1 hq2
      refine zip_begins2 (begB (t := t1) (a := a) (its := its)) (begB (t := t2) (a := b) (its := its2)) hb hb2 fun h' hz hTI hTO h1 h2 hsz hk => wpAny_pyIter_zip hz ?_
      have I2 : Inv X pins σ H1 { s1 with heap := h' } := I1.kept (t' := s1.toks) hk
      have S := zip_sep s1.heap.objs.size a b la lb
      refine ⟨s1.heap.objs.size + 4, [s1.heap.objs.size + 4, s1.heap.objs.size + 2, s1.heap.objs.size + 3, s1.heap.objs.size, s1.heap.objs.size + 1], _, _, H1, rfl, I2, turn_zipB (vs := xs) (ws := ys) S (Nat.ne_of_lt la) (Nat.ne_of_lt (Nat.lt_succ_of_lt lb)), ⟨hz, hTI, ⟨_, _, hTO⟩, obB_it h1, obB_it h2⟩, fun c hcm => ?_, q⟩
      have e' : c = s1.heap.objs.size + 4 ∨ c = s1.heap.objs.size + 2 ∨ c = s1.heap.objs.size + 3 ∨ c = s1.heap.objs.size ∨ c = s1.heap.objs.size + 1 := by simpa using hcm
      have hle : s1.heap.objs.size ≤ c := by
        rcases e' with z | z | z | z | z
        · rw [z]; exact Nat.le_add_right _ _
        · rw [z]; exact Nat.le_add_right _ _
        · rw [z]; exact Nat.le_add_right _ _
        · rw [z]; exact Nat.le_refl _
        · rw [z]; exact Nat.le_add_right _ _
      exact I1.fpOk hle (I1.hok.fresh hle)
/-! ### dicts -/
/-- the entries are these keys and values -/
def Ents (es : Array DictEntry) (ks vs : List V) : Prop := Vals ks (es.toList.map (·.key)) ∧ Vals vs (es.toList.map (·.val))
abbrev DiAt (a : Addr) (od : Obj) : Hp → Prop := fun H => H a = some (objO a od)
theorem raw_at {pins : List (Addr × Obj)} {σ : L2.St} {H : Hp} {s : Shared} (I : Inv X pins σ H s) {a : Addr} {od : Obj} {es : Array DictEntry} {ep : Nat} (h : DiAt a od H) (hx : od.ExactDict) (hd : od.data = .dict es ep) : s.heap.DictRaw a es ep := ⟨od, obj_at I h, hx, hd⟩
theorem Ents.key {es : Array DictEntry} {ks vs : List V} (E : Ents es ks vs) {i : Nat} (hi : i < es.size) : ∃ k, ks[i]? = some k ∧ RelV k es[i].key := by
  have l : ks.length = es.size := by simpa using Vals.length E.1
  have hi' : i < ks.length := by rw [l]; exact hi
  obtain ⟨u, hu, ru⟩ := Vals.get E.1 (i := i) (List.getElem?_eq_getElem hi')
  rw [List.getElem?_map, Array.getElem?_toList, Array.getElem?_eq_getElem hi] at hu
  cases hu
  exact ⟨_, List.getElem?_eq_getElem hi', ru⟩
theorem Ents.val {es : Array DictEntry} {ks vs : List V} (E : Ents es ks vs) {i : Nat} (hi : i < es.size) : ∃ k, vs[i]? = some k ∧ RelV k es[i].val := by
  have l : vs.length = es.size := by simpa using Vals.length E.2
  have hi' : i < vs.length := by rw [l]; exact hi
  obtain ⟨u, hu, ru⟩ := Vals.get E.2 (i := i) (List.getElem?_eq_getElem hi')
  rw [List.getElem?_map, Array.getElem?_toList, Array.getElem?_eq_getElem hi] at hu
  cases hu
  exact ⟨_, List.getElem?_eq_getElem hi', ru⟩
section
variable {P : Program} {w : World} {K : PySem.W.Frag} {a it : Addr} {od : Obj} {es : Array DictEntry} {ep : Nat} {ks vs : List V}
theorem turn_keysR (hne : a ≠ it) (hx : od.ExactDict) (hd : od.data = .dict es ep) (hE : Ents es ks vs) :
    Turn P w K tg (ItV (DiAt a od) es.size fun i x => ks[i]? = some x) [it] it (fun i h => h.IsKeyIter it a i es.size ep) := by
  refine turn_valsG (β := Unit) (Bh := fun _ h => h.DictRaw a es ep) (Pt := fun _ i v => ∃ hi : i < es.size, v = es[i].key) (wr := [it]) (by simp) (fun b h => h) (fun i h st b hb => ?_) (fun i h h' st k => st.at fun o e => k it (by simp) o e) (fun _ A hh => ⟨[it, a], ?_⟩) (fun X hP hw hK pins σ H s Iv hB => ?_) fun A i s Q E st h => wpAny_pyIter_keyiter st h
  · have e : b = it := by simpa using hb
    subst e
    obtain ⟨o, e, c, dd⟩ := st
    exact ⟨o, e, fun v z => by rw [dd] at z; cases z⟩
  · exact .ofWalks (Walks.rawKeys hh it a hne es ep) fun i v s Q E st q => by
      obtain ⟨o, ho, hc, hd⟩ := st.1
      exact letGo_of_cls ho hc hd (by decide) q
  · subst hP hw hK
    refine ⟨(), raw_at Iv hB hx hd, fun i v hi ⟨_, ev⟩ => ?_⟩
    obtain ⟨k, h1, h2⟩ := hE.key hi
    exact ⟨k, by rw [ev]; exact h2, h1⟩
theorem turn_valsR (hne : a ≠ it) (hx : od.ExactDict) (hd : od.data = .dict es ep) (hE : Ents es ks vs) :
    Turn P w K tg (ItV (DiAt a od) es.size fun i x => vs[i]? = some x) [it] it (fun i h => h.IsValIter it a i es.size ep) := by
  refine turn_valsG (β := Unit) (Bh := fun _ h => h.DictRaw a es ep) (Pt := fun _ i v => ∃ hi : i < es.size, v = es[i].val) (wr := [it]) (by simp) (fun b h => h) (fun i h st b hb => ?_) (fun i h h' st k => st.at fun o e => k it (by simp) o e) (fun _ A hh => ⟨[it, a], ?_⟩) (fun X hP hw hK pins σ H s Iv hB => ?_) fun A i s Q E st h => wpAny_pyIter_valiter st h
  · have e : b = it := by simpa using hb
    subst e
    obtain ⟨o, e, c, dd⟩ := st
    exact ⟨o, e, fun v z => by rw [dd] at z; cases z⟩
  · exact .ofWalks (Walks.rawValues hh it a hne es ep) fun i v s Q E st q => by
      obtain ⟨o, ho, hc, hd⟩ := st.1
      exact letGo_of_cls ho hc hd (by decide) q
  · subst hP hw hK
    refine ⟨(), raw_at Iv hB hx hd, fun i v hi ⟨_, ev⟩ => ?_⟩
    obtain ⟨k, h1, h2⟩ := hE.val hi
    exact ⟨k, by rw [ev]; exact h2, h1⟩
theorem turn_itemsR (hne : a ≠ it) (hx : od.ExactDict) (hd : od.data = .dict es ep) (hE : Ents es ks vs) :
    Turn P w K (.Tuple elts kk tpos) (ItT (DiAt a od) es.size fun i xs => ∃ k x, ks[i]? = some k ∧ vs[i]? = some x ∧ xs = [k, x]) [it] it (fun i h => ∃ ok ov, IsItemIter h it a i es.size ep ok ov) := by
  refine turn_tups (β := Unit) (Bh := fun _ h => h.DictRaw a es ep) (Pt := fun _ i vals => ∃ hi : i < es.size, vals = #[es[i].key, es[i].val]) (wr := [it]) (by simp) (fun b h => h) (fun i h st b hb => ?_) (fun i h h' st k => ?_) (fun _ A hh => ⟨[it, a], ?_⟩) (fun X hP hw hK pins σ H s Iv hB => ?_) fun A i s Q E st h => ?_
  · have e : b = it := by simpa using hb
    subst e
    obtain ⟨ok, ov, e⟩ := st
    exact ⟨_, e, fun v z => nomatch z⟩
  · obtain ⟨ok, ov, e⟩ := st
    exact ⟨ok, ov, k it (by simp) _ e⟩
  · exact (GoesN.rawItems hh it a hne es ep).mono fun i h₀ v h _ ⟨T, hi, ev, hn, hT⟩ => ⟨T, _, ev, hn, ⟨hi, rfl⟩, hT⟩
  · subst hP hw hK
    refine ⟨(), raw_at Iv hB hx hd, fun i v hi ⟨_, ev⟩ => ?_⟩
    obtain ⟨k, h1, h2⟩ := hE.key hi
    obtain ⟨x, h3, h4⟩ := hE.val hi
    exact ⟨[k, x], by rw [ev]; exact .cons h2 (.cons h4 .nil), small_two, k, x, h1, h3, rfl⟩
  · obtain ⟨ok, ov, e⟩ := st
    exact wpAny_pyIter_itemiter e h
end
abbrev DicAt (a : Addr) (od : Obj) (es : Array DictEntry) (ks vs : List V) (H : Hp) : Prop := (a == sysModules) = false ∧ H a = some (objO a od) ∧ od.ExactDict ∧ (∃ ep, od.data = .dict es ep) ∧ Ents es ks vs
/-- whatever is walked -/
abbrev rAny (X : Cx) (R : It → Hp → Prop) : V → Hp → Prop := fun x H1 => (∃ a, x = .ref a ∧ (((∃ xs, SqL X.K H1 a xs) ∧ R (Itl X.K a) H1) ∨ ((∃ xs, SqT X.K H1 a xs) ∧ R (Itt X.K a) H1))) ∨ (∃ y, x = .str y ∧ R (Its y) H1) ∨
  ∃ a od es ks vs, x = .ref a ∧ DicAt a od es ks vs H1 ∧ R (ItV (DiAt a od) es.size fun i x => ks[i]? = some x) H1
theorem pi_any {l : Expr} {tl : TE} (hl : PE X l tl) : PI X tg l (fun σ H R => tl σ H (rAny X R)) := by
  refine ⟨fun pins s σ H R I h => ?_⟩
  refine thn (hl.run pins s σ H _ I h) fun v s1 ⟨x, H1, I1, r1, q1⟩ => ?_
  rcases q1 with q1 | q1 | q1
  · obtain ⟨a, e, q1⟩ := q1
    subst e
    cases r1
    rcases q1 with ⟨⟨xs, hq⟩, q⟩ | ⟨⟨xs, hq⟩, q⟩
    · obtain ⟨its, rv, p, hz⟩ := I1.list hq
      refine wpAny_pyIter_list p.isList ?_
      refine ⟨s1.heap.objs.size, [s1.heap.objs.size], _, _, H1, rfl, I1.kept (t' := s1.toks) fun b o e => Heap.get?_push_of_some _ e, turn_list a _, ⟨_, Heap.get?_push_size _ rfl, rfl, rfl⟩, fun b hb => ?_, q⟩
      have e : b = s1.heap.objs.size := by simpa using hb
      subst e
      exact I1.fpOk (Nat.le_refl _) (I1.hok.fresh (Nat.le_refl _))
    · obtain ⟨its, rv, p, hz⟩ := I1.tuple hq
      refine wpAny_pyIter_tuple (show s1.heap.IsTuple a its.toArray from p) ?_
      refine ⟨s1.heap.objs.size, [s1.heap.objs.size], _, _, H1, rfl, I1.kept (t' := s1.toks) fun b o e => Heap.get?_push_of_some _ e, turn_tuple a _, ⟨_, Heap.get?_push_size _ rfl, rfl, rfl⟩, fun b hb => ?_, q⟩
      have e : b = s1.heap.objs.size := by simpa using hb
      subst e
      exact I1.fpOk (Nat.le_refl _) (I1.hok.fresh (Nat.le_refl _))
  · obtain ⟨x, ex, q⟩ := q1
    subst ex
    obtain ⟨t, rfl⟩ := r1
    cases ha : x.cps.all (· < 128)
    · exact wpAny_pyIter_wide ha (pi_one (tk := s1.toks) I1 _ (turn_str _ x t "str_iterator" (.inr rfl)) ⟨_, Heap.get?_push_size _ rfl, rfl, rfl⟩ q)
    · exact wpAny_pyIter_ascii ha (pi_one (tk := s1.toks) I1 _ (turn_str _ x t "str_ascii_iterator" (.inl rfl)) ⟨_, Heap.get?_push_size _ rfl, rfl, rfl⟩ q)
  · obtain ⟨a, od, es, ks, vs, ex, ⟨sm, ho, hx, ⟨ep, hd⟩, hE⟩, q⟩ := q1
    subst ex
    cases r1
    have raw := raw_at I1 ho hx hd
    obtain ⟨ob, hob, _⟩ := id raw
    exact wpAny_pyIter_dict_raw sm raw (pi_one (tk := s1.toks) I1 _ (turn_keysR (Nat.ne_of_lt (Heap.lt_size hob)) hx hd hE) ⟨_, Heap.get?_push_size _ rfl, rfl, rfl⟩ q)
theorem pi_valuesR {e : Expr} {td : TE} {apos cpos : Pos} (he : PE X e td) (hbase : attributeBase e "values" X.env (eval e X.env) = eval e X.env := by rfl) (hline : (apos.endLine == cpos.line) = true := by rfl) :
    PI X tg (.Call (.Attribute e "values" apos) [] [] cpos) (fun σ H R => td σ H fun x H1 => ∃ a od es ks vs, x = .ref a ∧ DicAt a od es ks vs H1 ∧ R (ItV (DiAt a od) es.size fun i x => vs[i]? = some x) H1) := by
  refine ⟨fun pins s σ H R I h => ?_⟩
  refine wpAny_Call_method (T := "dict") (id := "dict.values") hbase rfl hline F.plainAttrs_dict F.slot_dict_values F.type_dict_values (thn (he.run pins s σ H _ I h) fun u s1 ⟨x, H1, I1, rx, q1⟩ => ?_)
  obtain ⟨d, od, es, ks, vs, ex, ⟨sm, ho, hx, ⟨ep, hd⟩, hE⟩, q⟩ := q1
  subst ex
  cases rx
  have raw := raw_at I1 ho hx hd
  obtain ⟨ob, hob, hobx, hobd⟩ := id raw
  have lt := Heap.lt_size hob
  refine ⟨raw.typeIs, ?_, ?_⟩
  · intro b e
    cases e
    exact ⟨ob, hob, hobx.2.1⟩
  have I2 : Inv X pins σ H1 { s1 with heap := s1.heap.push { cls := .type "dict_values", data := .fields #[.ref d] } } := I1.kept (t' := s1.toks) fun b ob q => Heap.get?_push_of_some _ q
  have fin : wpAny (model X.prog X.w) X.A (pyIter (.ref s1.heap.objs.size)) (PIE X pins σ tg R) X.xe { s1 with heap := s1.heap.push { cls := .type "dict_values", data := .fields #[.ref d] } } := by
    refine wpAny_pyIter_values_raw (d := d) ⟨_, Heap.get?_push_size _ rfl, rfl, rfl⟩ (raw.at fun o e => Heap.get?_push_of_some _ e) (pi_one (tk := s1.toks) I2 _ (turn_valsR (Nat.ne_of_lt (Nat.lt_of_lt_of_le lt (by rw [Heap.size_push]; exact Nat.le_succ _))) hx hd hE) ⟨_, Heap.get?_push_size _ rfl, rfl, rfl⟩ q)
  show wpAny _ _ (callWith cpos (.builtin "dict.values") [.ref d] [] []) _ X.xe s1
  exact method_meetsIn F.slot_dict_values F.entry_dict_values rfl (PySem.evalArgs_none ⟨rfl, raw.typeIs, F.args_dict_values_1 _, _, meets_dict_values_raw d sm, ⟨es, ep, raw⟩, fin⟩)
theorem pi_itemsR {e : Expr} {td : TE} {apos cpos : Pos} (he : PE X e td) (hbase : attributeBase e "items" X.env (eval e X.env) = eval e X.env := by rfl) (hline : (apos.endLine == cpos.line) = true := by rfl) :
    PI X (.Tuple elts kk tpos) (.Call (.Attribute e "items" apos) [] [] cpos) (fun σ H R => td σ H fun x H1 => ∃ a od es ks vs, x = .ref a ∧ DicAt a od es ks vs H1 ∧ R (ItT (DiAt a od) es.size fun i xs => ∃ k x, ks[i]? = some k ∧ vs[i]? = some x ∧ xs = [k, x]) H1) := by
  refine ⟨fun pins s σ H R I h => ?_⟩
  refine wpAny_Call_method (T := "dict") (id := "dict.items") hbase rfl hline F.plainAttrs_dict F.slot_dict_items F.type_dict_items (thn (he.run pins s σ H _ I h) fun u s1 ⟨x, H1, I1, rx, q1⟩ => ?_)
  obtain ⟨d, od, es, ks, vs, ex, ⟨sm, ho, hx, ⟨ep, hd⟩, hE⟩, q⟩ := q1
  subst ex
  cases rx
  have raw := raw_at I1 ho hx hd
  obtain ⟨ob, hob, hobx, hobd⟩ := id raw
  have lt := Heap.lt_size hob
  refine ⟨raw.typeIs, ?_, ?_⟩
  · intro b e
    cases e
    exact ⟨ob, hob, hobx.2.1⟩
  have I2 : Inv X pins σ H1 { s1 with heap := s1.heap.push { cls := .type "dict_items", data := .fields #[.ref d] } } := I1.kept (t' := s1.toks) fun b ob q => Heap.get?_push_of_some _ q
  have fin : wpAny (model X.prog X.w) X.A (pyIter (.ref s1.heap.objs.size)) (PIE X pins σ (.Tuple elts kk tpos) R) X.xe { s1 with heap := s1.heap.push { cls := .type "dict_items", data := .fields #[.ref d] } } := by
    refine wpAny_pyIter_items_raw (d := d) ⟨_, Heap.get?_push_size _ rfl, rfl, rfl⟩ (raw.at fun o e => Heap.get?_push_of_some _ e) (pi_one (tk := s1.toks) I2 _ (turn_itemsR (Nat.ne_of_lt (Nat.lt_of_lt_of_le lt (by rw [Heap.size_push]; exact Nat.le_succ _))) hx hd hE) ⟨.none, .none, Heap.get?_push_size _ rfl⟩ q)
  show wpAny _ _ (callWith cpos (.builtin "dict.items") [.ref d] [] []) _ X.xe s1
  exact method_meetsIn F.slot_dict_items F.entry_dict_items rfl (PySem.evalArgs_none ⟨rfl, raw.typeIs, F.args_dict_items_1 _, _, meets_dict_items_raw d sm, ⟨es, ep, raw⟩, fin⟩)
end
end DL

namespace DL
open PySem PySem.Spec PyProof.Rows L2
section
variable {C : Ctx} {m : Bool} {F F1 F' : FS} {H H1 H' : Hp} {p p1 p' q r : List Addr} {σ : St} {env : Env} {En : Ends} {pos : Pos}
theorem reps_nil_sub {ds : List D} {vs : List V} {i : Nat} {d : D} (r : C.reps F H ds vs []) (e : ds[i]? = some d) : ∃ v, vs[i]? = some v ∧ C.rep F H d v [] := by
  obtain ⟨v, q', h1, h2, h3⟩ := reps_at r e
  cases q' with
  | nil => exact ⟨v, h1, h2⟩
  | cons b _ => exact absurd (h3 b List.mem_cons_self) (by simp)
/-- values of a frozen source -/
theorem iterV {B : Hp → Prop} {n : Nat} {ds : List D} {vs : List V} (hB : ∀ F2 H2 p2, Ext true F H p F2 H2 p2 → B H2) (r : C.reps F H ds vs []) (hn : n = ds.length) (dis : ∀ a ∈ p, ¬ F a) (ow : ∀ a ∈ p, ∃ o, H a = some o ∧ Ow o) : IterOK C (ItV B n fun i x => vs[i]? = some x) ds F H p := by
  subst hn
  intro F2 H2 p2 x2 trk2
  have r2 : C.reps F2 H2 ds vs [] := reps_mono r (x2.stab dis ow fun _ _ h => by cases h)
  have b2 := hB F2 H2 p2 x2
  refine ⟨fun i d e => ?_, b2, rfl⟩
  obtain ⟨v, e1, rp⟩ := reps_nil_sub r2 e
  refine ⟨⟨b2, lt_of_some e⟩, fun x H3 y => ?_⟩
  obtain ⟨rfl, y⟩ := y
  rw [e1] at y
  cases y
  exact ⟨fun _ _ e => e, rp⟩
/-- tuples made anew from a frozen source -/
theorem iterTup {B : Hp → Prop} {n : Nat} {Pv : Nat → List V → Prop} {dss : List (List D)} (hB : ∀ F2 H2 p2, Ext true F H p F2 H2 p2 → B H2) (r : ∀ i ys xs, dss[i]? = some ys → Pv i xs → C.reps F H ys xs []) (hn : n = dss.length) (dis : ∀ a ∈ p, ¬ F a) (ow : ∀ a ∈ p, ∃ o, H a = some o ∧ Ow o) : IterOK C (ItT B n Pv) (dss.map .tup) F H p := by
  subst hn
  intro F2 H2 p2 x2 trk2
  have b2 := hB F2 H2 p2 x2
  refine ⟨fun i d e => ?_, b2, by rw [List.length_map]⟩
  rw [List.getElem?_map] at e
  obtain ⟨ys, e1, rfl⟩ := Option.map_eq_some_iff.mp e
  refine ⟨⟨b2, lt_of_some e1⟩, fun x H3 y => ?_⟩
  obtain ⟨T, xs, rfl, hT, rfl, pv⟩ := y
  exact ⟨grow_upd hT, new_tup (reps_mono (r i ys xs e1 pv) (x2.stab dis ow fun _ _ h => by cases h)) hT⟩
theorem reps_ints : ∀ {ns : List Int}, C.reps F H (ns.map .int) (ns.map V.int) []
  | [] => ⟨rfl, rfl⟩
  | n :: ns => ⟨_, _, [], [], rfl, ⟨rfl, rfl⟩, reps_ints, rfl⟩
theorem iterR {lo : Int} {n : Nat} : IterOK C (Itr lo n) ((List.range n).map fun i => .int (lo + (i : Nat))) F H p := by
  intro F2 H2 p2 x2 trk2
  refine ⟨fun i d e => ?_, show n ≤ _ by simp⟩
  rw [List.getElem?_map] at e
  obtain ⟨j, e1, rfl⟩ := Option.map_eq_some_iff.mp e
  have hl : i < n := by simpa using lt_of_some e1
  rw [List.getElem?_range hl] at e1
  cases e1
  refine ⟨hl, fun x H3 y => ?_⟩
  obtain ⟨rfl, rfl⟩ := y
  exact ⟨fun _ _ e => e, rfl, rfl⟩
theorem iterC {lo c : Int} {n : Nat} : IterOK C (Itc lo c n) ((List.range n).map fun i => .int (lo + (i : Nat) * c)) F H p := by
  intro F2 H2 p2 x2 trk2
  refine ⟨fun i d e => ?_, show n ≤ _ by simp⟩
  rw [List.getElem?_map] at e
  obtain ⟨j, e1, rfl⟩ := Option.map_eq_some_iff.mp e
  have hl : i < n := by simpa using lt_of_some e1
  rw [List.getElem?_range hl] at e1
  cases e1
  refine ⟨hl, fun x H3 y => ?_⟩
  obtain ⟨rfl, rfl⟩ := y
  exact ⟨fun _ _ e => e, rfl, rfl⟩
def strItems (x : Str) : List D := x.cps.toList.map fun c => .str ⟨#[c]⟩
theorem iterS {x : Str} : IterOK C (Its x) (strItems x) F H p := by
  intro F2 H2 p2 x2 trk2
  refine ⟨fun i d e => ?_, show x.cps.size ≤ _ by simp [strItems]⟩
  unfold strItems at e
  rw [List.getElem?_map] at e
  obtain ⟨c, e1, rfl⟩ := Option.map_eq_some_iff.mp e
  rw [Array.getElem?_toList] at e1
  have hl : i < x.cps.size := (Array.getElem?_eq_some_iff.mp e1).1
  refine ⟨hl, fun v H3 y => ?_⟩
  obtain ⟨rfl, c', e2, rfl⟩ := y
  rw [e1] at e2
  cases e2
  exact ⟨fun _ _ e => e, rfl, rfl⟩
/-! ### range -/
def kR1 : List D → Option (List D)
  | [.int j] => if -(2 ^ 62) ≤ j ∧ j < 2 ^ 62 then some ((List.range j.toNat).map fun i => .int (i : Nat)) else none
  | _ => none
def kR2 : List D → Option (List D)
  | [.int i, .int j] => if -(2 ^ 62) ≤ i ∧ i < 2 ^ 62 ∧ -(2 ^ 62) ≤ j ∧ j < 2 ^ 62 then some ((List.range (j - i).toNat).map fun k => .int (i + (k : Nat))) else none
  | _ => none
def kR3 : List D → Option (List D)
  | [.int i, .int j, .int c] => if c ≠ 0 ∧ c.natAbs < 1073741824 ∧ Builtin.Range.small i j c = true ∧ 0 ≤ Builtin.Range.rangeSize i j c then some ((List.range (Builtin.Range.rangeSize i j c).toNat).map fun k => .int (i + (k : Nat) * c)) else none
  | _ => none
theorem reps_int1 {i : Int} {vs : List V} {q : List Addr} (h : C.reps F H [.int i] vs q) : vs = [.int i] := by
  obtain ⟨v, e, h⟩ := reps_one h
  rw [e, h.1]
theorem reps_int2 {i j : Int} {vs : List V} {q : List Addr} (h : C.reps F H [.int i, .int j] vs q) : vs = [.int i, .int j] := by
  obtain ⟨v, ws, q1, r, e, x1, x2, hq⟩ := h
  rw [e, x1.1, reps_int1 x2]
theorem reps_int3 {i j k : Int} {vs : List V} {q : List Addr} (h : C.reps F H [.int i, .int j, .int k] vs q) : vs = [.int i, .int j, .int k] := by
  obtain ⟨v, ws, q1, r, e, x1, x2, hq⟩ := h
  rw [e, x1.1, reps_int2 x2]
theorem i_range1 {tg a : Expr} {g : AF} {px : Pos} (hg : Gl C.X "range") (hm : C.X.mg "range" = none) (ha : PA C.X [a] (TAX C true g)) (hs : starEach [a] C.X.env = [(false, eval a C.X.env)] := by rfl) :
    PI C.X tg (.Call (.Name "range" px) [a] [] pos) (TIx C (ix g kR1)) := piImp (pi_range1 hg hm ha hs) fun σ H R h => tax_imp (tix h) fun vs H1 ⟨F1, p1, q1, ds, es, rp, ek, trk, dis, ow, go⟩ => by
  unfold kR1 at ek
  split at ek
  · rename_i j
    split at ek
    · rename_i hb
      cases ek
      exact ⟨j, reps_int1 rp, hb.1, hb.2, go _ _ (fun _ _ e => e) (by simpa using iterR (C := C) (lo := 0) (n := j.toNat))⟩
    · cases ek
  · cases ek
theorem i_range2 {tg a b : Expr} {g : AF} {px : Pos} (hg : Gl C.X "range") (hm : C.X.mg "range" = none) (ha : PA C.X [a, b] (TAX C true g)) (hs : starEach [a, b] C.X.env = [(false, eval a C.X.env), (false, eval b C.X.env)] := by rfl) (hs2 : starEach [b] C.X.env = [(false, eval b C.X.env)] := by rfl) :
    PI C.X tg (.Call (.Name "range" px) [a, b] [] pos) (TIx C (ix g kR2)) := piImp (pi_range2 hg hm ha hs hs2) fun σ H R h => tax_imp (tix h) fun vs H1 ⟨F1, p1, q1, ds, es, rp, ek, trk, dis, ow, go⟩ => by
  unfold kR2 at ek
  split at ek
  · rename_i i j
    split at ek
    · rename_i hb
      cases ek
      exact ⟨i, j, reps_int2 rp, hb, go _ _ (fun _ _ e => e) iterR⟩
    · cases ek
  · cases ek
theorem i_range3 {tg a b c : Expr} {g : AF} {px : Pos} (hg : Gl C.X "range") (hm : C.X.mg "range" = none) (ha : PA C.X [a, b, c] (TAX C true g)) (hs : starEach [a, b, c] C.X.env = (false, eval a C.X.env) :: starEach [b, c] C.X.env := by rfl) (hpl : (backTo pos (starEach [b, c] C.X.env)).any (·.1) = false := by rfl) :
    PI C.X tg (.Call (.Name "range" px) [a, b, c] [] pos) (TIx C (ix g kR3)) := piImp (pi_range3 hg hm ha hs hpl) fun σ H R h => tax_imp (tix h) fun vs H1 ⟨F1, p1, q1, ds, es, rp, ek, trk, dis, ow, go⟩ => by
  unfold kR3 at ek
  split at ek
  · rename_i i j k
    split at ek
    · rename_i hb
      cases ek
      exact ⟨i, j, k, _, reps_int3 rp, ⟨hb.1, hb.2.1, hb.2.2.1, (Int.toNat_of_nonneg hb.2.2.2).symm⟩, go _ _ (fun _ _ e => e) iterC⟩
    · cases ek
  · cases ek
/-! ### lists, tuples -/
/-- the items of a sequence walked -/
def seqD : D → Option (List D)
  | .tup xs => some xs
  | .lst _ xs => if xs.all fro = true then some xs else none
  | .scr ns => some (ns.map .int)
  | _ => none
theorem seq_at {d : D} {xs : List D} {v : V} (e : seqD d = some xs) (rp : C.rep F H d v q) (g : ∀ a o, H a = some o → H' a = some o) (dis : ∀ a ∈ p, ¬ (F a ∨ a ∈ r)) (hq : ∀ a ∈ q, a ∈ r) (ow : ∀ a ∈ p, ∃ o, H a = some o ∧ Ow o) :
    ∃ a t vs, v = .ref a ∧ SqB C.X.K t H a vs ∧ C.reps (fun a => F a ∨ a ∈ r) H' xs vs [] ∧ ∀ F2 H2 p2, Ext true (fun a => F a ∨ a ∈ r) H' p F2 H2 p2 → SqB C.X.K t H2 a vs := by
  have st : Stab F (fun a => F a ∨ a ∈ r) H H' [] := ⟨fun _ h => .inl h, fun a o e _ _ => g a o e⟩
  unfold seqD at e
  split at e
  · cases e
    obtain ⟨a, vs, rfl, ha, ra, q0⟩ := rp
    subst q0
    refine ⟨a, true, vs, rfl, SqT.of ha, reps_mono ra st, fun F2 H2 p2 x => SqT.of (x.keep a _ (g _ _ ha) (fun _ z => nomatch z) fun _ h => ?_)⟩
    obtain ⟨o, e, w⟩ := ow a h
    rw [ha] at e
    cases e
    exact w
  · split at e
    · rename_i o xs hf
      cases e
      obtain ⟨a, vs, q2, rfl, ra, how⟩ := rp
      have z := reps_fro hf ra
      subst z
      have fa : F a ∨ a ∈ r := by
        cases o with
        | true => exact .inr (hq a (by rw [how.2]; exact List.mem_cons_self))
        | false => exact .inl how.1
      have ha : H a = some (.lst vs) := by
        cases o with
        | true => exact how.1
        | false => exact how.2.1
      exact ⟨a, false, vs, rfl, SqL.of ha, reps_mono ra st, fun F2 H2 p2 x => SqL.of (x.keep a _ (g _ _ ha) (fun _ z => nomatch z) fun _ h => dis a h fa)⟩
    · cases e
  · rename_i ns
    cases e
    obtain ⟨a, rfl, fa, ha, q0⟩ := rp
    exact ⟨a, false, _, rfl, ha, reps_ints, fun F2 H2 p2 x => fa.elim (fun fa => sql_keep ha fun o e nt => x.keep a o (g _ _ e) nt fun _ h => dis a h (.inl fa)) fun fa => fa _⟩
  · cases e
def kEnum : List D → Option (List D)
  | [d] => (seqD d).map fun xs => ((List.range xs.length).zipWith (fun (i : Nat) x => [.int (i : Nat), x]) xs).map .tup
  | _ => none
def kZip : List D → Option (List D)
  | [d, e] => match seqD d, seqD e with
    | some xs, some ys => some ((xs.zipWith (fun x y => [x, y]) ys).map .tup)
    | _, _ => none
  | _ => none
theorem getElem?_zw {α β γ : Type} {f : α → β → γ} {xs : List α} {ys : List β} {i : Nat} {z : γ} (h : (xs.zipWith f ys)[i]? = some z) : ∃ x y, xs[i]? = some x ∧ ys[i]? = some y ∧ z = f x y := by
  rw [List.getElem?_zipWith] at h
  cases e1 : xs[i]? with
  | none => rw [e1] at h; cases h
  | some x =>
    cases e2 : ys[i]? with
    | none => rw [e1, e2] at h; cases h
    | some y =>
      rw [e1, e2] at h
      cases h
      exact ⟨x, y, rfl, rfl, rfl⟩
theorem reps_two {x y : D} {v w : V} (h1 : C.rep F H x v []) (h2 : C.rep F H y w []) : C.reps F H [x, y] [v, w] [] := ⟨v, [w], [], [], rfl, h1, ⟨w, [], [], [], rfl, h2, ⟨rfl, rfl⟩, rfl⟩, rfl⟩
theorem i_enum {e : Expr} {elts : List Expr} {kk : Nat} {g : AF} {px tpos : Pos} (hg : Gl C.X "enumerate") (hm : C.X.mg "enumerate" = none) (ha : PA C.X [e] (TAX C true g)) (hs : starEach [e] C.X.env = [(false, eval e C.X.env)] := by rfl) :
    PI C.X (.Tuple elts kk tpos) (.Call (.Name "enumerate" px) [e] [] pos) (TIx C (ix g kEnum)) := piImp (pi_enumB hg hm ha hs) fun σ H R h => tax_imp (tix h) fun vs H1 ⟨F1, p1, q1, ds, es, rp, ek, trk, dis, ow, go⟩ => by
  unfold kEnum at ek
  split at ek
  · rename_i d
    obtain ⟨xs, e1, rfl⟩ := Option.map_eq_some_iff.mp ek
    obtain ⟨v, ev, rp⟩ := reps_one rp
    obtain ⟨a, t, ws, rfl, hq, rr, stay⟩ := seq_at e1 rp (fun _ _ e => e) dis (fun _ h => h) ow
    refine ⟨a, t, ws, ev, hq, go _ _ (fun _ _ e => e) (iterTup stay (fun i ys zs e3 ⟨x, hx, ez⟩ => ?_) (by simp [reps_len rr]) dis ow)⟩
    subst ez
    obtain ⟨j, y, h1, h2, rfl⟩ := getElem?_zw e3
    have hj : i < xs.length := lt_of_some h2
    rw [List.getElem?_range hj] at h1
    cases h1
    obtain ⟨u, hu, ru⟩ := reps_nil_sub rr h2
    rw [hx] at hu
    cases hu
    exact reps_two ⟨rfl, rfl⟩ ru
  · cases ek
theorem i_zip {e e2 : Expr} {elts : List Expr} {kk : Nat} {g : AF} {px tpos : Pos} (hg : Gl C.X "zip") (hm : C.X.mg "zip" = none) (ha : PA C.X [e, e2] (TAX C true g)) (hs : starEach [e, e2] C.X.env = (false, eval e C.X.env) :: starEach [e2] C.X.env := by rfl) (hpl : (backTo pos (starEach [e2] C.X.env)).any (·.1) = false := by rfl) :
    PI C.X (.Tuple elts kk tpos) (.Call (.Name "zip" px) [e, e2] [] pos) (TIx C (ix g kZip)) := piImp (pi_zipB hg hm ha hs hpl) fun σ H R h => tax_imp (tix h) fun vs H1 ⟨F1, p1, q1, ds, es, rp, ek, trk, dis, ow, go⟩ => by
  unfold kZip at ek
  split at ek
  · rename_i d d2
    split at ek
    · rename_i xs ys e1 e2
      cases ek
      obtain ⟨v, ws, q2, q3, ev, rp1, rp2, hq⟩ := rp
      obtain ⟨v2, ev2, rp3⟩ := reps_one rp2
      subst ev2
      obtain ⟨a, t, us, rfl, hq1, rr, stay⟩ := seq_at e1 rp1 (H' := H1) (fun _ _ e => e) dis (fun _ h => by rw [hq]; exact List.mem_append_left _ h) ow
      obtain ⟨b, t2, us2, rfl, hq2, rr2, stay2⟩ := seq_at e2 rp3 (H' := H1) (fun _ _ e => e) dis (fun _ h => by rw [hq]; exact List.mem_append_right _ h) ow
      refine ⟨a, b, t, t2, us, us2, ev, hq1, hq2, go _ _ (fun _ _ e => e) (iterTup (fun F2 H2 p2 x => ⟨stay F2 H2 p2 x, stay2 F2 H2 p2 x⟩) (fun i ys zs e3 ⟨x, y, hx, hy, ez⟩ => ?_) (by simp [reps_len rr, reps_len rr2]) dis ow)⟩
      subst ez
      obtain ⟨x', y', h1, h2, rfl⟩ := getElem?_zw e3
      obtain ⟨u, hu, ru⟩ := reps_nil_sub rr h1
      obtain ⟨u2, hu2, ru2⟩ := reps_nil_sub rr2 h2
      rw [hx] at hu
      rw [hy] at hu2
      cases hu
      cases hu2
      exact reps_two ru ru2
    · cases ek
  · cases ek
/-! ### dicts -/
def keyOk (x : D × D) : Bool := (fkey x.1).isSome || ((nkey x.1).isSome && isTup x.1)
theorem pairs_keys {P : Program} {w : World} : ∀ {l : List DictEntry} {kv : List (Key × V)} {vs : List (Key × Value)}, KV kv vs → Pairs (mixKind P w) l vs → Vals (kv.map fun x => kV x.1) (l.map (·.key)) ∧ Vals (kv.map (·.2)) (l.map (·.val)) := by
  intro l kv vs h1
  induction h1 generalizing l with
  | nil =>
    intro h2
    cases h2
    exact ⟨.nil, .nil⟩
  | @cons a b l1 l2 r t ih =>
    intro h2
    cases h2 with
    | cons z1 z2 =>
      rename_i zr
      obtain ⟨i1, i2⟩ := ih zr
      exact ⟨.cons (by show RelV (kV a.1) _; rw [r.1]; exact relV_key z1) i1, .cons (by have z3 := r.2; rw [← z2] at z3; exact z3) i2⟩
theorem tup_keys {P : Program} {w : World} {K : PySem.W.Frag} : ∀ {kvs : List (D × D)} {es : List (NestedKey × Addr × Value)} {q : List Addr}, repT P w K F H kvs es q →
    ∃ ks vs, Vals ks ((es.map (entryOfKey (nestedKind P w))).map (·.key)) ∧ Vals vs ((es.map (entryOfKey (nestedKind P w))).map (·.val)) ∧ DL.reps P w K F H (kvs.map (·.1)) ks [] ∧ DL.reps P w K F H (kvs.map (·.2)) vs q := by
  intro kvs
  induction kvs with
  | nil =>
    intro es q h
    obtain ⟨rfl, rfl⟩ := h
    exact ⟨[], [], .nil, .nil, ⟨rfl, rfl⟩, ⟨rfl, rfl⟩⟩
  | cons y r ih =>
    obtain ⟨y, d⟩ := y
    intro es q h
    obtain ⟨k, b, u, v, ws, q1, r1, ek, dp, e, x0, ru, x1, x2, hq⟩ := h
    subst e hq
    obtain ⟨ks, vs, h1, h2, h3, h4⟩ := ih x2
    exact ⟨.ref b :: ks, v :: vs, .cons rfl h1, .cons ru h2, ⟨_, _, [], [], rfl, x0, h3, rfl⟩, ⟨_, _, q1, r1, rfl, x1, h4, rfl⟩⟩
theorem flat_keys {P : Program} {w : World} {K : PySem.W.Frag} : ∀ {kvs : List (D × D)} {kv : List (Key × V)} {q : List Addr}, repK P w K F H kvs kv q → DL.reps P w K F H (kvs.map (·.1)) (kv.map fun x => kV x.1) [] ∧ DL.reps P w K F H (kvs.map (·.2)) (kv.map (·.2)) q := by
  intro kvs
  induction kvs with
  | nil =>
    intro es q h
    obtain ⟨rfl, rfl⟩ := h
    exact ⟨⟨rfl, rfl⟩, ⟨rfl, rfl⟩⟩
  | cons y r ih =>
    obtain ⟨y, d⟩ := y
    intro es q h
    obtain ⟨k, v, ws, q1, r1, ek, e, x1, x2, hq⟩ := h
    subst e hq
    obtain ⟨h3, h4⟩ := ih x2
    refine ⟨⟨_, _, [], [], rfl, ?_, h3, rfl⟩, ⟨_, _, q1, r1, rfl, x1, h4, rfl⟩⟩
    cases y with
    | int i => cases ek; exact ⟨rfl, rfl⟩
    | str i => cases ek; exact ⟨rfl, rfl⟩
    | _ => cases ek
/-- a dict's object, its keys and values -/
theorem dic_ents {o : Bool} {kvs : List (D × D)} {v : V} (x : C.rep F H (.dic o kvs) v p) :
    ∃ a od es ks vs q, v = .ref a ∧ own o F H a (objO a od) q p ∧ DicAt a od es ks vs H ∧ C.reps F H (kvs.map (·.1)) ks [] ∧ C.reps F H (kvs.map (·.2)) vs q ∧ es.size = kvs.length := by
  obtain ⟨a, od, q, e, sm, ow, x⟩ := x
  have ha : H a = some (objO a od) := own_at ow
  rcases x with ⟨kv, vs, r, kvr, fd⟩ | ⟨es, r, td⟩
  · obtain ⟨ea, ep, h1, _, h2⟩ := fd.dat
    obtain ⟨z1, z2⟩ := pairs_keys kvr h2
    obtain ⟨z3, z4⟩ := flat_keys r
    refine ⟨a, od, ea, _, _, q, e, ow, ⟨sm, ha, fd.ex, ⟨ep, h1⟩, z1, z2⟩, z3, z4, ?_⟩
    have l1 := reps_len (C := C) z3
    have l2 := Vals.length z1
    simp only [List.length_map, Array.length_toList] at l1 l2
    rw [l1, l2]
  · obtain ⟨ea, ep, h1, h2⟩ := td.dat
    obtain ⟨ks, vs, z1, z2, z3, z4⟩ := tup_keys r
    rw [← h2] at z1 z2
    refine ⟨a, od, ea, ks, vs, q, e, ow, ⟨sm, ha, td.ex, ⟨ep, h1⟩, z1, z2⟩, z3, z4, ?_⟩
    have l1 := reps_len (C := C) z3
    have l2 := Vals.length z1
    simp only [List.length_map, Array.length_toList] at l1 l2
    rw [l1, l2]
theorem di_stay {a : Addr} {od : Obj} {o : Bool} {u q : List Addr} (ow : own o F H a (objO a od) u q) (ha : H a = some (objO a od)) (hq : ∀ a ∈ q, a ∈ r) (dis : ∀ a ∈ p, ¬ (F a ∨ a ∈ r)) : ∀ F2 H2 p2, Ext true (fun a => F a ∨ a ∈ r) H p F2 H2 p2 → DiAt a od H2 := fun F2 H2 p2 x => by
  have fa : F a ∨ a ∈ r := by
    cases o with
    | true => exact .inr (hq a (by rw [ow.2]; exact List.mem_cons_self))
    | false => exact .inl ow.1
  exact x.keep a _ ha (fun _ z => nomatch z) fun _ h => dis a h fa
/-- all that is walked one by one: the items of a sequence, a text's signs, a dict's keys -/
def kAny : List D → Option (List D)
  | [.str x] => some (strItems x)
  | [.dic _ kvs] => some (kvs.map (·.1))
  | [d] => seqD d
  | _ => none
theorem i_any {tg l : Expr} {f : XF} (hl : PE C.X l (TX C true f)) : PI C.X tg l (TIx C (ix (consA f nilA) kAny)) := by
  refine piImp (pi_any hl) fun σ H R h => tx_imp (tax_cons (tix h)) fun x H1 z => ?_
  obtain ⟨F1, p1, q1, ds, es, rp, ek, trk, dis, ow, go⟩ := tax_nil z
  unfold kAny at ek
  split at ek
  · cases ek
    obtain ⟨v, e, rp⟩ := reps_one rp
    cases e
    exact .inr (.inl ⟨_, rp.1, go _ _ (fun _ _ e => e) iterS⟩)
  · rename_i o kvs
    cases ek
    obtain ⟨v, e, rp⟩ := reps_one rp
    cases e
    obtain ⟨a, od, es, ks, vs, q2, rfl, how, hD, rk, rv, hz⟩ := dic_ents rp
    exact .inr (.inr ⟨a, od, es, ks, vs, rfl, hD, go _ _ (fun _ _ e => e) (iterV (di_stay how hD.2.1 (fun _ h => h) dis) (reps_mono rk (Stab.same fun _ h => .inl h)) (by rw [hz, List.length_map]) dis ow)⟩)
  · rename_i d n1 n2
    obtain ⟨v, e, rp⟩ := reps_one rp
    cases e
    refine .inl ?_
    unfold seqD at ek
    split at ek
    · rename_i xs
      cases ek
      obtain ⟨a, vs, rfl, ha, ra, q0⟩ := rp
      exact ⟨a, rfl, .inr ⟨⟨vs, SqT.of ha⟩, go _ _ (fun _ _ e => e) (iterT ha (reps_mono ra (Stab.same fun _ h => .inl h)) dis ow)⟩⟩
    · rename_i o xs _
      split at ek
      · rename_i hf
        cases ek
        obtain ⟨a, vs, q2, rfl, ra, how⟩ := rp
        have how : own o F1 H1 a (.lst vs) q2 q1 := how
        have z := reps_fro hf ra
        subst z
        have fa : F1 a ∨ a ∈ q1 := by
          cases o with
          | true => exact .inr (by rw [how.2]; exact List.mem_cons_self)
          | false => exact .inl how.1
        have ha : H1 a = some (.lst vs) := by
          cases o with
          | true => exact how.1
          | false => exact how.2.1
        exact ⟨a, rfl, .inl ⟨⟨vs, SqL.of ha⟩, go _ _ (fun _ _ e => e) (iterL ha fa (reps_mono ra (Stab.same fun _ h => .inl h)) dis ow)⟩⟩
      · cases ek
    · rename_i ns
      cases ek
      obtain ⟨a, rfl, fa, ha, q0⟩ := rp
      exact ⟨a, rfl, .inl ⟨⟨_, ha⟩, go _ _ (fun _ _ e => e) (iterScr ha (fa.imp .inl id) dis)⟩⟩
    · cases ek
  · cases ek
def kVals : List D → Option (List D)
  | [.dic _ kvs] => if (kvs.map (·.2)).all fro = true then some (kvs.map (·.2)) else none
  | _ => none
def kItems : List D → Option (List D)
  | [.dic _ kvs] => if (kvs.map (·.2)).all fro = true then some ((kvs.map fun x => [x.1, x.2]).map .tup) else none
  | _ => none
theorem i_values {tg e : Expr} {f : XF} {apos cpos : Pos} (he : PE C.X e (TX C true f)) (hbase : attributeBase e "values" C.X.env (eval e C.X.env) = eval e C.X.env := by rfl) (hline : (apos.endLine == cpos.line) = true := by rfl) :
    PI C.X tg (.Call (.Attribute e "values" apos) [] [] cpos) (TIx C (ix (consA f nilA) kVals)) := piImp (pi_valuesR he hbase hline) fun σ H R h => tx_imp (tax_cons (tix h)) fun x H1 z => by
  obtain ⟨F1, p1, q1, ds, es, rp, ek, trk, dis, ow, go⟩ := tax_nil z
  unfold kVals at ek
  split at ek
  · rename_i o kvs
    split at ek
    · rename_i hf
      cases ek
      obtain ⟨v, e, rp⟩ := reps_one rp
      cases e
      obtain ⟨a, od, es, ks, vs, q2, rfl, how, hD, rk, rv, hz⟩ := dic_ents rp
      have z := reps_fro hf rv
      subst z
      exact ⟨a, od, es, ks, vs, rfl, hD, go _ _ (fun _ _ e => e) (iterV (di_stay how hD.2.1 (fun _ h => h) dis) (reps_mono rv (Stab.same fun _ h => .inl h)) (by rw [hz, List.length_map]) dis ow)⟩
    · cases ek
  · cases ek
theorem i_items {e : Expr} {f : XF} {elts : List Expr} {kk : Nat} {tpos : Pos} {apos cpos : Pos} (he : PE C.X e (TX C true f)) (hbase : attributeBase e "items" C.X.env (eval e C.X.env) = eval e C.X.env := by rfl) (hline : (apos.endLine == cpos.line) = true := by rfl) :
    PI C.X (.Tuple elts kk tpos) (.Call (.Attribute e "items" apos) [] [] cpos) (TIx C (ix (consA f nilA) kItems)) := piImp (pi_itemsR he hbase hline) fun σ H R h => tx_imp (tax_cons (tix h)) fun x H1 z => by
  obtain ⟨F1, p1, q1, ds, es, rp, ek, trk, dis, ow, go⟩ := tax_nil z
  unfold kItems at ek
  split at ek
  · rename_i o kvs
    split at ek
    · rename_i hf
      cases ek
      obtain ⟨v, e, rp⟩ := reps_one rp
      cases e
      obtain ⟨a, od, es, ks, vs, q2, rfl, how, hD, rk, rv, hz⟩ := dic_ents rp
      have z := reps_fro hf rv
      subst z
      refine ⟨a, od, es, ks, vs, rfl, hD, go _ _ (fun _ _ e => e) (iterTup (di_stay how hD.2.1 (fun _ h => h) dis) (fun i ys zs e3 ⟨k, x, hk, hx, ez⟩ => ?_) (by rw [hz, List.length_map]) dis ow)⟩
      subst ez
      rw [List.getElem?_map] at e3
      obtain ⟨⟨y1, y2⟩, h1, rfl⟩ := Option.map_eq_some_iff.mp e3
      obtain ⟨u, hu, ru⟩ := reps_nil_sub rk (i := i) (d := y1) (by rw [List.getElem?_map, h1]; rfl)
      obtain ⟨u2, hu2, ru2⟩ := reps_nil_sub rv (i := i) (d := y2) (by rw [List.getElem?_map, h1]; rfl)
      rw [hk] at hu
      rw [hx] at hu2
      cases hu
      cases hu2
      exact reps_mono (reps_two ru ru2) (Stab.same fun _ h => .inl h)
    · cases ek
  · cases ek
end
end DL

namespace DL
open PySem PySem.Spec PyProof.Rows L2
/-! ### a part of data, by its way -/
inductive Stp where
  | ix (n : Nat) | fld (x : Str) | k (x : Key) | t (x : NestedKey)
def getP : D → List Stp → Option D
  | d, [] => some d
  | .lst _ xs, .ix n :: π => match xs[n]? with
    | some d => getP d π
    | none => none
  | .ins _ _ fs, .fld x :: π => match fs.lookup x with
    | some d => getP d π
    | none => none
  | .dic _ kvs, .k k :: π => if flatB kvs = true then (match lookK kvs k with
    | some d => getP d π
    | none => none) else none
  | .dic _ kvs, .t k :: π => if tupB kvs = true then (match lookT kvs k with
    | some d => getP d π
    | none => none) else none
  | _, _ => none
def setK : List (D × D) → Key → D → List (D × D)
  | [], _, _ => []
  | (y, e) :: r, k, d => if fkey y = some k then (y, d) :: r else (y, e) :: setK r k d
def setT : List (D × D) → NestedKey → D → List (D × D)
  | [], _, _ => []
  | (y, e) :: r, k, d => if nkey y = some k then (y, d) :: r else (y, e) :: setT r k d
def setF : List (Str × D) → Str → D → List (Str × D)
  | [], _, _ => []
  | (y, e) :: r, x, d => if x == y then (y, d) :: r else (y, e) :: setF r x d
/-- the part changed, where all above it is owned -/
def modP : D → List Stp → (D → Option (D × D)) → Option (D × D)
  | d, [], f => f d
  | .lst true xs, .ix n :: π, f => match xs[n]? with
    | some d => (modP d π f).map fun z => (.lst true (xs.set n z.1), z.2)
    | none => none
  | .ins true C fs, .fld x :: π, f => match fs.lookup x with
    | some d => (modP d π f).map fun z => (.ins true C (setF fs x z.1), z.2)
    | none => none
  | .dic true kvs, .k k :: π, f => if flatB kvs = true then (match lookK kvs k with
    | some d => (modP d π f).map fun z => (.dic true (setK kvs k z.1), z.2)
    | none => none) else none
  | .dic true kvs, .t k :: π, f => if tupB kvs = true then (match lookT kvs k with
    | some d => (modP d π f).map fun z => (.dic true (setT kvs k z.1), z.2)
    | none => none) else none
  | _, _, _ => none
section
variable {P : Program} {w : World} {K : PySem.W.Frag}
/-- where a way leads in the heap -/
inductive PathAt (P : Program) (w : World) (K : PySem.W.Frag) (H : Hp) : V → List Stp → V → Prop
  | nil {v : V} : PathAt P w K H v [] v
  | ix {a : Addr} {vs : List V} {n : Nat} {v1 v0 : V} {π : List Stp} : H a = some (.lst vs) → vs[n]? = some v1 → PathAt P w K H v1 π v0 → PathAt P w K H (.ref a) (.ix n :: π) v0
  | fld {a C dx : Addr} {fs : List (Str × V)} {x : Str} {v1 v0 : V} {π : List Stp} : H a = some (.ins C dx fs) → fs.lookup x = some v1 → PathAt P w K H v1 π v0 → PathAt P w K H (.ref a) (.fld x :: π) v0
  | k {a : Addr} {od : Obj} {kv : List (Key × V)} {vs : List (Key × Value)} {k : Key} {v1 v0 : V} {π : List Stp} : H a = some (objO a od) → KV kv vs → FlatD P w od vs → valV kv k = some v1 → PathAt P w K H v1 π v0 → PathAt P w K H (.ref a) (.k k :: π) v0
  | t {a b : Addr} {od : Obj} {es : List (NestedKey × Addr × Value)} {k : NestedKey} {u : Value} {v1 v0 : V} {π : List Stp} : H a = some (objO a od) → TupD P w od es → (∀ x ∈ es, KeyAt P w K H x.2.1 x.1) → atKey es k = some (b, u) → RelV v1 u → PathAt P w K H v1 π v0 → PathAt P w K H (.ref a) (.t k :: π) v0
theorem KeyAt.mono {H H' : Hp} {b : Addr} {k : NestedKey} (h : KeyAt P w K H b k) (g : ∀ a o, H a = some o → (∀ ps, o ≠ .tbl ps) → H' a = some o) : KeyAt P w K H' b k := by
  obtain ⟨F, d, r, e, dp⟩ := h
  exact ⟨F, d, rep_mono r ⟨fun _ h => h, fun a o e nt _ => g a o e nt⟩, e, dp⟩
mutual
theorem nkey_det {F F' : FS} {H : Hp} : ∀ {d d' : D} {v : V} {q q' : List Addr} {k k' : NestedKey}, rep P w K F H d v q → rep P w K F' H d' v q' → nkey d = some k → nkey d' = some k' → k = k'
  | .non, d', v, q, q', k, k', x, y, e, e' => by
    cases e
    rw [x.1] at y
    cases d' with
    | non => cases e'; rfl
    | bl => cases y.1
    | int => cases y.1
    | str => cases y.1
    | tup => obtain ⟨_, _, z, _⟩ := y; cases z
    | _ => cases e'
  | .bl b, d', v, q, q', k, k', x, y, e, e' => by
    cases e
    rw [x.1] at y
    cases d' with
    | non => cases y.1
    | bl => cases y.1; cases e'; rfl
    | int => cases y.1
    | str => cases y.1
    | tup => obtain ⟨_, _, z, _⟩ := y; cases z
    | _ => cases e'
  | .int b, d', v, q, q', k, k', x, y, e, e' => by
    cases e
    rw [x.1] at y
    cases d' with
    | non => cases y.1
    | bl => cases y.1
    | int => cases y.1; cases e'; rfl
    | str => cases y.1
    | tup => obtain ⟨_, _, z, _⟩ := y; cases z
    | _ => cases e'
  | .str b, d', v, q, q', k, k', x, y, e, e' => by
    cases e
    rw [x.1] at y
    cases d' with
    | non => cases y.1
    | bl => cases y.1
    | int => cases y.1
    | str => cases y.1; cases e'; rfl
    | tup => obtain ⟨_, _, z, _⟩ := y; cases z
    | _ => cases e'
  | .tup xs, d', v, q, q', k, k', x, y, e, e' => by
    obtain ⟨a, vs, rfl, h, r, _⟩ := x
    cases d' with
    | non => cases y.1
    | bl => cases y.1
    | int => cases y.1
    | str => cases y.1
    | tup ys =>
      obtain ⟨a', vs', z, h', r', _⟩ := y
      cases z
      rw [h] at h'
      cases h'
      unfold nkey at e e'
      cases e1 : nkeys xs with
      | none => rw [e1] at e; cases e
      | some ks =>
        cases e2 : nkeys ys with
        | none => rw [e2] at e'; cases e'
        | some ks' =>
          rw [e1] at e
          rw [e2] at e'
          cases e
          cases e'
          rw [nkeys_det r r' e1 e2]
    | _ => cases e'
  | .lst _ _, _, _, _, _, _, _, _, _, e, _ => by cases e
  | .glob _, _, _, _, _, _, _, _, _, e, _ => by cases e
  | .ty _, _, _, _, _, _, _, _, _, e, _ => by cases e
  | .dic _ _, _, _, _, _, _, _, _, _, e, _ => by cases e
  | .ins _ _ _, _, _, _, _, _, _, _, _, e, _ => by cases e
  | .err _ _, _, _, _, _, _, _, _, _, e, _ => by cases e
  | .scr _, _, _, _, _, _, _, _, _, e, _ => by cases e
theorem nkeys_det {F F' : FS} {H : Hp} : ∀ {ds ds' : List D} {vs : List V} {q q' : List Addr} {k k' : List NestedKey}, reps P w K F H ds vs q → reps P w K F' H ds' vs q' → nkeys ds = some k → nkeys ds' = some k' → k = k'
  | [], ds', vs, q, q', k, k', x, y, e, e' => by
    obtain ⟨rfl, _⟩ := x
    cases e
    cases ds' with
    | nil => cases e'; rfl
    | cons d ds => obtain ⟨_, _, _, _, z, _⟩ := y; cases z
  | d :: ds, ds', vs, q, q', k, k', x, y, e, e' => by
    obtain ⟨v, ws, q1, r1, rfl, x1, x2, _⟩ := x
    cases ds' with
    | nil => cases y.1
    | cons d' ds' =>
      obtain ⟨v', ws', q1', r1', z, y1, y2, _⟩ := y
      cases z
      unfold nkeys at e e'
      split at e
      · rename_i k1 ks1 e1 e2
        split at e'
        · rename_i k2 ks2 e3 e4
          cases e
          cases e'
          rw [nkey_det x1 y1 e1 e3, nkeys_det x2 y2 e2 e4]
        · cases e'
      · cases e
end
theorem tupd_inj {od : Obj} {H : Hp} {es es' : List (NestedKey × Addr × Value)} (h : TupD P w od es) (h' : TupD P w od es') (hk : ∀ x ∈ es, KeyAt P w K H x.2.1 x.1) (hk' : ∀ x ∈ es', KeyAt P w K H x.2.1 x.1) : es = es' := by
  obtain ⟨ea, ep, d1, d2⟩ := h.dat
  obtain ⟨ea', ep', d1', d2'⟩ := h'.dat
  rw [d1] at d1'
  cases d1'
  rw [d2] at d2'
  clear d1 d2 h h'
  induction es generalizing es' with
  | nil =>
    cases es' with
    | nil => rfl
    | cons _ _ => cases d2'
  | cons x r ih =>
    cases es' with
    | nil => cases d2'
    | cons x' r' =>
      rw [List.map_cons, List.map_cons] at d2'
      have e1 := (List.cons.inj d2').1
      have e2 := (List.cons.inj d2').2
      obtain ⟨k, b, u⟩ := x
      obtain ⟨k', b', u'⟩ := x'
      have e3 : Value.ref b = Value.ref b' := congrArg (·.key) e1
      have e4 : u = u' := congrArg (·.val) e1
      cases e3
      subst e4
      obtain ⟨F, d, r1, n1, _⟩ := hk (k, b, u) List.mem_cons_self
      obtain ⟨F', d', r1', n1', _⟩ := hk' (k', b, u) List.mem_cons_self
      have e5 : k = k' := nkey_det r1 r1' n1 n1'
      rw [e5, ih (fun x hx => hk x (List.mem_cons_of_mem _ hx)) (fun x hx => hk' x (List.mem_cons_of_mem _ hx)) e2]
theorem PathAt.mono {H H' : Hp} {v v0 : V} {π : List Stp} (h : PathAt P w K H v π v0) (g : ∀ a o, H a = some o → (∀ ps, o ≠ .tbl ps) → H' a = some o) : PathAt P w K H' v π v0 := by
  induction h with
  | nil => exact .nil
  | ix h1 h2 _ ih => exact .ix (g _ _ h1 fun _ z => nomatch z) h2 ih
  | fld h1 h2 _ ih => exact .fld (g _ _ h1 fun _ z => nomatch z) h2 ih
  | k h1 h2 h3 h4 _ ih => exact .k (g _ _ h1 fun _ z => nomatch z) h2 h3 h4 ih
  | t h1 h2 hk h3 h4 _ ih => exact .t (g _ _ h1 fun _ z => nomatch z) h2 (fun x hx => (hk x hx).mono g) h3 h4 ih
theorem objO_inj {H : Hp} {a : Addr} {od od' : Obj} {h : Heap} (e1 : H a = some (objO a od)) (e2 : H a = some (objO a od')) (g : h.get? a = some od) : h.get? a = some od' := by
  rw [e1] at e2
  have e : (fun h : Heap => h.get? a = some od) = fun h => h.get? a = some od' := HO.ext.inj (Option.some.inj e2)
  exact cast (congrFun e h) g
/-- any heap with just this object at a -/
def heapOf (a : Addr) (od : Obj) : Heap := ⟨(List.replicate (a + 1) od).toArray, (default : Heap).life⟩
theorem heapOf_get {a : Addr} {od : Obj} (hf : od.isFreed = false) : (heapOf a od).get? a = some od := by
  have e0 : (heapOf a od).objs[a]? = some od := by
    show (List.replicate (a + 1) od).toArray[a]? = _
    rw [List.getElem?_toArray, List.getElem?_replicate, if_pos (Nat.lt_succ_self a)]
  unfold Heap.get?
  rw [e0]
  obtain ⟨c1, c2, c3, c4⟩ := od
  cases c3 <;> first | rfl | (cases hf; done)
theorem objO_eq {H : Hp} {a : Addr} {od od' : Obj} {ea : Array DictEntry} {ep : Nat} (hd : od.data = .dict ea ep) (e1 : H a = some (objO a od)) (e2 : H a = some (objO a od')) : od = od' := by
  have g := heapOf_get (a := a) (od := od) (by
    obtain ⟨c1, c2, c3, c4⟩ := od
    cases hd
    rfl)
  have z := objO_inj e1 e2 g
  rw [g] at z
  exact Option.some.inj z
theorem pairs_inj : ∀ {l : List DictEntry} {vs ws : List (Key × Value)}, Pairs (mixKind P w) l vs → Pairs (mixKind P w) l ws → vs = ws := by
  intro l
  induction l with
  | nil => intro vs ws h1 h2; cases h1; cases h2; rfl
  | cons x l ih =>
    intro vs ws h1 h2
    cases h1 with
    | @cons _ kv _ _ a1 a2 a3 =>
      cases h2 with
      | @cons _ kv' _ _ b1 b2 b3 =>
        obtain ⟨k, v⟩ := kv
        obtain ⟨k', v'⟩ := kv'
        have r1 := relV_key (show keyIs k x.key = true from a1)
        have r2 := relV_key (show keyIs k' x.key = true from b1)
        have e := RelV.inj r1 r2
        have ek : k = k' := by
          cases k <;> cases k' <;> first | (cases e; rfl) | (cases e; done)
        have ev : v = v' := a2.symm.trans b2
        rw [ek, ev, ih a3 b3]
theorem kv_inj : ∀ {vs : List (Key × Value)} {kv kv' : List (Key × V)}, KV kv vs → KV kv' vs → kv = kv' := by
  intro vs
  induction vs with
  | nil => intro kv kv' h1 h2; cases h1; cases h2; rfl
  | cons x l ih =>
    intro kv kv' h1 h2
    cases h1 with
    | @cons a _ _ _ r1 t1 =>
      cases h2 with
      | @cons b _ _ _ r2 t2 =>
        rw [ih t1 t2, Prod.ext (r1.1.trans r2.1.symm) (RelV.inj r1.2 r2.2)]
theorem PathAt.inj {H : Hp} {v v0 v0' : V} {π : List Stp} (h : PathAt P w K H v π v0) (h' : PathAt P w K H v π v0') : v0 = v0' := by
  induction h with
  | nil => cases h'; rfl
  | ix h1 h2 _ ih =>
    cases h' with
    | ix g1 g2 g3 =>
      rw [h1] at g1
      cases g1
      rw [h2] at g2
      cases g2
      exact ih g3
  | fld h1 h2 _ ih =>
    cases h' with
    | fld g1 g2 g3 =>
      rw [h1] at g1
      cases g1
      rw [h2] at g2
      cases g2
      exact ih g3
  | k h1 h2 h3 h4 _ ih =>
    cases h' with
    | k g1 g2 g3 g4 g5 =>
      obtain ⟨ea, ep, d1, _, d2⟩ := h3.dat
      have e := objO_eq d1 h1 g1
      subst e
      obtain ⟨ea', ep', d1', _, d2'⟩ := g3.dat
      rw [d1] at d1'
      cases d1'
      have e := pairs_inj d2 d2'
      subst e
      have e := kv_inj h2 g2
      subst e
      rw [h4] at g4
      cases g4
      exact ih g5
  | t h1 h2 hk h3 h4 _ ih =>
    cases h' with
    | t g1 g2 gk g3 g4 g5 =>
      obtain ⟨ea, ep, d1, _⟩ := h2.dat
      have e := objO_eq d1 h1 g1
      subst e
      have e := tupd_inj h2 g2 hk gk
      subst e
      rw [h3] at g3
      cases g3
      have e := RelV.inj h4 g4
      subst e
      exact ih g5

/-! ### reading along a way -/
theorem lookF_at {F : FS} {H : Hp} : ∀ {fs : List (Str × D)} {gs : List (Str × V)} {q : List Addr} {x : Str} {d : D}, repF P w K F H fs gs q → fs.lookup x = some d → ∃ v q', gs.lookup x = some v ∧ rep P w K F H d v q' ∧ ∀ a ∈ q', a ∈ q
  | [], _, _, x, d, _, e => by cases e
  | (y, d0) :: r, _, _, x, d, ⟨v, ws, q1, r1, e1, x1, x2, hq⟩, e => by
    subst e1 hq
    rw [List.lookup_cons] at e ⊢
    cases hk : x == y with
    | true =>
      rw [hk] at e
      cases e
      exact ⟨v, q1, rfl, x1, fun a h => List.mem_append_left _ h⟩
    | false =>
      rw [hk] at e
      obtain ⟨v', q', h1, h2, h3⟩ := lookF_at x2 e
      exact ⟨v', q', h1, h2, fun a h => List.mem_append_right _ (h3 a h)⟩
theorem rep_path {C : Ctx} {F : FS} {H : Hp} : ∀ {π : List Stp} {d : D} {v : V} {p : List Addr} {d0 : D}, C.rep F H d v p → getP d π = some d0 → ∃ v0 q, PathAt C.X.prog C.X.w C.X.K H v π v0 ∧ C.rep F H d0 v0 q ∧ ∀ a ∈ q, a ∈ p
  | [], d, v, p, d0, x, e => by
    have e : d = d0 := by cases d <;> exact Option.some.inj e
    subst e
    exact ⟨v, p, .nil, x, fun a h => h⟩
  | .ix n :: π, d, v, p, d0, x, e => by
    cases d with
    | lst o xs =>
      unfold getP at e
      split at e
      · rename_i d1 h1
        obtain ⟨a, vs, q, rfl, r, ow⟩ := x
        obtain ⟨v1, q1, h2, h3, h4⟩ := reps_at r h1
        obtain ⟨v0, q0, h5, h6, h7⟩ := rep_path h3 e
        have ha : H a = some (.lst vs) := own_at ow
        exact ⟨v0, q0, .ix ha h2 h5, h6, fun a h => own_sub ow a (h4 a (h7 a h))⟩
      · cases e
    | _ => cases e
  | .fld x0 :: π, d, v, p, d0, x, e => by
    cases d with
    | ins o C' fs =>
      unfold getP at e
      split at e
      · rename_i d1 h1
        obtain ⟨a, dx, gs, q, rfl, r, ow⟩ := x
        obtain ⟨v1, q1, h2, h3, h4⟩ := lookF_at r h1
        obtain ⟨v0, q0, h5, h6, h7⟩ := rep_path h3 e
        have ha : H a = some (.ins (He.ga C.X.K C') dx gs) := own_at ow
        exact ⟨v0, q0, .fld ha h2 h5, h6, fun a h => own_sub ow a (h4 a (h7 a h))⟩
      · cases e
    | _ => cases e
  | .k k :: π, d, v, p, d0, x, e => by
    cases d with
    | dic o kvs =>
      unfold getP at e
      split at e
      · rename_i hf
        split at e
        · rename_i d1 h1
          obtain ⟨a, od, kv, vs, q, rfl, sm, ow, r, kvr, fd⟩ := dic_flat x hf
          obtain ⟨v1, q1, h2, h3, h4⟩ := (repK_look (k := k) r).1 d1 h1
          obtain ⟨v0, q0, h5, h6, h7⟩ := rep_path (C := C) h3 e
          have ha : H a = some (objO a od) := own_at ow
          exact ⟨v0, q0, .k ha kvr fd h2 h5, h6, fun a h => own_sub ow a (h4 a (h7 a h))⟩
        · cases e
      · cases e
    | _ => cases e
  | .t k :: π, d, v, p, d0, x, e => by
    cases d with
    | dic o kvs =>
      unfold getP at e
      split at e
      · rename_i hf
        split at e
        · rename_i d1 h1
          obtain ⟨a, od, es, q, rfl, sm, ow, r, td⟩ := dic_tup x hf
          obtain ⟨b, u, v1, q1, h2, hr, h3, h4⟩ := (repT_look (k := k) r).1 d1 h1
          obtain ⟨v0, q0, h5, h6, h7⟩ := rep_path (C := C) h3 e
          have ha : H a = some (objO a od) := own_at ow
          exact ⟨v0, q0, .t ha td (repT_keys r) h2 hr h5, h6, fun a h => own_sub ow a (h4 a (h7 a h))⟩
        · cases e
      · cases e
    | _ => cases e

/-! ### a part changed -/
theorem setK_hit {y e d : D} {r : List (D × D)} {x : Key} (h : fkey y = some x) : setK ((y, e) :: r) x d = (y, d) :: r := by
  unfold setK
  rw [if_pos h]
theorem setK_miss {y e d : D} {r : List (D × D)} {x : Key} (h : ¬ fkey y = some x) : setK ((y, e) :: r) x d = (y, e) :: setK r x d := by
  conv => lhs; unfold setK
  rw [if_neg h]
theorem setT_hit {y e d : D} {r : List (D × D)} {x : NestedKey} (h : nkey y = some x) : setT ((y, e) :: r) x d = (y, d) :: r := by
  unfold setT
  rw [if_pos h]
theorem setT_miss {y e d : D} {r : List (D × D)} {x : NestedKey} (h : ¬ nkey y = some x) : setT ((y, e) :: r) x d = (y, e) :: setT r x d := by
  conv => lhs; unfold setT
  rw [if_neg h]
theorem setF_hit {y x : Str} {e d : D} {r : List (Str × D)} (h : (x == y) = true) : setF ((y, e) :: r) x d = (y, d) :: r := by
  unfold setF
  rw [if_pos h]
theorem setF_miss {y x : Str} {e d : D} {r : List (Str × D)} (h : (x == y) = false) : setF ((y, e) :: r) x d = (y, e) :: setF r x d := by
  conv => lhs; unfold setF
  rw [if_neg (by rw [h]; exact Bool.false_ne_true)]
/-- one item of a list of data taken out -/
theorem reps_hole {F : FS} {H : Hp} : ∀ {ds : List D} {vs : List V} {q : List Addr} {i : Nat} {d : D}, reps P w K F H ds vs q → ds[i]? = some d → ∃ v l q' r, vs[i]? = some v ∧ rep P w K F H d v q' ∧ q = l ++ (q' ++ r) ∧
    ∀ F' H' d' q2, Stab F F' H H' (l ++ r) → rep P w K F' H' d' v q2 → reps P w K F' H' (ds.set i d') vs (l ++ (q2 ++ r))
  | [], _, _, i, d, x, e => by cases e
  | d0 :: ds, _, _, 0, d, ⟨v, ws, q, r, e, x1, x2, h⟩, ed => by
    subst e h
    cases ed
    exact ⟨v, [], q, r, rfl, x1, rfl, fun F' H' d' q2 s z => ⟨v, ws, q2, r, rfl, z, reps_mono x2 s, rfl⟩⟩
  | d0 :: ds, _, _, i + 1, d, ⟨v0, ws, q0, r0, e, x1, x2, h⟩, ed => by
    subst e h
    obtain ⟨v, l, q', r, h1, h2, h3, h4⟩ := reps_hole (i := i) x2 (by simpa using ed)
    refine ⟨v, q0 ++ l, q', r, by simpa using h1, h2, by rw [h3, List.append_assoc], fun F' H' d' q2 s z => ?_⟩
    have s' : Stab F F' H H' (q0 ++ (l ++ r)) := by rw [← List.append_assoc]; exact s
    exact ⟨v0, ws, q0, l ++ (q2 ++ r), rfl, rep_mono x1 s'.left, h4 F' H' d' q2 s'.right z, by rw [List.append_assoc]⟩
theorem repF_hole {F : FS} {H : Hp} : ∀ {ds : List (Str × D)} {vs : List (Str × V)} {q : List Addr} {x : Str} {d : D}, repF P w K F H ds vs q → ds.lookup x = some d → ∃ v l q' r, vs.lookup x = some v ∧ rep P w K F H d v q' ∧ q = l ++ (q' ++ r) ∧
    ∀ F' H' d' q2, Stab F F' H H' (l ++ r) → rep P w K F' H' d' v q2 → repF P w K F' H' (setF ds x d') vs (l ++ (q2 ++ r))
  | [], _, _, x, d, _, e => by cases e
  | (y, d0) :: ds, _, _, x, d, ⟨v0, ws, q0, r0, e, x1, x2, h⟩, ed => by
    subst e h
    rw [List.lookup_cons] at ed ⊢
    cases hk : x == y with
    | true =>
      rw [hk] at ed
      cases ed
      exact ⟨v0, [], q0, r0, rfl, x1, rfl, fun F' H' d' q2 s z => by rw [setF_hit hk]; exact ⟨v0, ws, q2, r0, rfl, z, repF_mono x2 s, rfl⟩⟩
    | false =>
      rw [hk] at ed
      obtain ⟨v, l, q', r, h1, h2, h3, h4⟩ := repF_hole (x := x) x2 ed
      refine ⟨v, q0 ++ l, q', r, h1, h2, by rw [h3, List.append_assoc], fun F' H' d' q2 s z => ?_⟩
      have s' : Stab F F' H H' (q0 ++ (l ++ r)) := by rw [← List.append_assoc]; exact s
      rw [setF_miss hk]
      exact ⟨v0, ws, q0, l ++ (q2 ++ r), rfl, rep_mono x1 s'.left, h4 F' H' d' q2 s'.right z, by rw [List.append_assoc]⟩
theorem valV_cons {kv : Key × V} {r : List (Key × V)} {k : Key} : valV (kv :: r) k = if kv.1 = k then some kv.2 else valV r k := by
  unfold valV
  by_cases h : kv.1 = k
  · simp [List.find?_cons, h]
  · simp [List.find?_cons, h]
theorem repK_hole {F : FS} {H : Hp} : ∀ {ds : List (D × D)} {vs : List (Key × V)} {q : List Addr} {x : Key} {d : D}, repK P w K F H ds vs q → lookK ds x = some d → ∃ v l q' r, valV vs x = some v ∧ rep P w K F H d v q' ∧ q = l ++ (q' ++ r) ∧
    ∀ F' H' d' q2, Stab F F' H H' (l ++ r) → rep P w K F' H' d' v q2 → repK P w K F' H' (setK ds x d') vs (l ++ (q2 ++ r))
  | [], _, _, x, d, _, e => by cases e
  | (y, d0) :: ds, _, _, x, d, ⟨k0, v0, ws, q0, r0, ek, e, x1, x2, h⟩, ed => by
    subst e h
    unfold lookK at ed
    rw [valV_cons]
    by_cases hk : k0 = x
    · subst hk
      rw [if_pos ek] at ed
      cases ed
      rw [if_pos rfl]
      exact ⟨v0, [], q0, r0, rfl, x1, rfl, fun F' H' d' q2 s z => by rw [setK_hit ek]; exact ⟨k0, v0, ws, q2, r0, ek, rfl, z, repK_mono x2 s, rfl⟩⟩
    · have nk : ¬ fkey y = some x := fun z => hk (by rw [ek] at z; exact Option.some.inj z)
      rw [if_neg nk] at ed
      rw [if_neg hk]
      obtain ⟨v, l, q', r, h1, h2, h3, h4⟩ := repK_hole (x := x) x2 ed
      refine ⟨v, q0 ++ l, q', r, h1, h2, by rw [h3, List.append_assoc], fun F' H' d' q2 s z => ?_⟩
      have s' : Stab F F' H H' (q0 ++ (l ++ r)) := by rw [← List.append_assoc]; exact s
      rw [setK_miss nk]
      exact ⟨k0, v0, ws, q0, l ++ (q2 ++ r), ek, rfl, rep_mono x1 s'.left, h4 F' H' d' q2 s'.right z, by rw [List.append_assoc]⟩
theorem repT_hole {F : FS} {H : Hp} : ∀ {ds : List (D × D)} {vs : List (NestedKey × Addr × Value)} {q : List Addr} {x : NestedKey} {d : D}, repT P w K F H ds vs q → lookT ds x = some d → ∃ b u v l q' r, atKey vs x = some (b, u) ∧ RelV v u ∧ rep P w K F H d v q' ∧ q = l ++ (q' ++ r) ∧
    ∀ F' H' d' q2, Stab F F' H H' (l ++ r) → rep P w K F' H' d' v q2 → repT P w K F' H' (setT ds x d') vs (l ++ (q2 ++ r))
  | [], _, _, x, d, _, e => by cases e
  | (y, d0) :: ds, _, _, x, d, ⟨k0, b0, u0, v0, ws, q0, r0, ek, dp, e, x0, ru, x1, x2, h⟩, ed => by
    subst e h
    unfold lookT at ed
    rw [atKey_cons]
    by_cases hk : k0 = x
    · subst hk
      rw [if_pos ek] at ed
      cases ed
      rw [if_pos rfl]
      exact ⟨b0, u0, v0, [], q0, r0, rfl, ru, x1, rfl, fun F' H' d' q2 s z => by rw [setT_hit ek]; exact ⟨k0, b0, u0, v0, ws, q2, r0, ek, dp, rfl, rep_mono x0 (s.sub fun _ h => by cases h), ru, z, repT_mono x2 s, rfl⟩⟩
    · have nk : ¬ nkey y = some x := fun z => hk (by rw [ek] at z; exact Option.some.inj z)
      rw [if_neg nk] at ed
      rw [if_neg hk]
      obtain ⟨b, u, v, l, q', r, h1, hr, h2, h3, h4⟩ := repT_hole (x := x) x2 ed
      refine ⟨b, u, v, q0 ++ l, q', r, h1, hr, h2, by rw [h3, List.append_assoc], fun F' H' d' q2 s z => ?_⟩
      have s' : Stab F F' H H' (q0 ++ (l ++ r)) := by rw [← List.append_assoc]; exact s
      rw [setT_miss nk]
      exact ⟨k0, b0, u0, v0, ws, q0, l ++ (q2 ++ r), ek, dp, rfl, rep_mono x0 (s'.sub fun _ h => by cases h), ru, rep_mono x1 s'.left, h4 F' H' d' q2 s'.right z, by rw [List.append_assoc]⟩
theorem own_re {F F' : FS} {H H' : Hp} {a : Addr} {u : HO} {q p l q2 r : List Addr} (ow : own true F H a u q p) (s : Stab F F' H H' (a :: l ++ r)) (nt : ∀ ps, u ≠ .tbl ps) : own true F' H' a u (l ++ (q2 ++ r)) (a :: l ++ (q2 ++ r)) :=
  ⟨s.keep a u ow.1 nt (.inr (.inl (by simp))), rfl⟩
/-- the part changed in place -/
theorem rep_hole {C : Ctx} {F : FS} {H : Hp} {f : D → Option (D × D)} : ∀ {π : List Stp} {d : D} {v : V} {p : List Addr} {d' e' : D}, C.rep F H d v p → modP d π f = some (d', e') →
    ∃ d0 d1 v0 l q r, PathAt C.X.prog C.X.w C.X.K H v π v0 ∧ C.rep F H d0 v0 q ∧ f d0 = some (d1, e') ∧ p = l ++ (q ++ r) ∧ ∀ F' H' q2, Stab F F' H H' (l ++ r) → C.rep F' H' d1 v0 q2 → C.rep F' H' d' v (l ++ (q2 ++ r))
  | [], d, v, p, d', e', x, e => by
    have e : f d = some (d', e') := by cases d <;> exact e
    exact ⟨d, d', v, [], p, [], .nil, x, e, by simp, fun F' H' q2 s z => by simpa using z⟩
  | .ix n :: π, d, v, p, d', e', x, e => by
    cases d with
    | lst o xs =>
      cases o with
      | false => cases e
      | true =>
        unfold modP at e
        split at e
        · rename_i dn hn
          obtain ⟨⟨z1, z2⟩, hz, ez⟩ := Option.map_eq_some_iff.mp e
          cases ez
          obtain ⟨a, vs, q, rfl, r, ow⟩ := x
          obtain ⟨vn, l, qn, rn, h1, h2, h3, h4⟩ := reps_hole r hn
          obtain ⟨d0, d1, v0, l0, q0, r0, g1, g2, g3, g4, g5⟩ := rep_hole (C := C) h2 hz
          refine ⟨d0, d1, v0, a :: (l ++ l0), q0, r0 ++ rn, .ix ow.1 h1 g1, g2, g3, ?_, fun F' H' q2 s z => ?_⟩
          · rw [ow.2, h3, g4]; simp [List.append_assoc]
          · have s1 : Stab F F' H H' (l0 ++ r0) := s.sub fun b hb => by
              rcases List.mem_append.mp hb with hb | hb <;> simp [hb]
            have s2 : Stab F F' H H' (l ++ rn) := s.sub fun b hb => by
              rcases List.mem_append.mp hb with hb | hb <;> simp [hb]
            have z1 := h4 F' H' _ _ s2 (g5 F' H' q2 s1 z)
            refine ⟨a, vs, _, rfl, z1, s.keep a _ ow.1 (fun _ z => nomatch z) (.inr (.inl (by simp))), ?_⟩
            simp [List.append_assoc]
        · cases e
    | _ => cases e
  | .fld x0 :: π, d, v, p, d', e', x, e => by
    cases d with
    | ins o C' fs =>
      cases o with
      | false => cases e
      | true =>
        unfold modP at e
        split at e
        · rename_i dn hn
          obtain ⟨⟨z1, z2⟩, hz, ez⟩ := Option.map_eq_some_iff.mp e
          cases ez
          obtain ⟨a, dx, gs, q, rfl, r, ow⟩ := x
          obtain ⟨vn, l, qn, rn, h1, h2, h3, h4⟩ := repF_hole r hn
          obtain ⟨d0, d1, v0, l0, q0, r0, g1, g2, g3, g4, g5⟩ := rep_hole (C := C) h2 hz
          refine ⟨d0, d1, v0, a :: (l ++ l0), q0, r0 ++ rn, .fld ow.1 h1 g1, g2, g3, ?_, fun F' H' q2 s z => ?_⟩
          · rw [ow.2, h3, g4]; simp [List.append_assoc]
          · have s1 : Stab F F' H H' (l0 ++ r0) := s.sub fun b hb => by
              rcases List.mem_append.mp hb with hb | hb <;> simp [hb]
            have s2 : Stab F F' H H' (l ++ rn) := s.sub fun b hb => by
              rcases List.mem_append.mp hb with hb | hb <;> simp [hb]
            have z1 := h4 F' H' _ _ s2 (g5 F' H' q2 s1 z)
            refine ⟨a, dx, gs, _, rfl, z1, s.keep a _ ow.1 (fun _ z => nomatch z) (.inr (.inl (by simp))), ?_⟩
            simp [List.append_assoc]
        · cases e
    | _ => cases e
  | .k k :: π, d, v, p, d', e', x, e => by
    cases d with
    | dic o kvs =>
      cases o with
      | false => cases e
      | true =>
        unfold modP at e
        split at e
        · rename_i hf
          split at e
          · rename_i dn hn
            obtain ⟨⟨z1, z2⟩, hz, ez⟩ := Option.map_eq_some_iff.mp e
            cases ez
            obtain ⟨a, od, kv, vs, q, rfl, sm, ow, r, kvr, fd⟩ := dic_flat x hf
            obtain ⟨vn, l, qn, rn, h1, h2, h3, h4⟩ := repK_hole r hn
            obtain ⟨d0, d1, v0, l0, q0, r0, g1, g2, g3, g4, g5⟩ := rep_hole (C := C) h2 hz
            refine ⟨d0, d1, v0, a :: (l ++ l0), q0, r0 ++ rn, .k ow.1 kvr fd h1 g1, g2, g3, ?_, fun F' H' q2 s z => ?_⟩
            · rw [ow.2, h3, g4]; simp [List.append_assoc]
            · have s1 : Stab F F' H H' (l0 ++ r0) := s.sub fun b hb => by
                rcases List.mem_append.mp hb with hb | hb <;> simp [hb]
              have s2 : Stab F F' H H' (l ++ rn) := s.sub fun b hb => by
                rcases List.mem_append.mp hb with hb | hb <;> simp [hb]
              have z1 := h4 F' H' _ _ s2 (g5 F' H' q2 s1 z)
              refine ⟨a, od, _, rfl, sm, ⟨s.keep a _ ow.1 (fun _ z => nomatch z) (.inr (.inl (by simp))), ?_⟩, .inl ⟨kv, vs, z1, kvr, fd⟩⟩
              simp [List.append_assoc]
          · cases e
        · cases e
    | _ => cases e
  | .t k :: π, d, v, p, d', e', x, e => by
    cases d with
    | dic o kvs =>
      cases o with
      | false => cases e
      | true =>
        unfold modP at e
        split at e
        · rename_i hf
          split at e
          · rename_i dn hn
            obtain ⟨⟨z1, z2⟩, hz, ez⟩ := Option.map_eq_some_iff.mp e
            cases ez
            obtain ⟨a, od, es, q, rfl, sm, ow, r, td⟩ := dic_tup x hf
            obtain ⟨b, u, vn, l, qn, rn, h1, hr, h2, h3, h4⟩ := repT_hole r hn
            obtain ⟨d0, d1, v0, l0, q0, r0, g1, g2, g3, g4, g5⟩ := rep_hole (C := C) h2 hz
            refine ⟨d0, d1, v0, a :: (l ++ l0), q0, r0 ++ rn, .t ow.1 td (repT_keys r) h1 hr g1, g2, g3, ?_, fun F' H' q2 s z => ?_⟩
            · rw [ow.2, h3, g4]; simp [List.append_assoc]
            · have s1 : Stab F F' H H' (l0 ++ r0) := s.sub fun b hb => by
                rcases List.mem_append.mp hb with hb | hb <;> simp [hb]
              have s2 : Stab F F' H H' (l ++ rn) := s.sub fun b hb => by
                rcases List.mem_append.mp hb with hb | hb <;> simp [hb]
              have z1 := h4 F' H' _ _ s2 (g5 F' H' q2 s1 z)
              refine ⟨a, od, _, rfl, sm, ⟨s.keep a _ ow.1 (fun _ z => nomatch z) (.inr (.inl (by simp))), ?_⟩, .inr ⟨es, z1, td⟩⟩
              simp [List.append_assoc]
          · cases e
        · cases e
    | _ => cases e
end
end DL

namespace DL
open PySem PySem.Spec PyProof.Rows L2
abbrev PF := Env → Option ((Nat × List Stp) × Env)
section
variable {C : Ctx} {m : Bool} {F F1 F' : FS} {H H1 H' : Hp} {p p1 p' q r : List Addr} {σ : St} {env : Env} {En : Ends} {pos : Pos}
/-! ### a way read -/
def atW (e : Env) (i : Nat) (π : List Stp) : Option D := match e[i]? with
  | some (some ds) => getP ds π
  | _ => none
theorem atW_some {e : Env} {i : Nat} {π : List Stp} {d : D} (h : atW e i π = some d) : ∃ ds, e[i]? = some (some ds) ∧ getP ds π = some d := by
  unfold atW at h
  split at h
  · rename_i ds hd
    exact ⟨ds, hd, h⟩
  · cases h
def TP (C : Ctx) (m : Bool) (f : PF) : TE := fun σ H Q => ∃ F p env, Rel C env σ F H p ∧ ∃ i π e1 d0, f env = some ((i, π), e1) ∧ atW e1 i π = some d0 ∧
  ∀ v0 v H' F' p', Ext m F H p F' H' p' → Rel C e1 σ F' H' p' → σ[i]? = some (some v) → PathAt C.X.prog C.X.w C.X.K H' v π v0 → is C F' H' d0 v0 → Q v0 H'
def pvar (i : Nat) : PF := fun env => match env[i]? with
  | some (some _) => some ((i, []), env)
  | _ => none
theorem getP_nil {d : D} : getP d [] = some d := by cases d <;> rfl
theorem tp_var {i : Nat} {Q : VK} (h : TP C m (pvar i) σ H Q) : tVar i σ H Q := by
  obtain ⟨F, p, env, rel, i', π, e1, d0, e, eg, post⟩ := h
  unfold pvar at e
  split at e
  · rename_i d ed
    cases e
    obtain ⟨v, q, ev, rp, _⟩ := rel.slot ed
    unfold atW at eg
    rw [ed] at eg
    have eg : getP d [] = some d0 := eg
    rw [getP_nil] at eg
    cases eg
    exact ⟨v, ev, post v v H F p Ext.refl rel ev .nil ⟨q, rp⟩⟩
  · cases e
theorem p_var {i : Nat} {x : Str} (hN : C.X.N[i]? = some x) (hv : Vis C.X.env.scope x) (hd : (x == ("__debug__" : Str)) = false := by decide) (hcd : (x == ("__classdict__" : Str)) = false := by decide) : PE C.X (.Name x pos) (TP C m (pvar i)) :=
  peImp (pe_var hN hv hd hcd) fun _ _ _ h => tp_var h
theorem PathAt.snoc {P : Program} {w : World} {K : PySem.W.Frag} {v v0 v1 : V} {π π' : List Stp} (h : PathAt P w K H v π v0) (h' : PathAt P w K H v0 π' v1) : PathAt P w K H v (π ++ π') v1 := by
  induction h with
  | nil => exact h'
  | ix h1 h2 _ ih => exact .ix h1 h2 (ih h')
  | fld h1 h2 _ ih => exact .fld h1 h2 (ih h')
  | k h1 h2 h3 h4 _ ih => exact .k h1 h2 h3 h4 (ih h')
  | t h1 h2 hk h3 h4 _ ih => exact .t h1 h2 hk h3 h4 (ih h')
theorem getP_ix {o : Bool} {xs : List D} {n : Nat} {π : List Stp} {d : D} (h : xs[n]? = some d) : getP (.lst o xs) (.ix n :: π) = getP d π := by
  rw [getP]
  simp only [h]
theorem getP_fld {o : Bool} {C' x : Str} {fs : List (Str × D)} {π : List Stp} {d : D} (h : fs.lookup x = some d) : getP (.ins o C' fs) (.fld x :: π) = getP d π := by
  rw [getP]
  simp only [h]
theorem getP_k {o : Bool} {k : Key} {kvs : List (D × D)} {π : List Stp} {d : D} (hf : flatB kvs = true) (h : lookK kvs k = some d) : getP (.dic o kvs) (.k k :: π) = getP d π := by
  rw [getP, if_pos hf]
  simp only [h]
theorem getP_t {o : Bool} {k : NestedKey} {kvs : List (D × D)} {π : List Stp} {d : D} (hf : tupB kvs = true) (h : lookT kvs k = some d) : getP (.dic o kvs) (.t k :: π) = getP d π := by
  rw [getP, if_pos hf]
  simp only [h]
theorem getP_snoc : ∀ {π π' : List Stp} {d d0 : D}, getP d π = some d0 → getP d (π ++ π') = getP d0 π'
  | [], π', d, d0, e => by rw [getP_nil] at e; cases e; rfl
  | .ix n :: π, π', d, d0, e => by
    cases d with
    | lst o xs =>
      rw [List.cons_append]
      unfold getP at e
      split at e
      · rename_i d1 h1
        rw [getP_ix h1]
        exact getP_snoc e
      · cases e
    | _ => cases e
  | .fld x :: π, π', d, d0, e => by
    cases d with
    | ins o C' fs =>
      rw [List.cons_append]
      unfold getP at e
      split at e
      · rename_i d1 h1
        rw [getP_fld h1]
        exact getP_snoc e
      · cases e
    | _ => cases e
  | .k k :: π, π', d, d0, e => by
    cases d with
    | dic o xs =>
      rw [List.cons_append]
      unfold getP at e
      split at e
      · rename_i hf
        split at e
        · rename_i d1 h1
          rw [getP_k hf h1]
          exact getP_snoc e
        · cases e
      · cases e
    | _ => cases e
  | .t k :: π, π', d, d0, e => by
    cases d with
    | dic o xs =>
      rw [List.cons_append]
      unfold getP at e
      split at e
      · rename_i hf
        split at e
        · rename_i d1 h1
          rw [getP_t hf h1]
          exact getP_snoc e
        · cases e
      · cases e
    | _ => cases e
/-- the step that a key takes in a container -/
def stepOf : D → D → Option Stp
  | .dic _ kvs, key => (match fkey key with
    | some k => if flatB kvs = true then some (.k k) else none
    | none => if isTup key = true ∧ tupB kvs = true then (match nkey key with
      | some k => if k.depth ≤ 8 then some (.t k) else none
      | none => none) else none)
  | .lst _ xs, .int i => (ixN xs.length i).map .ix
  | _, _ => none
def psub (f : PF) (kf : XF) : PF := fun env => match f env with
  | some ((i, π), e1) => (match atW e1 i π with
    | some _ => (match kf e1 with
      | some (.val k, e2) => (match atW e2 i π with
        | some c => (match stepOf c k with
          | some st => (match getP c [st] with
            | some _ => some ((i, π ++ [st]), e2)
            | none => none)
          | none => none)
        | none => none)
      | _ => none)
    | none => none)
  | none => none
/-- the way read ahead of a reading that changes nothing owned (or a slot): where it leads then -/
theorem way_after {i : Nat} {π : List Stp} {e2 : Env} {d0 : D} {F2 : FS} {H2 : Hp} {p2 : List Addr} {v v0 : V} (hm : m = true → π = []) (x : Ext m F H p F2 H2 p2) (rel : Rel C e2 σ F2 H2 p2) (ev : σ[i]? = some (some v)) (pa : PathAt C.X.prog C.X.w C.X.K H v π v0) (ea : atW e2 i π = some d0) :
    PathAt C.X.prog C.X.w C.X.K H2 v π v0 ∧ is C F2 H2 d0 v0 := by
  obtain ⟨ds, ei, eg⟩ := atW_some ea
  obtain ⟨v', q, ev', rp, _⟩ := rel.slot ei
  rw [ev] at ev'
  cases ev'
  obtain ⟨v0', q0, pa', rp', _⟩ := rep_path (C := C) rp eg
  have pa2 : PathAt C.X.prog C.X.w C.X.K H2 v π v0 := by
    cases m with
    | true =>
      have e := hm rfl
      subst e
      cases pa
      exact .nil
    | false => exact pa.mono fun a o e nt => x.keep a o e nt fun h => by cases h
  have e := pa2.inj pa'
  subst e
  exact ⟨pa2, _, rp'⟩
theorem Rel.val {i : Nat} {d : D} (rel : Rel C env σ F H p) (e : env[i]? = some (some d)) : ∃ v, σ[i]? = some (some v) := by
  obtain ⟨v, _, ev, _⟩ := rel.slot e
  exact ⟨v, ev⟩
/-- the base of a way: a slot, or anything where nothing owned is changed behind it -/
def Base (m : Bool) (f : PF) : Prop := m = true → ∀ env e1 i π, f env = some ((i, π), e1) → π = []
theorem Base.nil {f : PF} (b : Base m f) {env e1 : Env} {i : Nat} {π : List Stp} (e : f env = some ((i, π), e1)) : m = true → π = [] := fun hm => b hm env e1 i π e
theorem base_f {f : PF} : Base false f := fun h => by cases h
theorem base_v {i : Nat} : Base m (pvar i) := fun _ env e1 j π e => by
  unfold pvar at e
  split at e
  · cases e; rfl
  · cases e
theorem is_step {c k : D} {st : Stp} {d1 : D} {x y : V} (e : stepOf c k = some st) (eg : getP c [st] = some d1) (h1 : is C F H c x) (h2 : is C F H k y) :
    ∃ v1, PathAt C.X.prog C.X.w C.X.K H x [st] v1 ∧ is C F H d1 v1 ∧ (((∃ o xs, c = D.lst o xs) ∧ ∃ a vs i, x = .ref a ∧ y = .int i ∧ SqL C.X.K H a vs ∧ atI vs i = some v1) ∨ rDGet C.X x y H fun v H' => v = v1 ∧ H' = H) := by
  obtain ⟨qx, h1'⟩ := id h1
  obtain ⟨v1, q1, pa, rp, _⟩ := rep_path (C := C) h1' eg
  refine ⟨v1, pa, ⟨_, rp⟩, ?_⟩
  unfold stepOf at e
  split at e
  · rename_i o kvs key
    right
    split at e
    · rename_i k ek
      split at e
      · rename_i hf
        cases e
        unfold getP at eg
        rw [if_pos hf] at eg
        split at eg
        · rename_i dd hd
          obtain ⟨a, kv, q', rfl, hF, r⟩ := dic_isFlat h1 hf
          obtain ⟨v', q'', hv, rp', _⟩ := (repK_look (k := k) r).1 dd hd
          refine .inl ⟨a, kv, k, v', rfl, fkey_kV h2 ek, hF, hv, ?_, rfl⟩
          obtain ⟨od, vs, sm, ha, kvr, fd⟩ := hF
          exact PathAt.inj (.k ha kvr fd hv .nil) pa
        · cases eg
      · cases e
    · split at e
      · rename_i ht
        split at e
        · rename_i k ek
          split at e
          · rename_i dp
            cases e
            unfold getP at eg
            rw [if_pos ht.2] at eg
            split at eg
            · rename_i dd hd
              obtain ⟨a, es, q', rfl, hT, r⟩ := dic_isTupl h1 ht.2
              obtain ⟨b, rfl, hb⟩ := tup_ref h2 ht.1 ek dp
              obtain ⟨b', u, v', q'', hv, ru, rp', _⟩ := (repT_look (k := k) r).1 dd hd
              refine .inr ⟨a, es, k, b, b', u, v', rfl, rfl, hT, hb, hv, ru, ?_, rfl⟩
              obtain ⟨od, sm, ha, td, hk⟩ := hT
              exact PathAt.inj (.t ha td hk hv ru .nil) pa
            · cases eg
          · cases e
        · cases e
      · cases e
  · rename_i o xs i
    left
    obtain ⟨n, hn, rfl⟩ := Option.map_eq_some_iff.mp e
    obtain ⟨a, vs, q2, rfl, ha, ra, _⟩ := is_lst h1
    cases is_int h2
    unfold getP at eg
    split at eg
    · rename_i dd hd
      cases pa with
      | ix g1 g2 g3 =>
        rw [ha] at g1
        cases g1
        cases g3
        refine ⟨⟨_, _, rfl⟩, a, vs, i, rfl, rfl, SqL.of ha, ?_⟩
        unfold atI
        rw [← reps_len ra, hn]
        exact g2
    · cases eg
  · cases e
theorem atW_snoc {e : Env} {i : Nat} {π π' : List Stp} {c : D} (h : atW e i π = some c) : atW e i (π ++ π') = getP c π' := by
  obtain ⟨ds, ei, eg⟩ := atW_some h
  unfold atW
  simp only [ei]
  exact getP_snoc eg
theorem tp_sub {f : PF} {kf : XF} {Q : VK} (b : Base m f) (h : TP C m (psub f kf) σ H Q) : TP C m f σ H fun x H1 => TX C m kf σ H1 fun y H2 => (rAt C.X.K x y H2 Q ∨ rDGet C.X x y H2 Q) := by
  obtain ⟨F, p, env, rel, i, π, e1, d0, e, eg, post⟩ := h
  unfold psub at e
  split at e
  case h_2 => cases e
  rename_i i' π' e3 ef
  split at e
  case h_2 => cases e
  rename_i c3 ec3
  split at e
  case h_2 => cases e
  rename_i k e4 ek
  split at e
  case h_2 => cases e
  rename_i c ec
  split at e
  case h_2 => cases e
  rename_i st es
  split at e
  case h_2 => cases e
  rename_i d1 ed1
  cases e
  rw [atW_snoc ec, ed1] at eg
  cases eg
  refine ⟨F, p, env, rel, _, _, _, _, ef, ec3, fun v0 v H1 F1 p1 x1 rel1 ev pa is0 => ⟨F1, p1, e3, rel1, _, _, ek, fun y H2 F2 p2 q2 x2 rel2 rp2 ap2 => ?_⟩⟩
  have x2' : Ext m F1 H1 p1 F2 H2 p2 := x2.sub fun a h => List.mem_append_right _ h
  obtain ⟨pa2, is2⟩ := way_after (b.nil ef) x2' rel2 ev pa ec
  obtain ⟨v1, pa3, is3, z⟩ := is_step es ed1 is2 ⟨_, rp2⟩
  have fin : Q v1 H2 := post v1 v H2 F2 p2 (x1.trans x2') rel2 ev (pa2.snoc pa3) is3
  rcases z with ⟨_, a, vs, n, rfl, rfl, hl, ha⟩ | z
  · exact .inl (.inl ⟨a, vs, n, v1, rfl, rfl, hl, ha, fin⟩)
  · right
    rcases z with ⟨a, kv, kk, v', h1, h2, h3, h4, rfl, _⟩ | ⟨a, es', kk, b1, b2, u, v', h1, h2, h3, h4, h5, h6, rfl, _⟩
    · exact .inl ⟨a, kv, kk, v', h1, h2, h3, h4, fin⟩
    · exact .inr ⟨a, es', kk, b1, b2, u, v', h1, h2, h3, h4, h5, h6, fin⟩
theorem p_sub {a b : Expr} {f : PF} {kf : XF} (hu : C.X.A.units + 16 < cLine) (hb : Base m f) (ha : PE C.X a (TP C m f)) (hk : PE C.X b (TX C m kf)) (hp : PlainIx b) : PE C.X (.Subscript a b pos) (TP C m (psub f kf)) :=
  peImp (pe_ix (ix_all hu) ha hk hp) fun σ H Q h => tp_sub hb h
theorem tp_dn {f : PF} {Q : VK} (h : TP C true f σ H Q) : TP C m f σ H Q := by
  obtain ⟨F, p, env, rel, i, π, e1, d0, e, eg, post⟩ := h
  exact ⟨F, p, env, rel, i, π, e1, d0, e, eg, fun v0 v H' F' p' x => post v0 v H' F' p' x.any⟩
theorem tx_dn {f : XF} {Q : VK} (h : TX C true f σ H Q) : TX C m f σ H Q := by
  obtain ⟨F, p, env, rel, r, env', e, post⟩ := h
  refine ⟨F, p, env, rel, r, env', e, ?_⟩
  cases r with
  | val d => exact fun v H' F' p' q x => post v H' F' p' q x.any
  | exc c fs => exact fun dx H' F' p' x => post dx H' F' p' x.any
theorem p_up {e : Expr} {f : PF} (h : PE C.X e (TP C m f)) : PE C.X e (TP C true f) := peImp h fun _ _ _ z => tp_dn z
theorem x_up {e : Expr} {f : XF} (h : PE C.X e (TX C m f)) : PE C.X e (TX C true f) := peImp h fun _ _ _ z => tx_dn z
/-! ### an attribute of an instance -/
def pfld (ok : List Str) (f : PF) (x : Str) : PF := fun env => match f env with
  | some ((i, π), e1) => (match atW e1 i π with
    | some (.ins _ C' fs) => if C' ∈ ok then (match fs.lookup x with
      | some _ => some ((i, π ++ [.fld x]), e1)
      | none => none) else none
    | _ => none)
  | none => none
/-- the classes ok have no attribute x of their own -/
def FldOk (K : PySem.W.Frag) (ok : List Str) (x : Str) : Prop := ∀ C' ∈ ok, Cls K (He.ga K C') ∧ NoAttr K (He.ga K C') x
theorem getP_one {o : Bool} {C' x : Str} {fs : List (Str × D)} {d : D} (h : fs.lookup x = some d) : getP (.ins o C' fs) [.fld x] = some d := by
  unfold getP
  simp only [h]
  exact getP_nil
theorem tp_fld {f : PF} {x : Str} {ok : List Str} {Q : VK} (hk : FldOk C.X.K ok x) (h : TP C m (pfld ok f x) σ H Q) : tFld C.X.K (TP C m f) x σ H Q := by
  obtain ⟨F, p, env, rel, i, π, e1, d0, e, eg, post⟩ := h
  unfold pfld at e
  split at e
  case h_2 => cases e
  rename_i i' π' e3 ef
  split at e
  case h_2 => cases e
  rename_i o C' fs ec
  split at e
  case isFalse => cases e
  rename_i hC
  split at e
  case h_2 => cases e
  rename_i d1 ed1
  cases e
  rw [atW_snoc ec, getP_one ed1] at eg
  cases eg
  refine ⟨F, p, env, rel, _, _, _, _, ef, ec, fun v0 v H1 F1 p1 x1 rel1 ev pa is0 => ?_⟩
  obtain ⟨q, a, dx, gs, q1, rfl, r, ow⟩ := is0
  obtain ⟨v1, q2, h1, h2, _⟩ := lookF_at r ed1
  have ha : H1 a = some (.ins (He.ga C.X.K C') dx gs) := own_at ow
  exact ⟨a, _, dx, gs, v1, rfl, ha, (hk C' hC).1, (hk C' hC).2, h1, post v1 v H1 F1 p1 x1 rel1 ev (pa.snoc (.fld ha h1 .nil)) ⟨_, h2⟩⟩
theorem p_fld {e : Expr} {f : PF} {x : Str} {ok : List Str} (hk : FldOk C.X.K ok x) (he : PE C.X e (TP C m f)) (hb : attributeBase e x C.X.env (eval e C.X.env) = eval e C.X.env := by rfl) : PE C.X (.Attribute e x pos) (TP C m (pfld ok f x)) :=
  peImp (pe_fld he hb) fun σ H Q h => tp_fld hk h
/-- an attribute of whatever is not owned -/
def φFld (ok : List Str) (x : Str) : List D → Option D
  | [.ins _ C' fs] => if C' ∈ ok then (match fs.lookup x with
    | some d => if fro d = true then some d else none
    | none => none) else none
  | _ => none
theorem x_fld {e : Expr} {o : Opd} {x : Str} {ok : List Str} (hk : FldOk C.X.K ok x) (he : PE C.X e (tO C m o)) (hb : attributeBase e x C.X.env (eval e C.X.env) = eval e C.X.env := by rfl) : PE C.X (.Attribute e x pos) (TX C m (pop (consO o nilA) (φFld ok x))) := by
  have R : RdOK C (φFld ok x) (R1 fun v H Q => ∃ a C' dx fs u, v = .ref a ∧ H a = some (.ins C' dx fs) ∧ Cls C.X.K C' ∧ NoAttr C.X.K C' x ∧ fs.lookup x = some u ∧ Q u H) := by
    intro F H ds vs d Q hs trk e h
    unfold φFld at e
    split at e
    · rename_i o' C' fs
      split at e
      · rename_i hC
        split at e
        · rename_i d' ed
          split at e
          · rename_i hf
            cases e
            obtain ⟨v, rfl, h1⟩ := iss1 hs
            obtain ⟨q, a, dx, gs, q1, rfl, r, ow⟩ := h1
            obtain ⟨v1, q2, h1, h2, _⟩ := lookF_at r ed
            have z := fro_nil hf h2
            subst z
            exact ⟨_, rfl, a, _, dx, gs, v1, rfl, own_at ow, (hk C' hC).1, (hk C' hC).2, h1, flat h h2⟩
          · cases e
        · cases e
      · cases e
    · cases e
  exact peImp (pe_fld he hb) fun σ H Q h => tO_imp (tax1 (pop_ok R h)) fun v H' ⟨x', e, z⟩ => by
    cases e
    exact z
/-! ### operations on what a way leads to -/
def popB (f : PF) (g : AF) (φ : List D → Option D) : XF := fun env => match f env with
  | some ((i, π), e1) => (match atW e1 i π with
    | some _ => (match g e1 with
      | some (.vals as, e2) => (match atW e2 i π, ress e2 as with
        | some c, some ds => (match φ (c :: ds) with
          | some d => some (.val d, e2)
          | none => none)
        | _, _ => none)
      | some (.exc c fs, e2) => some (.exc c fs, e2)
      | none => none)
    | none => none)
  | none => none
theorem popB_ok {f : PF} {g : AF} {φ : List D → Option D} {R : List V → Hp → VK → Prop} {Q : VK} (hb : Base m f) (hk : RdOK C φ R) (h : TX C m (popB f g φ) σ H Q) : TP C m f σ H fun x H1 => TAX C m g σ H1 fun vs H' => R (x :: vs) H' Q := by
  obtain ⟨F, p, env, rel, r, env', e, post⟩ := h
  unfold popB at e
  split at e
  case h_2 => cases e
  rename_i i π e1 ef
  split at e
  case h_2 => cases e
  rename_i c1 ec1
  refine ⟨F, p, env, rel, _, _, _, _, ef, ec1, fun v0 v H1 F1 p1 x1 rel1 ev pa is0 => ⟨F1, p1, e1, rel1, ?_⟩⟩
  split at e
  · rename_i as e2 eg
    refine ⟨_, _, eg, fun vs H2 F2 p2 q2 x2 rel2 ar2 ap2 => ?_⟩
    split at e
    · rename_i c ds ec ed
      split at e
      · rename_i d hd
        cases e
        have x2' : Ext m F1 H1 p1 F2 H2 p2 := x2.sub fun a h => List.mem_append_right _ h
        obtain ⟨pa2, is2⟩ := way_after (hb.nil ef) x2' rel2 ev pa ec
        refine hk F2 H2 (c :: ds) (v0 :: vs) d Q ⟨v0, vs, rfl, is2, ress_iss rel2 ar2 ed⟩ rel2.trk hd fun u H' q gr fresh nd rp => ?_
        exact post u H' F2 p2 q ((x1.trans x2').trans (Ext.grow gr fresh)) (rel2.grow gr) rp ⟨nd, fun a ha hp => rel2.there a hp (fresh a ha), fun a ha hf => rel2.trk a hf (fresh a ha)⟩
      · cases e
    · cases e
  · rename_i c fs e2 eg
    cases e
    exact ⟨_, _, eg, fun dx H2 F2 p2 x2 rel2 ed => post dx H2 F2 p2 (x1.trans x2) rel2 ed⟩
  · cases e
theorem x_binB {op : Operator} {r : R2} {φ : List D → Option D} {a b : Expr} {f : PF} {ob : Opd} (ho : OpR C.X (binaryOp op) r) (hk : RdOK C φ (R2' r)) (hb : Base m f) (ha : PE C.X a (TP C m f)) (hbb : PE C.X b (tO C m ob)) :
    PE C.X (.BinOp a op b pos) (TX C m (popB f (consO ob nilA) φ)) := peImp (pe_op ho ha hbb) fun σ H Q h => by
  obtain ⟨F, p, env, rel, i, π, e1, d0, e, eg, post⟩ := popB_ok hb hk h
  exact ⟨F, p, env, rel, i, π, e1, d0, e, eg, fun v0 v H' F' p' y1 y2 y3 y4 y5 => tO_imp (tax1 (post v0 v H' F' p' y1 y2 y3 y4 y5)) fun _ _ ⟨_, _, e, z⟩ => by
    cases e
    exact z⟩
theorem x_cmpB {op : CmpOp} {r : R2} {φ : List D → Option D} {a b : Expr} {f : PF} {ob : Opd} (ho : OpR C.X (compareOp op) r) (hk : RdOK C φ (R2' r)) (hb : Base m f) (ha : PE C.X a (TP C m f)) (hbb : PE C.X b (tO C m ob)) (hm : behindInMarks op b = false) :
    PE C.X (.Compare a [op] [b] pos) (TX C m (popB f (consO ob nilA) φ)) := peImp (pe_cmpR ho ha hbb hm) fun σ H Q h => by
  obtain ⟨F, p, env, rel, i, π, e1, d0, e, eg, post⟩ := popB_ok hb hk h
  exact ⟨F, p, env, rel, i, π, e1, d0, e, eg, fun v0 v H' F' p' y1 y2 y3 y4 y5 => tO_imp (tax1 (post v0 v H' F' p' y1 y2 y3 y4 y5)) fun _ _ ⟨_, _, e, z⟩ => by
    cases e
    exact z⟩
theorem t_cmpB {op : CmpOp} {r : R2} {φ : List D → Option D} {a b : Expr} {f : PF} {ob : Opd} (ho : OpR C.X (compareOp op) r) (hk : RdOK C φ (R2' r)) (hb : Base m f) (ha : PE C.X a (TP C m f)) (hbb : PE C.X b (tO C m ob)) (hm : behindInMarks op b = false) :
    PT C.X (.Compare a [op] [b] pos) (TTX C m (popB f (consO ob nilA) φ)) := ptImp (pt_cmpR ho ha hbb hm) fun σ H Q h => by
  obtain ⟨F, p, env, rel, i, π, e1, d0, e, eg, post⟩ := popB_ok hb hk h
  exact ⟨F, p, env, rel, i, π, e1, d0, e, eg, fun v0 v H' F' p' y1 y2 y3 y4 y5 => tO_imp (tax1 (post v0 v H' F' p' y1 y2 y3 y4 y5)) fun _ _ ⟨_, _, e, z⟩ => by
    cases e
    exact z⟩
theorem x_ixB {r : R2} {φ : List D → Option D} {a b : Expr} {f : PF} {ob : Opd} (ho : IxR C.X r) (hk : RdOK C φ (R2' r)) (hb : Base m f) (ha : PE C.X a (TP C m f)) (hbb : PE C.X b (tO C m ob)) (hp : PlainIx b) :
    PE C.X (.Subscript a b pos) (TX C m (popB f (consO ob nilA) φ)) := peImp (pe_ix ho ha hbb hp) fun σ H Q h => by
  obtain ⟨F, p, env, rel, i, π, e1, d0, e, eg, post⟩ := popB_ok hb hk h
  exact ⟨F, p, env, rel, i, π, e1, d0, e, eg, fun v0 v H' F' p' y1 y2 y3 y4 y5 => tO_imp (tax1 (post v0 v H' F' p' y1 y2 y3 y4 y5)) fun _ _ ⟨_, _, e, z⟩ => by
    cases e
    exact z⟩
/-- a built-in called with what a way leads to -/
theorem x_callBB {id : String} {r : List V → Hp → VK → Prop} {φ : List D → Option D} {x : Str} {px : Pos} {e : Expr} {f : PF} (hc : CallR C.X (.builtin id) r) (hk : RdOK C φ r) (hb : Base m f) (hg : Gl C.X x) (hm : C.X.mg x = none) (hv : bootBuiltins x = some (.builtin id)) (ha : PE C.X e (TP C m f)) (hn : x ≠ "__name__" := by decide) (hdb : (x == ("__debug__" : Str)) = false := by decide)
    (he : starEach [e] C.X.env = (false, eval e C.X.env) :: starEach [] C.X.env := by rfl) (hpl : (backTo pos (starEach [] C.X.env)).any (·.1) = false := by rfl) : PE C.X (.Call (.Name x px) [e] [] pos) (TX C m (popB f nilA φ)) :=
  peImp (pe_callB hc hg hm hv (pa_cons ha pa_nil he) hn hdb he hpl) fun σ H Q h => by
    obtain ⟨F, p, env, rel, i, π, e1, d0, e, eg, post⟩ := popB_ok hb hk h
    exact ⟨F, p, env, rel, i, π, e1, d0, e, eg, fun v0 v H' F' p' y1 y2 y3 y4 y5 => tax_nil (post v0 v H' F' p' y1 y2 y3 y4 y5)⟩
theorem x_callTB {id : String} {r : List V → Hp → VK → Prop} {φ : List D → Option D} {x : Str} {px : Pos} {e : Expr} {f : PF} (hc : CallR C.X (.type id) r) (hk : RdOK C φ r) (hb : Base m f) (hg : Gl C.X x) (hm : C.X.mg x = none) (hv : bootBuiltins x = some (.type id)) (ha : PE C.X e (TP C m f)) (hn : x ≠ "__name__" := by decide) (hdb : (x == ("__debug__" : Str)) = false := by decide)
    (he : starEach [e] C.X.env = (false, eval e C.X.env) :: starEach [] C.X.env := by rfl) (hpl : (backTo pos (starEach [] C.X.env)).any (·.1) = false := by rfl) : PE C.X (.Call (.Name x px) [e] [] pos) (TX C m (popB f nilA φ)) :=
  peImp (pe_callTy hc hg hm hv (pa_cons ha pa_nil he) hn hdb he hpl) fun σ H Q h => by
    obtain ⟨F, p, env, rel, i, π, e1, d0, e, eg, post⟩ := popB_ok hb hk h
    exact ⟨F, p, env, rel, i, π, e1, d0, e, eg, fun v0 v H' F' p' y1 y2 y3 y4 y5 => tax_nil (post v0 v H' F' p' y1 y2 y3 y4 y5)⟩
end
end DL

namespace DL
open PySem PySem.Spec PyProof.Rows L2
section
variable {C : Ctx} {m : Bool} {F F1 F' : FS} {H H1 H' : Hp} {p p1 p' q r : List Addr} {σ : St} {env : Env} {En : Ends} {pos : Pos}
/-! ### what changes an object in place -/
def MutOK (C : Ctx) (μ : D → List D → Option (D × D)) (R : V → List V → Hp → VK → Prop) : Prop :=
  ∀ (F : FS) (H : Hp) (d0 d1 d2 : D) (v0 : V) (q qa : List Addr) (ds : List D) (vs : List V) (Q : VK), C.rep F H d0 v0 q → C.reps F H ds vs qa → (q ++ qa).Nodup → (∀ a ∈ q ++ qa, ¬ F a) → (∀ a, F a → H a ≠ none) → μ d0 ds = some (d1, d2) →
    (∀ v H' q1 q2, Ext true F H (q ++ qa) F H' (q1 ++ q2) → (∀ T, LamX.Tabs T H → LamX.Tabs T H') → C.rep F H' d1 v0 q1 → C.rep F H' d2 v q2 → (q1 ++ q2).Nodup → Q v H') → R v0 vs H Q
theorem MutOK.or {μ1 μ2 : D → List D → Option (D × D)} {r1 r2 : V → List V → Hp → VK → Prop} (h1 : MutOK C μ1 r1) (h2 : MutOK C μ2 r2) : MutOK C (fun d ds => match μ1 d ds with
    | some z => some z
    | none => μ2 d ds) (fun x vs H Q => r1 x vs H Q ∨ r2 x vs H Q) := by
  intro F H d0 d1 d2 v0 q qa ds vs Q a1 a2 a3 a4 a5 e h
  have e : (match μ1 d0 ds with
    | some z => some z
    | none => μ2 d0 ds) = some (d1, d2) := e
  split at e
  · rename_i z ez
    cases e
    exact .inl (h1 F H d0 d1 d2 v0 q qa ds vs Q a1 a2 a3 a4 a5 ez h)
  · exact .inr (h2 F H d0 d1 d2 v0 q qa ds vs Q a1 a2 a3 a4 a5 e h)
def modW (e : Env) (i : Nat) (π : List Stp) (f : D → Option (D × D)) : Option (D × Env) := match e[i]? with
  | some (some d) => (modP d π f).map fun z => (z.2, e.set i (some z.1))
  | _ => none
def xmut (f : PF) (g : AF) (μ : D → List D → Option (D × D)) : XF := fun env => match f env with
  | some ((i, π), e1) => (match atW e1 i π with
    | some _ => (match g e1 with
      | some (.vals as, e2) => (match tmps as with
        | some ds => (match modW e2 i π fun c => μ c ds with
          | some (d, e3) => some (.val d, e3)
          | none => none)
        | none => none)
      | some (.exc c fs, e2) => some (.exc c fs, e2)
      | none => none)
    | none => none)
  | none => none
theorem Ext.wide {P P' : List Addr} (x : Ext m F H p F' H' p') (h1 : ∀ a ∈ p, a ∈ P) (h2 : ∀ a ∈ P', a ∈ p' ∨ a ∈ P) : Ext m F H P F' H' P' :=
  ⟨x.mono, fun a o e nt z => x.keep a o e nt fun hm y => z hm (h1 a y), x.there, fun a z => (x.new a z).elim .inl fun z => z.elim (fun z => .inr (.inl (h1 a z))) fun n => .inr (.inr n), fun a z => (h2 a z).elim (fun z => (x.own a z).elim (fun z => .inl (h1 a z)) .inr) .inl⟩
/-- a part of a slot's data changed -/
theorem Rel.modW {R : V → List V → Hp → VK → Prop} {μ : D → List D → Option (D × D)} {i : Nat} {π : List Stp} {e' : Env} {ds : List D} {vs : List V} {qa : List Addr} {d2 : D} {v v0 : V} {Q : VK} (hμ : MutOK C μ R) (rel : Rel C env σ F H p) (ev : σ[i]? = some (some v)) (pa : PathAt C.X.prog C.X.w C.X.K H v π v0)
    (rp : C.reps F H ds vs qa) (ap : Apart F qa p) (e : DL.modW env i π (fun c => μ c ds) = some (d2, e'))
    (h : ∀ u H' p' q2, Ext true F H (qa ++ p) F H' (q2 ++ p') → Rel C e' σ F H' p' → C.rep F H' d2 u q2 → Apart F q2 p' → Q u H') : R v0 vs H Q := by
  unfold DL.modW at e
  split at e
  · rename_i d ed
    obtain ⟨⟨d', e2⟩, em, ez⟩ := Option.map_eq_some_iff.mp e
    cases ez
    obtain ⟨v', l, q, r0, h1, h2, h3, h4, h5⟩ := repE_at rel.slots ed
    rw [ev] at h1
    cases h1
    obtain ⟨d0, d1, v0', l1, q1, r1, g1, g2, g3, g4, g5⟩ := rep_hole (C := C) h2 em
    have e0 := pa.inj g1
    subst e0
    have nd := rel.nd
    rw [h3] at nd
    obtain ⟨n1, n2, n3⟩ := List.nodup_append.mp nd
    obtain ⟨n4, n5, n6⟩ := List.nodup_append.mp n2
    rw [g4] at n4
    obtain ⟨n7, n8, n9⟩ := List.nodup_append.mp n4
    obtain ⟨n10, n11, n12⟩ := List.nodup_append.mp n8
    have subq : ∀ a ∈ q, a ∈ p := fun a h => by rw [h3]; exact List.mem_append_right _ (List.mem_append_left _ h)
    have subq1 : ∀ a ∈ q1, a ∈ q := fun a h => by rw [g4]; exact List.mem_append_right _ (List.mem_append_left _ h)
    have subl1 : ∀ a ∈ l1, a ∈ q := fun a h => by rw [g4]; exact List.mem_append_left _ h
    have subr1 : ∀ a ∈ r1, a ∈ q := fun a h => by rw [g4]; exact List.mem_append_right _ (List.mem_append_right _ h)
    refine hμ F H d0 d1 _ v0 q1 qa ds vs Q g2 rp (List.nodup_append.mpr ⟨n10, ap.nd, fun a ha b hb eb => ap.dis b hb (by rw [← eb]; exact subq a (subq1 a ha))⟩) (fun a h => (List.mem_append.mp h).elim (fun h => rel.dis a (subq a (subq1 a h))) (ap.fr a)) rel.trk g3 fun u H' q2 qr x tabs rd ru nd' => ?_
    obtain ⟨m1, m2, m3⟩ := List.nodup_append.mp nd'
    have ow : ∀ a ∈ q1 ++ qa, ∃ o, H a = some o ∧ Ow o := fun a h => (List.mem_append.mp h).elim (rep_there g2 a) (reps_there rp a)
    have nF : ∀ a ∈ q1 ++ qa, ¬ F a := fun a h => (List.mem_append.mp h).elim (fun h => rel.dis a (subq a (subq1 a h))) (ap.fr a)
    have trk' : ∀ a, F a → H' a ≠ none := fun a h => x.there a (rel.trk a h)
    -- beside the part
    have sep : ∀ a ∈ l1 ++ r1, a ∉ q1 ++ qa := fun a ha h => by
      rcases List.mem_append.mp h with h | h
      · rcases List.mem_append.mp ha with ha | ha
        · exact n9 a ha a (List.mem_append_left _ h) rfl
        · exact n12 a h a ha rfl
      · exact ap.dis a h (subq a ((List.mem_append.mp ha).elim (subl1 a) (subr1 a)))
    have st : Stab F F H H' (l1 ++ r1) := x.stab nF ow fun _ => sep
    have z := g5 F H' q2 st rd
    have thr : ∀ a ∈ l1 ++ r1, H a ≠ none := fun a ha => rel.there a (subq a ((List.mem_append.mp ha).elim (subl1 a) (subr1 a)))
    have apart : ∀ a ∈ l1 ++ r1, a ∉ q2 ++ qr := fun a ha h => (x.own a h).elim (sep a ha) (thr a ha)
    have X : Ext true F H (q ++ qa) F H' (qr ++ (l1 ++ (q2 ++ r1))) := x.wide (fun a h => (List.mem_append.mp h).elim (fun h => List.mem_append_left _ (subq1 a h)) fun h => List.mem_append_right _ h) fun a h => by
      rcases List.mem_append.mp h with h | h
      · exact .inl (List.mem_append_right _ h)
      · rcases List.mem_append.mp h with h | h
        · exact .inr (List.mem_append_left _ (subl1 a h))
        · rcases List.mem_append.mp h with h | h
          · exact .inl (List.mem_append_left _ h)
          · exact .inr (List.mem_append_left _ (subr1 a h))
    have ow2 : ∀ a ∈ q ++ qa, ∃ o, H a = some o ∧ Ow o := fun a h => (List.mem_append.mp h).elim (rep_there h2 a) (reps_there rp a)
    have nd2 : (qr ++ (l1 ++ (q2 ++ r1))).Nodup := by
      refine List.nodup_append.mpr ⟨m2, List.nodup_append.mpr ⟨n7, List.nodup_append.mpr ⟨m1, n11, fun a ha b hb eb => ?_⟩, fun a ha b hb eb => ?_⟩, fun a ha b hb eb => ?_⟩
      · exact apart b (List.mem_append_right _ hb) (by rw [← eb]; exact List.mem_append_left _ ha)
      · rcases List.mem_append.mp hb with hb | hb
        · exact apart a (List.mem_append_left _ ha) (by rw [eb]; exact List.mem_append_left _ hb)
        · exact n9 a ha b (List.mem_append_right _ hb) eb
      · rcases List.mem_append.mp hb with hb | hb
        · exact apart b (List.mem_append_left _ hb) (by rw [← eb]; exact List.mem_append_right _ ha)
        · rcases List.mem_append.mp hb with hb | hb
          · exact m3 b hb a ha eb.symm
          · exact apart b (List.mem_append_right _ hb) (by rw [← eb]; exact List.mem_append_right _ ha)
    have nF2 : ∀ a ∈ qr ++ (l1 ++ (q2 ++ r1)), ¬ F a := fun a h hf => (X.own a h).elim (fun h => (List.mem_append.mp h).elim (fun h => rel.dis a (subq a h) hf) fun h => ap.fr a h hf) (rel.trk a hf)
    obtain ⟨y1, y2, y3⟩ := rel.lent ev h3 h5 ap X ow2 (tabs _ rel.tabs) trk' z nd2 nF2
    exact h u H' _ qr y1 y2 ru ⟨m2, y3, fun a h => nF2 a (List.mem_append_left _ h)⟩
  · cases e
theorem tx_mut {f : PF} {g : AF} {μ : D → List D → Option (D × D)} {R : V → List V → Hp → VK → Prop} {Q : VK} (hb : Base m f) (hμ : MutOK C μ R) (h : TX C true (xmut f g μ) σ H Q) : TP C m f σ H fun x H1 => TAX C m g σ H1 fun vs H' => R x vs H' Q := by
  obtain ⟨F, p, env, rel, r, env', e, post⟩ := h
  unfold xmut at e
  split at e
  case h_2 => cases e
  rename_i i π e1 ef
  split at e
  case h_2 => cases e
  rename_i c1 ec1
  refine ⟨F, p, env, rel, _, _, _, _, ef, ec1, fun v0 v H1 F1 p1 x1 rel1 ev pa is0 => ⟨F1, p1, e1, rel1, ?_⟩⟩
  split at e
  · rename_i as e2 eg
    refine ⟨_, _, eg, fun vs H2 F2 p2 q2 x2 rel2 ar2 ap2 => ?_⟩
    split at e
    · rename_i ds ed
      split at e
      · rename_i d e3 em
        cases e
        have x2' : Ext m F1 H1 p1 F2 H2 p2 := x2.sub fun a h => List.mem_append_right _ h
        have pa2 : PathAt C.X.prog C.X.w C.X.K H2 v π v0 := by
          cases m with
          | true =>
            have e := hb.nil ef rfl
            subst e
            cases pa
            exact .nil
          | false => exact pa.mono fun a o e nt => x2.keep a o e nt fun h => by cases h
        exact rel2.modW hμ ev pa2 (arP_reps ed ar2) ap2 em fun u H' p' q' x3 rel3 ru ap3 => post u H' F2 p' q' ((x1.any.trans x2.any).trans x3) rel3 ru ap3
      · cases e
    · cases e
  · rename_i c fs e2 eg
    cases e
    exact ⟨_, _, eg, fun dx H2 F2 p2 x2 rel2 ed => post dx H2 F2 p2 (x1.any.trans x2.any) rel2 ed⟩
  · cases e
/-! ### the methods of lists -/
def μAppend : D → List D → Option (D × D)
  | .lst true xs, [d] => if xs.length < SZ then some (.lst true (xs ++ [d]), .non) else none
  | _, _ => none
def μPop : D → List D → Option (D × D)
  | .lst true xs, [] => (match xs[xs.length - 1]? with
    | some d => some (.lst true xs.dropLast, d)
    | none => none)
  | _, _ => none
def μPopAt : D → List D → Option (D × D)
  | .lst true xs, [.int i] => if -(2 ^ 63) ≤ i ∧ i < 2 ^ 63 then (match seqIndex? i xs.length with
    | some k => (match xs[k]? with
      | some d => some (.lst true (xs.eraseIdx k), d)
      | none => none)
    | none => none) else none
  | _, _ => none
def μExtend : D → List D → Option (D × D)
  | .lst true xs, [.lst _ ys] => if xs.length + ys.length ≤ SZ ∧ ys.all fro = true then some (.lst true (xs ++ ys), .non) else none
  | _, _ => none
theorem lst_own {xs : List D} {v : V} (h : C.rep F H (.lst true xs) v q) : ∃ a vs q1, v = .ref a ∧ C.reps F H xs vs q1 ∧ H a = some (.lst vs) ∧ q = a :: q1 := by
  obtain ⟨a, vs, q1, e, r, ow⟩ := h
  exact ⟨a, vs, q1, e, r, ow.1, ow.2⟩
theorem tabs_lst {a : Addr} {vs : List V} {o : HO} (h : H a = some (.lst vs)) : ∀ T, LamX.Tabs T H → LamX.Tabs T (upd H a o) := fun T t => tabs_upd t h free_lst
/-- a list is changed: what it holds stays -/
theorem stab_mut {a : Addr} {o o' : HO} (h : H a = some o) (f : Free o) (hp : a ∉ p) (hF : ¬ F a) : Stab F F H (upd H a o') p := ⟨fun _ h => h, fun b u e _ z => by
    rw [upd_ne fun e2 => ?_]
    · exact e
    · subst e2
      rcases z with z | z | ⟨xs, z⟩
      · exact hF z
      · exact hp z
      · rw [h] at e
        cases e
        exact f.tup xs z⟩
theorem ok_append : MutOK C μAppend rAppend := by
  intro F H d0 d1 d2 v0 q qa ds vs Q rp rps nd nF trk e h
  unfold μAppend at e
  split at e
  · rename_i xs d
    split at e
    · rename_i hl
      cases e
      obtain ⟨a, us, q1, rfl, rx, ha, rfl⟩ := lst_own rp
      obtain ⟨y, rfl, ry⟩ := reps_one rps
      have na : a ∉ q1 ++ qa := (List.nodup_cons.mp nd).1
      have st : Stab F F H (upd H a (.lst (us ++ [y]))) (q1 ++ qa) := stab_mut ha free_lst na (nF a List.mem_cons_self)
      refine ⟨a, us, y, rfl, rfl, ha, by rw [← reps_len rx, sizeLine_eq]; exact hl, ?_⟩
      refine h .non _ (a :: (q1 ++ qa)) [] ?_ (tabs_lst ha) ⟨a, us ++ [y], q1 ++ qa, rfl, reps_append (reps_mono rx st.left) ⟨y, [], qa, [], rfl, rep_mono ry st.right, ⟨rfl, rfl⟩, (List.append_nil _).symm⟩, upd_same, rfl⟩ ⟨rfl, rfl⟩ (by rw [List.append_nil]; exact nd)
      exact (Ext.mut (by simp) (by rw [ha]; intro z; cases z)).sub fun b hb => by simpa using hb
    · cases e
  · cases e
theorem reps_dropLast : ∀ {ds : List D} {vs : List V} {q : List Addr} {d : D}, C.reps F H ds vs q → ds[ds.length - 1]? = some d → ∃ v q1 q2, vs[vs.length - 1]? = some v ∧ q = q1 ++ q2 ∧ C.reps F H ds.dropLast vs.dropLast q1 ∧ C.rep F H d v q2
  | [], _, _, d, _, e => by cases e
  | [d0], _, _, d, ⟨v, ws, q, r, e1, x1, x2, hq⟩, e => by
    obtain ⟨rfl, rfl⟩ := x2
    subst e1 hq
    cases e
    exact ⟨v, [], q, rfl, by simp, ⟨rfl, rfl⟩, x1⟩
  | d0 :: d1 :: ds, _, _, d, ⟨v, ws, q, r, e1, x1, x2, hq⟩, e => by
    subst e1 hq
    obtain ⟨v', q1, q2, h1, h2, h3, h4⟩ := reps_dropLast x2 (show (d1 :: ds)[(d1 :: ds).length - 1]? = some d by simpa using e)
    have hl : ws ≠ [] := by
      obtain ⟨_, _, _, _, e, _⟩ := x2
      rw [e]
      intro z
      cases z
    obtain ⟨w0, ws', rfl⟩ : ∃ w0 ws', ws = w0 :: ws' := by
      cases ws with
      | nil => exact absurd rfl hl
      | cons w0 ws' => exact ⟨w0, ws', rfl⟩
    refine ⟨v', q ++ q1, q2, by simpa using h1, by rw [h2, List.append_assoc], ?_, h4⟩
    exact ⟨v, _, q, q1, rfl, x1, h3, rfl⟩
theorem ok_pop : MutOK C μPop rPop := by
  intro F H d0 d1 d2 v0 q qa ds vs Q rp rps nd nF trk e h
  unfold μPop at e
  split at e
  · rename_i xs
    split at e
    · rename_i d hd
      cases e
      obtain ⟨a, us, q1, rfl, rx, ha, rfl⟩ := lst_own rp
      obtain ⟨rfl, rfl⟩ := rps
      obtain ⟨y, q2, q3, h1, h2, h3, h4⟩ := reps_dropLast rx hd
      subst h2
      rw [List.append_nil] at nd nF h
      have na : a ∉ q2 ++ q3 := (List.nodup_cons.mp nd).1
      have st : Stab F F H (upd H a (.lst us.dropLast)) (q2 ++ q3) := stab_mut ha free_lst na (nF a List.mem_cons_self)
      refine ⟨a, us, y, rfl, rfl, ha, h1, ?_⟩
      refine h y _ (a :: q2) q3 ?_ (tabs_lst ha) ⟨a, us.dropLast, q2, rfl, reps_mono h3 st.left, upd_same, rfl⟩ (rep_mono h4 st.right) nd
      exact (Ext.mut (by simp) (by rw [ha]; intro z; cases z)).sub fun b hb => by simpa using hb
    · cases e
  · cases e
theorem reps_erase : ∀ {ds : List D} {vs : List V} {q : List Addr} {k : Nat} {d : D}, C.reps F H ds vs q → ds[k]? = some d → ∃ v l q' r, vs[k]? = some v ∧ q = l ++ (q' ++ r) ∧ C.reps F H (ds.eraseIdx k) (vs.eraseIdx k) (l ++ r) ∧ C.rep F H d v q'
  | [], _, _, k, d, _, e => by cases e
  | d0 :: ds, _, _, 0, d, ⟨v, ws, q, r, e1, x1, x2, hq⟩, e => by
    subst e1 hq
    cases e
    exact ⟨v, [], q, r, rfl, rfl, x2, x1⟩
  | d0 :: ds, _, _, k + 1, d, ⟨v, ws, q, r, e1, x1, x2, hq⟩, e => by
    subst e1 hq
    obtain ⟨v', l, q', r', h1, h2, h3, h4⟩ := reps_erase (k := k) x2 (by simpa using e)
    exact ⟨v', q ++ l, q', r', by simpa using h1, by rw [h2, List.append_assoc], ⟨v, _, q, _, rfl, x1, h3, by rw [List.append_assoc]⟩, h4⟩
theorem ok_popAt : MutOK C μPopAt rPopAt := by
  intro F H d0 d1 d2 v0 q qa ds vs Q rp rps nd nF trk e h
  unfold μPopAt at e
  split at e
  · rename_i xs i
    split at e
    · rename_i hi
      split at e
      · rename_i k hk
        split at e
        · rename_i d hd
          cases e
          obtain ⟨a, us, q1, rfl, rx, ha, rfl⟩ := lst_own rp
          have ev := reps_int1 rps
          obtain ⟨y, ey, ry⟩ := reps_one rps
          have eq := ry.2
          subst eq
          subst ev
          obtain ⟨y, l, q', r, h1, h2, h3, h4⟩ := reps_erase rx hd
          subst h2
          rw [List.append_nil] at nd nF h
          have na : a ∉ l ++ (q' ++ r) := (List.nodup_cons.mp nd).1
          have st : Stab F F H (upd H a (.lst (us.eraseIdx k))) (l ++ (q' ++ r)) := stab_mut ha free_lst na (nF a List.mem_cons_self)
          refine ⟨a, us, i, k, y, rfl, rfl, ha, hi.1, hi.2, by rw [← reps_len rx]; exact hk, h1, ?_⟩
          obtain ⟨n0, n⟩ := List.nodup_cons.mp nd
          obtain ⟨n1, n2, n3⟩ := List.nodup_append.mp n
          obtain ⟨n4, n5, n6⟩ := List.nodup_append.mp n2
          refine h y _ (a :: (l ++ r)) q' ?_ (tabs_lst ha) ⟨a, _, l ++ r, rfl, reps_mono h3 (st.sub fun b hb => by rcases List.mem_append.mp hb with hb | hb <;> simp [hb]), upd_same, rfl⟩ (rep_mono h4 (st.sub fun b hb => by simp [hb])) ?_
          · refine (Ext.mut (by simp) (by rw [ha]; intro z; cases z)).sub fun b hb => ?_
            have : b = a ∨ b ∈ l ∨ b ∈ r ∨ b ∈ q' := by simpa [or_assoc] using hb
            rcases this with hb | hb | hb | hb <;> simp [hb]
          · refine List.nodup_append.mpr ⟨List.nodup_cons.mpr ⟨fun hb => n0 ?_, List.nodup_append.mpr ⟨n1, n5, fun b hb c hc ec => n3 b hb c (List.mem_append_right _ hc) ec⟩⟩, n4, fun b hb c hc ec => ?_⟩
            · rcases List.mem_append.mp hb with hb | hb <;> simp [hb]
            · subst ec
              rcases List.mem_cons.mp hb with rfl | hb
              · exact n0 (by simp [hc])
              · rcases List.mem_append.mp hb with hb | hb
                · exact n3 b hb b (List.mem_append_left _ hc) rfl
                · exact n6 b hc b hb rfl
        · cases e
      · cases e
    · cases e
  · cases e
theorem ok_extend : MutOK C μExtend rExtend := by
  intro F H d0 d1 d2 v0 q qa ds vs Q rp rps nd nF trk e h
  unfold μExtend at e
  split at e
  · rename_i xs o ys
    split at e
    · rename_i hl
      cases e
      obtain ⟨a, us, q1, rfl, rx, ha, rfl⟩ := lst_own rp
      obtain ⟨y, rfl, ry⟩ := reps_one rps
      obtain ⟨b, ws, q2, rfl, hb, rb, _⟩ := is_lst ⟨_, ry⟩
      have z := reps_fro hl.2 rb
      subst z
      have na : a ∉ q1 ++ qa := (List.nodup_cons.mp nd).1
      have st : Stab F F H (upd H a (.lst (us ++ ws))) (q1 ++ qa) := stab_mut ha free_lst na (nF a List.mem_cons_self)
      refine ⟨a, b, us, ws, rfl, rfl, ha, hb, by rw [← reps_len rx, ← reps_len rb, sizeLine_eq]; exact hl.1, ?_⟩
      refine h .non _ (a :: q1) [] ?_ (tabs_lst ha) ⟨a, us ++ ws, q1, rfl, ?_, upd_same, rfl⟩ ⟨rfl, rfl⟩ ?_
      · refine (Ext.mut (by simp) (by rw [ha]; intro z; cases z)).sub fun c hc => ?_
        have : c = a ∨ c ∈ q1 := by simpa using hc
        rcases this with hc | hc <;> simp [hc]
      · have z := reps_append (reps_mono rx st.left) (reps_mono rb (st.sub (q := []) fun _ h => by cases h))
        rw [List.append_nil] at z
        exact z
      · rw [List.append_nil]
        have n := (List.nodup_append.mp nd).1
        exact n
    · cases e
  · cases e
/-! ### the call of a method of a built-in type -/
def ckT (T : String) : D → Bool
  | .str _ => decide (T = "str")
  | .int _ => decide (T = "int")
  | .lst _ _ => decide (T = "list")
  | .dic _ _ => decide (T = "dict")
  | _ => false
def tyD (K : PySem.W.Frag) (T : String) (x : V) (H : Hp) : Prop := tyV K T x H ∨ (T = "dict" ∧ ∃ a od, x = .ref a ∧ H a = some (objO a od) ∧ od.ExactDict)
theorem tyD_is {X : Cx} {pins : List (Addr × Obj)} {σ : L2.St} {H : Hp} {s : Shared} {T : String} {x : V} {v : Value} (I : Inv X pins σ H s) (r : RelV x v) (ty : tyD X.K T x H) :
    s.TypeIs v T ∧ ∀ a, v = .ref a → ∃ ob, s.heap.get? a = some ob ∧ ob.dict = none := by
  rcases ty with ty | ⟨rfl, a, od, rfl, ha, hx⟩
  · exact tyV_is I r ty
  · cases r
    have g := obj_at I ha
    exact ⟨⟨od, g, hx.1⟩, fun b e => by cases e; exact ⟨od, g, hx.2.1⟩⟩
theorem ck_ty {T : String} {d : D} {v : V} (h : is C F H d v) (e : ckT T d = true) : tyD C.X.K T v H := by
  cases d with
  | str x => rw [is_str h]; exact .inl (by unfold ckT at e; simpa [tyV] using e)
  | int x => rw [is_int h]; exact .inl (by unfold ckT at e; simpa [tyV] using e)
  | lst o xs =>
    obtain ⟨a, vs, q, rfl, ha, _⟩ := is_lst h
    exact .inl (.inl ⟨by unfold ckT at e; simpa using e, vs, SqL.of ha⟩)
  | dic o kvs =>
    obtain ⟨q, h⟩ := h
    obtain ⟨a, od, es, ks, vs, q1, rfl, ow, ⟨_, ha, hx, _⟩, _⟩ := dic_ents h
    exact .inr ⟨by unfold ckT at e; simpa using e, a, od, rfl, ha, hx⟩
  | _ => cases e
def ckP (T : String) (f : PF) : PF := fun env => match f env with
  | some ((i, π), e1) => (match atW e1 i π with
    | some c => if ckT T c = true then some ((i, π), e1) else none
    | none => none)
  | none => none
def ckX (T : String) (f : XF) : XF := fun env => match f env with
  | some (.val d, e1) => if ckT T d = true then some (.val d, e1) else none
  | r => r
theorem base_ck {T : String} {f : PF} (b : Base m f) : Base m (ckP T f) := fun hm env e1 i π e => by
  unfold ckP at e
  split at e
  · rename_i i' π' e1' ef
    split at e
    · split at e
      · cases e; exact b hm _ _ _ _ ef
      · cases e
    · cases e
  · cases e
theorem tp_ck {T : String} {f : PF} {Q : VK} (h : TP C m (ckP T f) σ H Q) : TP C m f σ H fun x H1 => tyD C.X.K T x H1 ∧ Q x H1 := by
  obtain ⟨F, p, env, rel, i, π, e1, d0, e, eg, post⟩ := h
  unfold ckP at e
  split at e
  · rename_i i' π' e1' ef
    split at e
    · rename_i c ec
      split at e
      · rename_i hc
        cases e
        rw [ec] at eg
        cases eg
        exact ⟨F, p, env, rel, _, _, _, _, ef, ec, fun v0 v H' F' p' x1 x2 x3 x4 x5 => ⟨ck_ty x5 hc, post v0 v H' F' p' x1 x2 x3 x4 x5⟩⟩
      · cases e
    · cases e
  · cases e
theorem tx_ck {T : String} {f : XF} {Q : VK} (h : TX C m (ckX T f) σ H Q) : TX C m f σ H fun x H1 => tyD C.X.K T x H1 ∧ Q x H1 := by
  obtain ⟨F, p, env, rel, r, env', e, post⟩ := h
  refine ⟨F, p, env, rel, ?_⟩
  unfold ckX at e
  split at e
  · rename_i d e1 ef
    split at e
    · rename_i hc
      cases e
      exact ⟨_, _, ef, fun v H' F' p' q x1 x2 x3 x4 => ⟨ck_ty ⟨_, x3⟩ hc, post v H' F' p' q x1 x2 x3 x4⟩⟩
    · cases e
  · rename_i hn
    cases r with
    | val d => exact absurd e (hn _ _)
    | exc c fs => exact ⟨_, _, e, post⟩
section
variable {X : Cx} {o e : Expr} {es : List Expr} {to : TE} {t : TA} {name : Str} {apos cpos : Pos} {T id : String} {r : V → List V → Hp → VK → Prop}
theorem pe_bmD0 (pa : PlainAttrs T) (slot : Slot T name id) (hty : typeOf (.builtin id) = pure (.type "method_descriptor")) (hm : MtR X id r) (ho : PE X o to)
    (hbase : attributeBase o name X.env (eval o X.env) = eval o X.env := by rfl) (hline : (apos.endLine == cpos.line) = true := by rfl) : PE X (.Call (.Attribute o name apos) [] [] cpos) (fun σ H Q => to σ H fun x H1 => tyD X.K T x H1 ∧ r x [] H1 Q) := by
  refine ⟨fun pins s σ H Q I h => ?_⟩
  refine wpAny_Call_method0_late hbase hline (thn (ho.run pins s σ H _ I h) fun v s1 ⟨x, H1, I1, r1, ty, q1⟩ => ?_)
  obtain ⟨h1, h2⟩ := tyD_is I1 r1 ty
  exact ⟨T, id, pa, slot, hty, h1, h2, Calls.callWith_builtin rfl (PySem.evalArgs_none (hm pins s1 σ H1 x [] v [] Q I1 r1 .nil q1))⟩
theorem pe_bmD (pa : PlainAttrs T) (slot : Slot T name id) (hty : typeOf (.builtin id) = pure (.type "method_descriptor")) (hm : MtR X id r) (ho : PE X o to) (ha : PA X (e :: es) t)
    (hbase : attributeBase o name X.env (eval o X.env) = eval o X.env := by rfl)
    (hfew : ((backTo cpos (starEach (e :: es) X.env)).all (fun x => !x.1) && (backToKw cpos (keywordEach [] X.env)).all (fun x => x.1.isSome)
      && decide ((e :: es).length + ([] : List Keyword).length + (if ([] : List Keyword).isEmpty then 0 else 1) < 30)) = true := by rfl)
    (hline : (apos.endLine == cpos.line) = true := by rfl) (hs : starEach (e :: es) X.env = (false, eval e X.env) :: starEach es X.env := by rfl) (hplain : (backTo cpos (starEach es X.env)).any (·.1) = false := by rfl) :
    PE X (.Call (.Attribute o name apos) (e :: es) [] cpos) (fun σ H Q => to σ H fun x H1 => tyD X.K T x H1 ∧ t σ H1 fun xs H2 => r x xs H2 Q) := by
  refine ⟨fun pins s σ H Q I h => ?_⟩
  refine wpAny_Call_method_late hbase hfew hline rfl (thn (ho.run pins s σ H _ I h) fun v s1 ⟨x, H1, I1, r1, ty, q1⟩ => ?_)
  obtain ⟨h1, h2⟩ := tyD_is I1 r1 ty
  refine ⟨T, id, pa, slot, hty, h1, h2, ?_⟩
  have hA := ha.run cpos pins s1 σ H1 _ I1 q1
  rw [hs] at hA ⊢
  refine Calls.callWith_builtin (by show (false || (backTo cpos (starEach es X.env)).any (·.1)) = false; rw [hplain] <;> rfl) (Calls.evalArgs_plain ?_)
  exact thn hA fun us s2 ⟨vs, H2, I2, r2, q2⟩ => hm pins s2 σ H2 x vs v us Q I2 r1 r2 q2
end
section
variable {o e : Expr} {es : List Expr} {name : Str} {apos cpos : Pos} {T id : String} {R : V → List V → Hp → VK → Prop} {f : PF} {fx : XF} {g : AF} {μ : D → List D → Option (D × D)} {φ : List D → Option D}
abbrev RM (R : V → List V → Hp → VK → Prop) : List V → Hp → VK → Prop := fun vs H Q => ∃ x ys, vs = x :: ys ∧ R x ys H Q
theorem x_mut1 (pa : PlainAttrs T) (slot : Slot T name id) (hty : typeOf (.builtin id) = pure (.type "method_descriptor")) (hm : MtR C.X id R) (hμ : MutOK C μ R) (hb : Base m f) (ho : PE C.X o (TP C m f)) (ha : PA C.X (e :: es) (TAX C m g))
    (hbase : attributeBase o name C.X.env (eval o C.X.env) = eval o C.X.env := by rfl)
    (hfew : ((backTo cpos (starEach (e :: es) C.X.env)).all (fun x => !x.1) && (backToKw cpos (keywordEach [] C.X.env)).all (fun x => x.1.isSome)
      && decide ((e :: es).length + ([] : List Keyword).length + (if ([] : List Keyword).isEmpty then 0 else 1) < 30)) = true := by rfl)
    (hline : (apos.endLine == cpos.line) = true := by rfl) (hs : starEach (e :: es) C.X.env = (false, eval e C.X.env) :: starEach es C.X.env := by rfl) (hplain : (backTo cpos (starEach es C.X.env)).any (·.1) = false := by rfl) :
    PE C.X (.Call (.Attribute o name apos) (e :: es) [] cpos) (TX C true (xmut (ckP T f) g μ)) := peImp (pe_bmD pa slot hty hm ho ha hbase hfew hline hs hplain) fun σ H Q h => tp_ck (tx_mut (base_ck hb) hμ h)
theorem x_mut0 (pa : PlainAttrs T) (slot : Slot T name id) (hty : typeOf (.builtin id) = pure (.type "method_descriptor")) (hm : MtR C.X id R) (hμ : MutOK C μ R) (hb : Base m f) (ho : PE C.X o (TP C m f))
    (hbase : attributeBase o name C.X.env (eval o C.X.env) = eval o C.X.env := by rfl) (hline : (apos.endLine == cpos.line) = true := by rfl) :
    PE C.X (.Call (.Attribute o name apos) [] [] cpos) (TX C true (xmut (ckP T f) nilA μ)) := peImp (pe_bmD0 pa slot hty hm ho hbase hline) fun σ H Q h => by
  obtain ⟨F, p, env, rel, i, π, e1, d0, e, eg, post⟩ := tp_ck (tx_mut (m := m) (base_ck hb) hμ h)
  exact ⟨F, p, env, rel, i, π, e1, d0, e, eg, fun v0 v H' F' p' x1 x2 x3 x4 x5 => ⟨(post v0 v H' F' p' x1 x2 x3 x4 x5).1, tax_nil (post v0 v H' F' p' x1 x2 x3 x4 x5).2⟩⟩
theorem x_met1B (pa : PlainAttrs T) (slot : Slot T name id) (hty : typeOf (.builtin id) = pure (.type "method_descriptor")) (hm : MtR C.X id R) (hk : RdOK C φ (RM R)) (hb : Base m f) (ho : PE C.X o (TP C m f)) (ha : PA C.X (e :: es) (TAX C m g))
    (hbase : attributeBase o name C.X.env (eval o C.X.env) = eval o C.X.env := by rfl)
    (hfew : ((backTo cpos (starEach (e :: es) C.X.env)).all (fun x => !x.1) && (backToKw cpos (keywordEach [] C.X.env)).all (fun x => x.1.isSome)
      && decide ((e :: es).length + ([] : List Keyword).length + (if ([] : List Keyword).isEmpty then 0 else 1) < 30)) = true := by rfl)
    (hline : (apos.endLine == cpos.line) = true := by rfl) (hs : starEach (e :: es) C.X.env = (false, eval e C.X.env) :: starEach es C.X.env := by rfl) (hplain : (backTo cpos (starEach es C.X.env)).any (·.1) = false := by rfl) :
    PE C.X (.Call (.Attribute o name apos) (e :: es) [] cpos) (TX C m (popB (ckP T f) g φ)) := peImp (pe_bmD pa slot hty hm ho ha hbase hfew hline hs hplain) fun σ H Q h => by
  obtain ⟨F, p, env, rel, i, π, e1, d0, e, eg, post⟩ := tp_ck (popB_ok (base_ck hb) hk h)
  exact ⟨F, p, env, rel, i, π, e1, d0, e, eg, fun v0 v H' F' p' x1 x2 x3 x4 x5 => ⟨(post v0 v H' F' p' x1 x2 x3 x4 x5).1, tax_imp (post v0 v H' F' p' x1 x2 x3 x4 x5).2 fun vs H2 ⟨_, _, e, z⟩ => by cases e; exact z⟩⟩
theorem x_met1 (pa : PlainAttrs T) (slot : Slot T name id) (hty : typeOf (.builtin id) = pure (.type "method_descriptor")) (hm : MtR C.X id R) (hk : RdOK C φ (RM R)) (ho : PE C.X o (TX C m fx)) (ha : PA C.X (e :: es) (TAX C m g))
    (hbase : attributeBase o name C.X.env (eval o C.X.env) = eval o C.X.env := by rfl)
    (hfew : ((backTo cpos (starEach (e :: es) C.X.env)).all (fun x => !x.1) && (backToKw cpos (keywordEach [] C.X.env)).all (fun x => x.1.isSome)
      && decide ((e :: es).length + ([] : List Keyword).length + (if ([] : List Keyword).isEmpty then 0 else 1) < 30)) = true := by rfl)
    (hline : (apos.endLine == cpos.line) = true := by rfl) (hs : starEach (e :: es) C.X.env = (false, eval e C.X.env) :: starEach es C.X.env := by rfl) (hplain : (backTo cpos (starEach es C.X.env)).any (·.1) = false := by rfl) :
    PE C.X (.Call (.Attribute o name apos) (e :: es) [] cpos) (TX C m (pop (consA (ckX T fx) g) φ)) := peImp (pe_bmD pa slot hty hm ho ha hbase hfew hline hs hplain) fun σ H Q h =>
  tx_imp (tx_ck (tax_cons (pop_ok hk h))) fun v H1 ⟨z1, z2⟩ => ⟨z1, tax_imp z2 fun vs H2 ⟨_, _, e, z⟩ => by cases e; exact z⟩
theorem x_met0 (pa : PlainAttrs T) (slot : Slot T name id) (hty : typeOf (.builtin id) = pure (.type "method_descriptor")) (hm : MtR C.X id R) (hk : RdOK C φ (RM R)) (ho : PE C.X o (TX C m fx))
    (hbase : attributeBase o name C.X.env (eval o C.X.env) = eval o C.X.env := by rfl) (hline : (apos.endLine == cpos.line) = true := by rfl) :
    PE C.X (.Call (.Attribute o name apos) [] [] cpos) (TX C m (pop (consA (ckX T fx) nilA) φ)) := peImp (pe_bmD0 pa slot hty hm ho hbase hline) fun σ H Q h =>
  tx_imp (tx_ck (tax_cons (pop_ok hk h))) fun v H1 ⟨z1, z2⟩ => ⟨z1, by
    obtain ⟨_, _, e, z⟩ := tax_nil z2
    cases e
    exact z⟩
end
end
end DL

namespace DL
open PySem PySem.Spec PyProof.Rows L2
/-! ### stores, one by one -/
def putR {κ α : Type} [DecidableEq κ] : List (κ × α) → κ → α → List (κ × α)
  | [], k, v => [(k, v)]
  | p :: r, k, v => if p.1 = k then (p.1, v) :: r else p :: putR r k v
theorem map_id_of {κ α : Type} [DecidableEq κ] {k : κ} {v : α} : ∀ {r : List (κ × α)}, k ∉ r.map (·.1) → r.map (fun kv => if kv.1 = k then (kv.1, v) else kv) = r
  | [], _ => rfl
  | p :: r, h => by
    rw [List.map_cons, List.mem_cons, not_or] at h
    rw [List.map_cons, map_id_of h.2, if_neg fun e => h.1 e.symm]
theorem putK_eq {κ : Type} [DecidableEq κ] {k : κ} {v : V} : ∀ {kv : List (κ × V)}, (kv.map (·.1)).Nodup → putK kv k v = putR kv k v
  | [], _ => rfl
  | p :: r, h => by
    rw [List.map_cons, List.nodup_cons] at h
    unfold putR
    by_cases e : p.1 = k
    · rw [if_pos e]
      unfold putK
      rw [if_pos (by simp [e]), List.map_cons, if_pos e, map_id_of (by rw [← e]; exact h.1)]
    · rw [if_neg e, ← putK_eq h.2]
      unfold putK
      by_cases a : (r.any fun kv => decide (kv.1 = k)) = true
      · rw [if_pos (by simp only [List.any_cons]; rw [a, Bool.or_true]), if_pos a, List.map_cons, if_neg e]
      · rw [if_neg (by simp only [List.any_cons]; simp only [Bool.not_eq_true] at a; rw [a]; simp [e]), if_neg a, List.cons_append]
def putRT : List (NestedKey × Addr × Value) → NestedKey → Addr → Value → List (NestedKey × Addr × Value)
  | [], k, b, v => [(k, b, v)]
  | p :: r, k, b, v => if p.1 = k then (p.1, p.2.1, v) :: r else p :: putRT r k b v
theorem putAt_id {k : NestedKey} {v : Value} : ∀ {r : List (NestedKey × Addr × Value)}, k ∉ r.map (·.1) → r.map (putAt k v) = r
  | [], _ => rfl
  | p :: r, h => by
    rw [List.map_cons, List.mem_cons, not_or] at h
    rw [List.map_cons, putAt_id h.2]
    unfold putAt
    rw [if_neg fun e => h.1 e.symm]
theorem storedH_eq {k : NestedKey} {b : Addr} {v : Value} : ∀ {es : List (NestedKey × Addr × Value)}, (es.map (·.1)).Nodup → storedH es k b v = putRT es k b v
  | [], _ => rfl
  | p :: r, h => by
    rw [List.map_cons, List.nodup_cons] at h
    unfold putRT
    by_cases e : p.1 = k
    · rw [if_pos e]
      rw [storedH_old (p := p.2) (by rw [atKey_cons, if_pos e]), List.map_cons, putAt_id (by rw [← e]; exact h.1)]
      unfold putAt
      rw [if_pos e]
    · rw [if_neg e, ← storedH_eq h.2]
      cases a : atKey r k with
      | none => rw [storedH_new a, storedH_new (by rw [atKey_cons, if_neg e, a]), List.cons_append]
      | some q =>
        rw [storedH_old a, storedH_old (p := q) (by rw [atKey_cons, if_neg e, a]), List.map_cons]
        congr 1
        unfold putAt
        rw [if_neg e]
section
variable {P : Program} {w : World} {K : PySem.W.Frag} {F : FS} {H : Hp}
theorem repK_put : ∀ {kvs : List (D × D)} {kv : List (Key × V)} {q r : List Addr} {x d : D} {k : Key} {v : V}, repK P w K F H kvs kv q → fkey x = some k → rep P w K F H d v r →
    ∃ l q0 r', q = l ++ (q0 ++ r') ∧ repK P w K F H (putK' kvs x k d) (putR kv k v) (l ++ (r ++ r'))
  | [], _, _, r, x, d, k, v, ⟨rfl, rfl⟩, ek, z => ⟨[], [], [], rfl, k, v, [], r, [], ek, rfl, z, ⟨rfl, rfl⟩, rfl⟩
  | (y, d0) :: kvs, _, _, r, x, d, k, v, ⟨k0, v0, ws, q0, r0, e0, e, x1, x2, h⟩, ek, z => by
    subst e h
    unfold putK' putR
    by_cases hk : k0 = k
    · subst hk
      rw [if_pos e0, if_pos rfl]
      exact ⟨[], q0, r0, rfl, k0, v, ws, r, r0, e0, rfl, z, x2, rfl⟩
    · rw [if_neg fun z => hk (by rw [e0] at z; exact Option.some.inj z), if_neg hk]
      obtain ⟨l, q1, r', h1, h2⟩ := repK_put x2 ek z
      exact ⟨q0 ++ l, q1, r', by rw [h1, List.append_assoc], k0, v0, _, q0, _, e0, rfl, x1, h2, by rw [List.append_assoc]⟩
theorem repT_put : ∀ {kvs : List (D × D)} {es : List (NestedKey × Addr × Value)} {q r : List Addr} {x d : D} {k : NestedKey} {b : Addr} {u : Value} {v : V}, repT P w K F H kvs es q → nkey x = some k → k.depth ≤ 8 → rep P w K F H x (.ref b) [] → RelV v u → rep P w K F H d v r →
    ∃ l q0 r', q = l ++ (q0 ++ r') ∧ repT P w K F H (putT' kvs x k d) (putRT es k b u) (l ++ (r ++ r'))
  | [], _, _, r, x, d, k, b, u, v, ⟨rfl, rfl⟩, ek, dp, xb, ru, z => ⟨[], [], [], rfl, k, b, u, v, [], r, [], ek, dp, rfl, xb, ru, z, ⟨rfl, rfl⟩, rfl⟩
  | (y, d0) :: kvs, _, _, r, x, d, k, b, u, v, ⟨k0, b0, u0, v0, ws, q0, r0, e0, dp0, e, x0, ru0, x1, x2, h⟩, ek, dp, xb, ru, z => by
    subst e h
    unfold putT' putRT
    by_cases hk : k0 = k
    · subst hk
      rw [if_pos e0, if_pos rfl]
      exact ⟨[], q0, r0, rfl, k0, b0, u, v, ws, r, r0, e0, dp0, rfl, x0, ru, z, x2, rfl⟩
    · rw [if_neg fun z => hk (by rw [e0] at z; exact Option.some.inj z), if_neg hk]
      obtain ⟨l, q1, r', h1, h2⟩ := repT_put x2 ek dp xb ru z
      exact ⟨q0 ++ l, q1, r', by rw [h1, List.append_assoc], k0, b0, u0, v0, _, q0, _, e0, dp0, rfl, x0, ru0, x1, h2, by rw [List.append_assoc]⟩
end
/-! ### a store into a dict -/
abbrev rDSet (X : Cx) : V → V → V → Hp → (Hp → Prop) → Prop := fun x y v H Q =>
  (∃ a od kv vs k, x = .ref a ∧ y = kV k ∧ (a == sysModules) = false ∧ H a = some (objO a od) ∧ KV kv vs ∧ FlatD X.prog X.w od vs ∧ kv.length < SZ ∧ ∀ od' vs', KV (putR kv k v) vs' → FlatD X.prog X.w od' vs' → Q (upd H a (objO a od'))) ∨
  (∃ a od es k b, x = .ref a ∧ y = .ref b ∧ (a == sysModules) = false ∧ H a = some (objO a od) ∧ TupD X.prog X.w od es ∧ (∀ x ∈ es, KeyAt X.prog X.w X.K H x.2.1 x.1) ∧ KeyAt X.prog X.w X.K H b k ∧ es.length < SZ ∧ ∀ od' u, RelV v u → TupD X.prog X.w od' (putRT es k b u) → Q (upd H a (objO a od')))
theorem inv_objO {X : Cx} {pins : List (Addr × Obj)} {σ : L2.St} {H : Hp} {s : Shared} {h' : Heap} {a : Addr} {od od' : Obj} {t' : Nat} (I : Inv X pins σ H s) (ha : H a = some (objO a od)) (hs : Heap.SameBut a s.heap h') (g : h'.get? a = some od') : Inv X pins σ (upd H a (objO a od')) { s with heap := h', toks := t' } :=
  I.write (x := a) (e := a) (by rw [ha]; exact True.intro) (.inl rfl) (fun b q hb z => (hs.2 b hb).trans z) ⟨_, g⟩ ⟨g, ⟨_, g⟩, fun h1 h2 p k => k _ p⟩
theorem length_stored_le {κ : Type} [DecidableEq κ] {vs : List (κ × Value)} {k : κ} {u : Value} : (stored vs k u).length ≤ vs.length + 1 := by
  unfold stored
  split
  · rw [List.length_map]; exact Nat.le_succ _
  · rw [List.length_append]; exact Nat.le_refl _
theorem kv_nodup {kv : List (Key × V)} {vs : List (Key × Value)} (h : KV kv vs) : kv.map (·.1) = vs.map (·.1) := by
  unfold KV at h
  induction h with
  | nil => rfl
  | cons r t ih => rw [List.map_cons, List.map_cons, r.1, ih]
theorem flatD_of {P : Program} {w : World} {h : Heap} {a : Addr} {vs : List (Key × Value)} (dd : h.DictOf (mixKind P w) a vs) (hl : vs.length ≤ sizeLine) : ∃ od, h.get? a = some od ∧ FlatD P w od vs := by
  obtain ⟨o, ea, ep, h1, h2, h3, h4, h5, h6⟩ := dd
  exact ⟨o, h1, h2, ⟨ea, ep, h3, h4, h5⟩, h6, hl⟩
theorem tupD_of {P : Program} {w : World} {h : Heap} {a : Addr} {es : List (NestedKey × Addr × Value)} (dd : h.DictOfH (nestedKind P w) a es) (hl : es.length ≤ sizeLine) : ∃ od, h.get? a = some od ∧ TupD P w od es := by
  obtain ⟨o, ea, ep, h1, h2, h3, h4, h5, h6⟩ := dd
  exact ⟨o, h1, h2, ⟨ea, ep, h3, h4⟩, h6, hl⟩
/-- after the store -/
theorem flat_after {X : Cx} {pins : List (Addr × Obj)} {σ : L2.St} {H : Hp} {s : Shared} {h' : Heap} {a : Addr} {od : Obj} {kv : List (Key × V)} {vs : List (Key × Value)} {k : Key} {v : V} {u : Value} {Q : Hp → Prop} {t' : Nat} (I : Inv X pins σ H s) (ha : H a = some (objO a od)) (kvr : KV kv vs) (fd : FlatD X.prog X.w od vs) (hl : kv.length < SZ) (rv : RelV v u)
    (q : ∀ od' vs', KV (putR kv k v) vs' → FlatD X.prog X.w od' vs' → Q (upd H a (objO a od'))) (dd : h'.DictOf (mixKind X.prog X.w) a (stored vs k u)) (hs : Heap.SameBut a s.heap h') : ∃ H', Inv X pins σ H' { s with heap := h', toks := t' } ∧ Q H' := by
  have hle : (stored vs k u).length ≤ sizeLine := by
    have := length_stored_le (vs := vs) (k := k) (u := u)
    have := Paired.length kvr
    rw [sizeLine_eq]
    have : SZ = 16777216 := rfl
    omega
  obtain ⟨od', g, fd'⟩ := flatD_of dd hle
  have nd : (kv.map (·.1)).Nodup := by rw [kv_nodup kvr]; exact fd.nd
  exact ⟨_, inv_objO I ha hs g, q od' _ (by rw [← putK_eq nd]; exact kvr.put k rv) fd'⟩
theorem tup_after {X : Cx} {pins : List (Addr × Obj)} {σ : L2.St} {H : Hp} {s : Shared} {h' : Heap} {a b : Addr} {od : Obj} {es : List (NestedKey × Addr × Value)} {k : NestedKey} {v : V} {u : Value} {Q : Hp → Prop} {t' : Nat} (I : Inv X pins σ H s) (ha : H a = some (objO a od)) (td : TupD X.prog X.w od es) (hl : es.length < SZ) (rv : RelV v u)
    (q : ∀ od' u, RelV v u → TupD X.prog X.w od' (putRT es k b u) → Q (upd H a (objO a od'))) (dd : h'.DictOfH (nestedKind X.prog X.w) a (storedH es k b u)) (hs : Heap.SameBut a s.heap h') : ∃ H', Inv X pins σ H' { s with heap := h', toks := t' } ∧ Q H' := by
  have hle : (storedH es k b u).length ≤ sizeLine := by
    have := storedH_length es k b u
    rw [sizeLine_eq]
    have : SZ = 16777216 := rfl
    omega
  obtain ⟨od', g, td'⟩ := tupD_of dd hle
  exact ⟨_, inv_objO I ha hs g, q od' u rv (by rw [← storedH_eq td.nd]; exact td')⟩
theorem set_dict {X : Cx} (hu : X.A.units + 16 < cLine) : PSet X (rDSet X) := by
  intro pins s σ H o i v ov iv u Q I ro ri rv h
  rcases h with ⟨a, od, kv, vs, k, rfl, rfl, sm, ha, kvr, fd, hl, q⟩ | ⟨a, od, es, k, b, rfl, rfl, sm, ha, td, hk, hb, hl, q⟩
  · cases ro
    obtain ⟨ea, ep, h1, h2, h3⟩ := fd.dat
    exact wpAny_setItem_pairs (hsz := fd.len) (kV_is ri) ⟨od, ea, ep, obj_at I ha, fd.ex, h1, h2, h3, fd.nd⟩ fun h' dd hs => flat_after I ha kvr fd hl rv q dd hs
  · cases ro
    cases ri
    obtain ⟨ea, ep, h1, h2⟩ := td.dat
    exact wpAny_setItem_heap (hsz := td.len) (by show X.A.in1.units + 8 < cLine; simp only [Around.in1_units]; omega) (hb.is I) ⟨od, ea, ep, obj_at I ha, td.ex, h1, h2, fun x hx => (hk x hx).is I, td.nd⟩ fun h' dd hs => tup_after I ha td hl rv q dd hs
theorem set_dict2 {X : Cx} {pins : List (Addr × Obj)} {σ : L2.St} {H : Hp} {s : Shared} {a : Addr} {i v : V} {iv u : Value} {Q : Hp → Prop} {E : Value → Shared → Prop} (hu : X.A.units + 16 < cLine) (I : Inv X pins σ H s) (ri : RelV i iv) (rv : RelV v u) (h : rDSet X (.ref a) i v H Q) :
    wpAny (model X.prog X.w) X.A (dictSet a iv u) (fun _ s' => ∃ H', Inv X pins σ H' s' ∧ Q H') E s := by
  rcases h with ⟨a', od, kv, vs, k, e, rfl, sm, ha, kvr, fd, hl, q⟩ | ⟨a', od, es, k, b, e, rfl, sm, ha, td, hk, hb, hl, q⟩
  · cases e
    obtain ⟨ea, ep, h1, h2, h3⟩ := fd.dat
    exact wpAny_dictSet_pairs (hsz := fd.len) (kV_is ri) ⟨od, ea, ep, obj_at I ha, fd.ex, h1, h2, h3, fd.nd⟩ fun h' dd hs => flat_after I ha kvr fd hl rv q dd hs
  · cases e
    cases ri
    obtain ⟨ea, ep, h1, h2⟩ := td.dat
    exact wpAny_dictSet_heap (hsz := td.len) (by show X.A.units + 8 < cLine; omega) (hb.is I) ⟨od, ea, ep, obj_at I ha, td.ex, h1, h2, fun x hx => (hk x hx).is I, td.nd⟩ fun h' dd hs => tup_after I ha td hl rv q dd hs
section
variable {C : Ctx} {m : Bool} {F F1 F' : FS} {H H1 H' : Hp} {p p1 p' q r : List Addr} {σ : St} {env : Env} {En : Ends} {pos : Pos}
/-- d[k] = v -/
def μset : D → List D → Option (D × D)
  | .dic true kvs, [k, d] => (dput kvs k d).map fun z => (.dic true z, .non)
  | _, _ => none
theorem repK_len : ∀ {kvs : List (D × D)} {kv : List (Key × V)} {q : List Addr}, repK C.X.prog C.X.w C.X.K F H kvs kv q → kvs.length = kv.length
  | [], _, _, x => by rw [x.1]; rfl
  | (y, d) :: kvs, _, _, ⟨k, v, ws, q, r, ek, e, x1, x2, _⟩ => by rw [e, List.length_cons, List.length_cons, repK_len x2]
theorem repT_len : ∀ {kvs : List (D × D)} {kv : List (NestedKey × Addr × Value)} {q : List Addr}, repT C.X.prog C.X.w C.X.K F H kvs kv q → kvs.length = kv.length
  | [], _, _, x => by rw [x.1]; rfl
  | (y, d) :: kvs, _, _, ⟨k, b, u, v, ws, q, r, ek, dp, e, x0, ru, x1, x2, _⟩ => by rw [e, List.length_cons, List.length_cons, repT_len x2]
/-- a store, data for data; the dict's object at a, its parts at q, the value's at r -/
theorem dset_ok {kvs kvs' : List (D × D)} {a : Addr} {v y : V} {key d : D} {Q : Hp → Prop} (rp : C.rep F H (.dic true kvs) (.ref a) (a :: q)) (hk : is C F H key y) (rv : C.rep F H d v r) (e : dput kvs key d = some kvs') (na : a ∉ q ++ r) (nF : ¬ F a) (fr : fro key = true)
    (h : ∀ od' q', C.rep F (upd H a (objO a od')) (.dic true kvs') (.ref a) (a :: q') → (∀ b ∈ q', b ∈ q ∨ b ∈ r) → ((q ++ r).Nodup → q'.Nodup) → (∃ od ea ep, H a = some (objO a od) ∧ od.data = .dict ea ep) → Q (upd H a (objO a od'))) : rDSet C.X (.ref a) y v H Q := by
  have perm : ∀ {l q0 r' : List Addr}, q = l ++ (q0 ++ r') → (∀ b ∈ l ++ (r ++ r'), b ∈ q ∨ b ∈ r) ∧ ((q ++ r).Nodup → (l ++ (r ++ r')).Nodup) := fun {l q0 r'} eq => by
    refine ⟨fun b hb => ?_, fun n => ?_⟩
    · rw [eq]
      rcases List.mem_append.mp hb with hb | hb
      · exact .inl (List.mem_append_left _ hb)
      · rcases List.mem_append.mp hb with hb | hb
        · exact .inr hb
        · exact .inl (List.mem_append_right _ (List.mem_append_right _ hb))
    · rw [eq] at n
      obtain ⟨n1, n2, n3⟩ := List.nodup_append.mp n
      obtain ⟨n4, n5, n6⟩ := List.nodup_append.mp n1
      obtain ⟨n7, n8, n9⟩ := List.nodup_append.mp n5
      refine List.nodup_append.mpr ⟨n4, List.nodup_append.mpr ⟨n2, n8, fun x hx y hy e => n3 y (List.mem_append_right _ (List.mem_append_right _ hy)) x hx e.symm⟩, fun x hx y hy e => ?_⟩
      rcases List.mem_append.mp hy with hy | hy
      · exact n3 x (List.mem_append_left _ hx) y hy e
      · exact n6 x hx y (List.mem_append_right _ hy) e
  have st : ∀ {od od' : Obj} {ea : Array DictEntry} {ep : Nat} {u : List Addr}, H a = some (objO a od) → od.data = .dict ea ep → (∀ b ∈ u, b ∈ q ∨ b ∈ r) → Stab F F H (upd H a (objO a od')) u := fun ha hd hu => stab_mut ha (free_obj hd) (fun hb => na ((hu _ hb).elim (List.mem_append_left _) (List.mem_append_right _))) nF
  unfold dput at e
  split at e
  · rename_i hsz
    split at e
    · rename_i k ek
      split at e
      · rename_i hf
        cases e
        obtain ⟨a', od, kv, vs, q', ea', sm, ow, rk, kvr, fd⟩ := dic_flat rp hf
        cases ea'
        have eq : q = q' := (List.cons.inj ow.2).2
        subst eq
        obtain ⟨l, q0, r', e1, rk'⟩ := repK_put rk ek rv
        obtain ⟨ea, ep, hd, _⟩ := id fd.dat
        obtain ⟨p1, p2⟩ := perm e1
        refine .inl ⟨a, od, kv, vs, k, rfl, fkey_kV hk ek, sm, ow.1, kvr, fd, by rw [← repK_len rk]; exact hsz, fun od' vs' kvr' fd' => h od' _ ?_ p1 p2 ⟨od, ea, ep, ow.1, hd⟩⟩
        exact ⟨a, od', _, rfl, sm, ⟨upd_same, rfl⟩, .inl ⟨_, vs', repK_mono rk' (st ow.1 hd p1), kvr', fd'⟩⟩
      · cases e
    · split at e
      · rename_i ht
        split at e
        · rename_i k ek
          split at e
          · rename_i dp
            cases e
            obtain ⟨a', od, es, q', ea', sm, ow, rk, td⟩ := dic_tup rp ht.2
            cases ea'
            have eq : q = q' := (List.cons.inj ow.2).2
            subst eq
            obtain ⟨b, rfl, hb⟩ := tup_ref hk ht.1 ek dp
            obtain ⟨qk, xb⟩ := hk
            have eq := fro_nil fr xb
            subst eq
            obtain ⟨ea, ep, hd, _⟩ := id td.dat
            refine .inr ⟨a, od, es, k, b, rfl, rfl, sm, ow.1, td, repT_keys rk, hb, by rw [← repT_len rk]; exact hsz, fun od' u ru td' => ?_⟩
            obtain ⟨l, q0, r', e1, rk'⟩ := repT_put rk ek dp xb ru rv
            obtain ⟨p1, p2⟩ := perm e1
            exact h od' _ ⟨a, od', _, rfl, sm, ⟨upd_same, rfl⟩, .inr ⟨_, repT_mono rk' (st ow.1 hd p1), td'⟩⟩ p1 p2 ⟨od, ea, ep, ow.1, hd⟩
          · cases e
        · cases e
      · cases e
  · cases e
theorem key_fro {kvs kvs' : List (D × D)} {key d : D} (e : dput kvs key d = some kvs') : fro key = true := by
  unfold dput at e
  split at e
  · split at e
    · rename_i k ek
      cases key <;> first | rfl | (cases ek; done)
    · split at e
      · rename_i ht
        cases key <;> first | rfl | (cases ht.1; done)
      · cases e
  · cases e
theorem ok_set : MutOK C μset (fun x vs H Q => ∃ k v, vs = [k, v] ∧ rDSet C.X x k v H (fun H' => Q .non H')) := by
  intro F H d0 d1 d2 v0 q qa ds vs Q rp rps nd nF trk e h
  unfold μset at e
  split at e
  · rename_i kvs key d
    obtain ⟨kvs', ed, ez⟩ := Option.map_eq_some_iff.mp e
    cases ez
    obtain ⟨y, ws, q1, q2, rfl, ry, rr, hq⟩ := rps
    obtain ⟨v, rfl, rv⟩ := reps_one rr
    have fr := key_fro ed
    have eq := fro_nil fr ry
    subst eq
    subst hq
    obtain ⟨a, od, qd, ev0, sm, ow, x⟩ := id rp
    subst ev0
    have eq := ow.2
    subst eq
    have nd' : (a :: (qd ++ qa)).Nodup := nd
    have na := (List.nodup_cons.mp nd').1
    refine ⟨y, v, rfl, dset_ok rp ⟨_, ry⟩ rv ed na (nF a (by simp)) fr fun od' q' rp' sub ndq ⟨od0, ea, ep, ha, hd⟩ => ?_⟩
    refine h .non _ (a :: q') [] ?_ (fun T t => tabs_upd t ha (free_obj hd)) rp' ⟨rfl, rfl⟩ ?_
    · refine (Ext.mut (by simp) (by rw [ha]; intro z; cases z)).sub fun b hb => ?_
      rw [List.append_nil] at hb
      rcases List.mem_cons.mp hb with rfl | hb
      · simp
      · rcases sub b hb with h | h <;> simp [h]
    · rw [List.append_nil]
      refine List.nodup_cons.mpr ⟨fun hb => na ?_, ndq (List.nodup_cons.mp nd').2⟩
      rcases sub a hb with h | h <;> simp [h]
  · cases e
end
end DL

namespace DL
open PySem PySem.Spec PyProof.Rows L2
section
variable {C : Ctx} {m : Bool} {F F1 F' : FS} {H H1 H' : Hp} {p p1 p' q r : List Addr} {σ : St} {env : Env} {En : Ends} {pos : Pos}
/-! ### targets that are parts -/
def asub (f : PF) (kf : XF) : AS := fun d env => match f env with
  | some ((i, π), e1) => (match atW e1 i π with
    | some _ => (match kf e1 with
      | some (.val k, e2) => (match modW e2 i π fun c => μset c [k, d] with
        | some (_, e3) => some e3
        | none => none)
      | _ => none)
    | none => none)
  | none => none
theorem mem3 {a : Addr} {l1 l2 l3 : List Addr} : a ∈ (l1 ++ l2) ++ l3 → a ∈ l2 ++ (l1 ++ l3) := fun h => by
  rcases List.mem_append.mp h with h | h
  · rcases List.mem_append.mp h with h | h
    · exact List.mem_append_right _ (List.mem_append_left _ h)
    · exact List.mem_append_left _ h
  · exact List.mem_append_right _ (List.mem_append_right _ h)
theorem onl_self {is : List Nat} : Onl is σ σ := ⟨rfl, fun _ _ => rfl⟩
theorem tg_sub {f : PF} {kf : XF} {v : V} {Q : St → Hp → Prop} (hb : Base m f) (h : TGx C [] (asub f kf) v σ H Q) : gSub (TP C m f) (TX C m kf) (rDSet C.X) v σ H Q := by
  obtain ⟨F, p, env, d, q, rel, rp, ap, env', e, post⟩ := h
  unfold asub at e
  split at e
  case h_2 => cases e
  rename_i i π e1 ef
  split at e
  case h_2 => cases e
  rename_i c1 ec1
  split at e
  case h_2 => cases e
  rename_i k e2 ek
  split at e
  case h_2 => cases e
  rename_i d2 e3 em
  cases e
  refine ⟨F, p, env, rel, _, _, _, _, ef, ec1, fun v0 w0 H1 F1 p1 x1 rel1 ev pa is0 => ⟨F1, p1, e1, rel1, _, _, ek, fun y H2 F2 p2 q2 x2 rel2 rp2 ap2 => ?_⟩⟩
  have x2' : Ext m F1 H1 p1 F2 H2 p2 := x2.sub fun a h => List.mem_append_right _ h
  have pa2 : PathAt C.X.prog C.X.w C.X.K H2 w0 π v0 := by
    cases m with
    | true =>
      have e := hb.nil ef rfl
      subst e
      cases pa
      exact .nil
    | false => exact pa.mono fun a o e nt => x2.keep a o e nt fun h => by cases h
  have x12 : Ext m F H p F2 H2 (q2 ++ p2) := x1.trans x2
  have th : ∀ a ∈ q, H a ≠ none := fun a ha => ne_of_ow (rep_there rp a ha)
  obtain ⟨n1, n2⟩ := x12.apart ap th
  have rv : C.rep F2 H2 d v q := rep_mono rp (x12.stab rel.dis rel.ow fun _ => ap.dis)
  have rps : C.reps F2 H2 [k, d] [y, v] (q2 ++ q) := ⟨y, [v], q2, q, rfl, rp2, ⟨v, [], q, [], rfl, rv, ⟨rfl, rfl⟩, (List.append_nil _).symm⟩, rfl⟩
  have apd : Apart F2 (q2 ++ q) p2 := ⟨List.nodup_append.mpr ⟨ap2.nd, ap.nd, fun a ha b hb eb => n1 b hb (by rw [← eb]; exact List.mem_append_left _ ha)⟩, fun a ha => (List.mem_append.mp ha).elim (ap2.dis a) fun h hp => n1 a h (List.mem_append_right _ hp), fun a ha => (List.mem_append.mp ha).elim (ap2.fr a) (n2 a)⟩
  obtain ⟨ky, vv, evs, z⟩ := rel2.modW (Q := fun _ H' => Q σ H') ok_set ev pa2 rps apd em fun u H3 p3 q3 x3 rel3 ru ap3 => by
    refine post σ H3 F2 p3 onl_self ?_ rel3
    have z := (x12.any).beside q []
    rw [List.append_nil, List.append_nil] at z
    refine (z.sub (p2 := (q2 ++ q) ++ p2) fun a h => ?_).trans (x3.sub fun a h => List.mem_append_right _ h)
    exact mem3 h
  cases evs
  exact z
theorem g_sub {o i : Expr} {f : PF} {kf : XF} (hu : C.X.A.units + 16 < cLine) (hb : Base m f) (ho : PE C.X o (TP C m f)) (hi : PE C.X i (TX C m kf)) (ha : ∀ v, assign (.Subscript o i pos) C.X.env v = (do
      let ov ← holding [v] (eval o C.X.env)
      let iv ← holding [v, ov] (eval i C.X.env)
      standAt pos
      holding [v, ov, iv] (setItem ov iv v)
      release [v, ov, iv] []) := by intro _; rfl) : PG C.X (.Subscript o i pos) (TGx C [] (asub f kf)) :=
  pgImp (pg_sub ho hi (set_dict hu) ha) fun v σ H Q h => tg_sub hb h
/-! ### self.x = value -/
def putFD (x : Str) (d : D) : List (Str × D) → List (Str × D)
  | [] => [(x, d)]
  | (y, e) :: r => if y = x then (y, d) :: r else (y, e) :: putFD x d r
def μfld (ok : List Str) (x : Str) : D → List D → Option (D × D)
  | .ins true C' fs, [d] => if C' ∈ ok ∧ fs.length < 1000 then some (.ins true C' (putFD x d fs), .non) else none
  | _, _ => none
theorem repF_put {P : Program} {w : World} {K : PySem.W.Frag} : ∀ {fs : List (Str × D)} {gs : List (Str × V)} {q r : List Addr} {x : Str} {d : D} {v : V}, repF P w K F H fs gs q → rep P w K F H d v r →
    ∃ l q0 r', q = l ++ (q0 ++ r') ∧ repF P w K F H (putFD x d fs) (putF x v gs) (l ++ (r ++ r'))
  | [], _, _, r, x, d, v, ⟨rfl, rfl⟩, z => ⟨[], [], [], rfl, v, [], r, [], rfl, z, ⟨rfl, rfl⟩, rfl⟩
  | (y, d0) :: fs, _, _, r, x, d, v, ⟨v0, ws, q0, r0, e, x1, x2, h⟩, z => by
    subst e h
    unfold putFD putF
    by_cases hk : y = x
    · rw [if_pos hk, if_pos hk]
      exact ⟨[], q0, r0, rfl, v, ws, r, r0, rfl, z, x2, rfl⟩
    · rw [if_neg hk, if_neg hk]
      obtain ⟨l, q1, r', h1, h2⟩ := repF_put (x := x) x2 z
      exact ⟨q0 ++ l, q1, r', by rw [h1, List.append_assoc], v0, _, q0, _, rfl, x1, h2, by rw [List.append_assoc]⟩
theorem repF_len : ∀ {fs : List (Str × D)} {gs : List (Str × V)} {q : List Addr}, C.repF F H fs gs q → fs.length = gs.length
  | [], _, _, x => by rw [x.1]; rfl
  | (y, d) :: fs, _, _, ⟨v, ws, q, r, e, x1, x2, _⟩ => by rw [e, List.length_cons, List.length_cons, repF_len x2]
theorem perm3 {l q0 r' q r : List Addr} (eq : q = l ++ (q0 ++ r')) : (∀ b ∈ l ++ (r ++ r'), b ∈ q ∨ b ∈ r) ∧ ((q ++ r).Nodup → (l ++ (r ++ r')).Nodup) := by
  refine ⟨fun b hb => ?_, fun n => ?_⟩
  · rw [eq]
    rcases List.mem_append.mp hb with hb | hb
    · exact .inl (List.mem_append_left _ hb)
    · rcases List.mem_append.mp hb with hb | hb
      · exact .inr hb
      · exact .inl (List.mem_append_right _ (List.mem_append_right _ hb))
  · rw [eq] at n
    obtain ⟨n1, n2, n3⟩ := List.nodup_append.mp n
    obtain ⟨n4, n5, n6⟩ := List.nodup_append.mp n1
    obtain ⟨n7, n8, n9⟩ := List.nodup_append.mp n5
    refine List.nodup_append.mpr ⟨n4, List.nodup_append.mpr ⟨n2, n8, fun x hx y hy e => n3 y (List.mem_append_right _ (List.mem_append_right _ hy)) x hx e.symm⟩, fun x hx y hy e => ?_⟩
    rcases List.mem_append.mp hy with hy | hy
    · exact n3 x (List.mem_append_left _ hx) y hy e
    · exact n6 x hx y (List.mem_append_right _ hy) e
abbrev rFldSet (K : PySem.W.Frag) (x : Str) : V → List V → Hp → VK → Prop := fun o vs H Q => ∃ a C dx fs v, o = .ref a ∧ vs = [v] ∧ H a = some (.ins C dx fs) ∧ Cls K C ∧ NoAttr K C x ∧ fs.length < 1000 ∧ Q .non (upd H a (.ins C dx (putF x v fs)))
theorem ok_fld {x : Str} {ok : List Str} (hk : FldOk C.X.K ok x) : MutOK C (μfld ok x) (rFldSet C.X.K x) := by
  intro F H d0 d1 d2 v0 q qa ds vs Q rp rps nd nF trk e h
  unfold μfld at e
  split at e
  · rename_i C' fs d
    split at e
    · rename_i hC
      cases e
      obtain ⟨a, dx, gs, q1, rfl, rf, ow⟩ := rp
      obtain ⟨v, rfl, rv⟩ := reps_one rps
      have eq := ow.2
      subst eq
      have nd' : (a :: (q1 ++ qa)).Nodup := nd
      have na := (List.nodup_cons.mp nd').1
      obtain ⟨l, q0, r', e1, rf'⟩ := repF_put (x := x) rf rv
      obtain ⟨p1, p2⟩ := perm3 (r := qa) e1
      have st : Stab F F H (upd H a (.ins (He.ga C.X.K C') dx (putF x v gs))) (l ++ (qa ++ r')) := stab_mut ow.1 free_ins (fun hb => na ((p1 _ hb).elim (List.mem_append_left _) (List.mem_append_right _))) (nF a (by simp))
      refine ⟨a, _, dx, gs, v, rfl, rfl, ow.1, (hk C' hC.1).1, (hk C' hC.1).2, by rw [← repF_len rf]; exact hC.2, ?_⟩
      refine h .non _ (a :: (l ++ (qa ++ r'))) [] ?_ (fun T t => tabs_upd t ow.1 free_ins) ⟨a, dx, _, _, rfl, repF_mono rf' st, ⟨upd_same, rfl⟩⟩ ⟨rfl, rfl⟩ ?_
      · refine (Ext.mut (by simp) (by rw [ow.1]; intro z; cases z)).sub fun b hb => ?_
        rw [List.append_nil] at hb
        rcases List.mem_cons.mp hb with rfl | hb
        · simp
        · rcases p1 b hb with h | h <;> simp [h]
      · rw [List.append_nil]
        refine List.nodup_cons.mpr ⟨fun hb => na ?_, p2 (List.nodup_cons.mp nd').2⟩
        rcases p1 a hb with h | h <;> simp [h]
    · cases e
  · cases e
def sfld (ok : List Str) (x : Str) (fx : XF) (f : PF) : SF := sx fx fun d env => match f env with
  | some ((i, π), e1) => (match atW e1 i π with
    | some _ => (match modW e1 i π fun c => μfld ok x c [d] with
      | some (_, e3) => some (.nx, e3)
      | none => none)
    | none => none)
  | none => none
theorem s_fld {o value : Expr} {x : Str} {pos' : Pos} {ok : List Str} {fx : XF} {f : PF} (hk : FldOk C.X.K ok x) (hv : PE C.X value (TX C true fx)) (ho : PE C.X o (TP C true f)) (hs : swapsWith value (some (.Attribute o x pos')) pos.line C.X.env = pure false := by rfl) :
    PS C.X (.Assign [.Attribute o x pos'] value pos) (TSx C (sfld ok x fx f)) := psImp (ps_fld ho hv hs) fun En σ H h => tx_imp (tsx_x h) fun v H1 ⟨F1, p1, q1, e1, d, fl, env', rel1, rp1, ap1, e, post⟩ => by
    split at e
    case h_2 => cases e
    rename_i i π e2 ef
    split at e
    case h_2 => cases e
    rename_i c1 ec1
    split at e
    case h_2 => cases e
    rename_i d2 e3 em
    cases e
    refine ⟨F1, p1, e1, rel1, _, _, _, _, ef, ec1, fun v0 w0 H2 F2 p2 x2 rel2 ev pa is0 => ?_⟩
    have th : ∀ a ∈ q1, H1 a ≠ none := fun a ha => ne_of_ow (rep_there rp1 a ha)
    obtain ⟨n1, n2⟩ := x2.apart ap1 th
    have rv : C.rep F2 H2 d v q1 := rep_mono rp1 (x2.stab rel1.dis rel1.ow fun _ => ap1.dis)
    have rps : C.reps F2 H2 [d] [v] q1 := ⟨v, [], q1, [], rfl, rv, ⟨rfl, rfl⟩, (List.append_nil _).symm⟩
    obtain ⟨a, C', dx, fs, v', h1, h2, h3, h4, h5, h6, z⟩ := rel2.modW (Q := fun _ H' => En.nx σ H') (ok_fld hk) ev pa rps ⟨ap1.nd, n1, n2⟩ em fun u H3 p3 q3 x3 rel3 ru ap3 => by
      refine post σ H3 F2 p3 ?_ rel3
      have z := x2.beside q1 []
      rw [List.append_nil, List.append_nil] at z
      exact z.trans (x3.sub fun a h => List.mem_append_right _ h)
    cases h2
    exact ⟨a, C', dx, fs, h1, h3, h4, h5, h6, z⟩
/-! ### name op= e (ints) -/
def saug (i : Nat) (op : Int → Int → Int) (f : XF) : SF := fun env => match env[i]? with
  | some (some (.int a)) => (match f env with
    | some (.val (.int b), e1) => (match e1[i]? with
      | some _ => some (.nx, e1.set i (some (.int (op a b))))
      | none => none)
    | some (.exc c fs, e1) => some (.exc c fs, e1)
    | _ => none)
  | _ => none
theorem s_aug {i : Nat} {x : Str} {e : Expr} {f : XF} {op : Operator} {g : Int → Int → Int} {pos' : Pos} (hN : C.X.N.Nodup) (hi : C.X.N[i]? = some x) (hx : Loc C.X.env.scope x) (he : PE C.X e (TX C true f)) (ho : PIp C.X op (ipI g)) (hfx : i ∉ C.fx) (hf : C.X.fn x = true ∨ C.X.env.scope.names.lookup x = some .local := by first | exact .inl rfl | exact .inr rfl | assumption) :
    PS C.X (.AugAssign (.Name x pos') op e pos) (TSx C (saug i g f)) := psImp (ps_aug hN hi hx he ho hf) fun En σ H ⟨F, p, env, rel, fl, env', e, post⟩ => by
    unfold saug at e
    split at e
    · rename_i a ea
      obtain ⟨v, q, ev, rp, _⟩ := rel.slot ea
      refine ⟨v, ev, F, p, env, rel, ?_⟩
      have ev' := rp.1
      subst ev'
      split at e
      · rename_i b e1 ef
        refine ⟨_, _, ef, fun y H1 F1 p1 q1 x1 rel1 rp1 ap1 => ?_⟩
        split at e
        · rename_i z ez
          cases e
          refine ⟨a, b, rfl, rp1.1, ?_⟩
          obtain ⟨p', rel', sub⟩ := rel1.put (d := .int (g a b)) (v := .int (g a b)) (q := []) (lt_of_some ez) hfx ⟨rfl, rfl⟩ Apart.nil
          exact post _ H1 F1 p' (x1.sub fun a h => List.mem_append_right _ (by simpa using sub a h)) rel'
        · cases e
      · rename_i c fs e1 ef
        cases e
        exact ⟨_, _, ef, fun dx H1 F1 p1 x1 rel1 ed => post dx σ H1 F1 p1 x1 rel1 ed⟩
      · cases e
    · cases e
/-! ### a dict displayed -/
theorem emptyFlat (P : Program) (w : World) : FlatD P w { cls := .type "dict", data := .dict #[] } [] := ⟨⟨rfl, rfl, rfl⟩, ⟨#[], 0, rfl, fun e h => by simp at h, .nil⟩, List.nodup_nil, Nat.zero_le _⟩
def rStores (X : Cx) (x : V) : List (V × V) → Hp → (Hp → Prop) → Prop
  | [], H, Q => Q H
  | (y, v) :: r, H, Q => rDSet X x y v H fun H' => rStores X x r H' Q
def tDispO (X : Cx) (trs : List (TE × TE)) : TE := fun σ H Q => ∀ L od, H L = none → (L == sysModules) = false → FlatD X.prog X.w od [] → tPairs trs σ (upd H L (objO L od)) fun ps H2 => rStores X (.ref L) ps H2 fun H3 => Q (.ref L) H3
theorem stores_walk {X : Cx} {pins : List (Addr × Obj)} {σ : L2.St} {L : Addr} {E : Value → Shared → Prop} (hu : X.A.units + 16 < cLine) : ∀ {ps : List (V × V)} {ws : List (Value × Value)} {H : Hp} {s : Shared} {Q : Hp → Prop}, VV ps ws → Inv X pins σ H s → rStores X (.ref L) ps H Q →
    wpAny (model X.prog X.w) X.A (storeAll L ws) (fun _ s' => ∃ H', Inv X pins σ H' s' ∧ Q H') E s
  | [], _, H, s, Q, .nil, I, h => by
    unfold storeAll
    exact wpAny_pure ⟨H, I, h⟩
  | (y, v) :: ps, _, H, s, Q, .cons r t, I, h => by
    have h : rDSet X (.ref L) y v H fun H' => rStores X (.ref L) ps H' Q := h
    unfold storeAll
    rw [List.forIn_cons]
    refine wpAny_bind (wpAny_bind (wpAny_mono (set_dict2 hu I r.1 r.2 h) (fun _ s' ⟨H', I', h'⟩ => wpAny_pure ?_) fun _ _ e => e))
    exact stores_walk hu t I' h'
theorem pe_dispO {X : Cx} {pos : Pos} {keys : List (Option Expr)} {values : List Expr} {trs : List (TE × TE)} (hu : X.A.units + 16 < cLine) (h : PPs X pos keys values trs) (hall : keys.all (·.isSome) = true) (hl : keys.length = values.length) (h0 : keys ≠ [])
    (h15 : keys.length ≤ 15) : PE X (.Dict keys values pos) (tDispO X trs) := by
  refine ⟨fun pins s σ H Q I q => ?_⟩
  have hn := I.hok.fresh (Nat.le_refl s.heap.objs.size)
  have g : (s.heap.push { cls := .type "dict", data := .dict #[] }).get? s.heap.objs.size = some { cls := .type "dict", data := .dict #[] } := Heap.get?_push_size _ rfl
  have I1 := I.laid (a := s.heap.objs.size) (o := objO s.heap.objs.size { cls := .type "dict", data := .dict #[] }) (h' := s.heap.push { cls := .type "dict", data := .dict #[] }) (t' := s.toks) (fun _ _ q => Heap.get?_push_of_some _ q) (Nat.le_refl _) ⟨g, ⟨_, g⟩, fun h1 h2 p k => k _ p⟩
  have sm : (s.heap.objs.size == sysModules) = false := beq_eq_false_iff_ne.mpr (Ne.symm (Nat.ne_of_lt I.big))
  refine wpAny_Dict_any hall hl h0 h15 (thn (h.run pins _ σ _ _ I1 (q _ _ hn sm (emptyFlat _ _))) fun ws s2 ⟨ps, H2, I2, rel, q2⟩ => ?_)
  exact wpAny_mono (stores_walk hu rel I2 q2) (fun _ s' ⟨H', I', q'⟩ => ⟨.ref s.heap.objs.size, H', I', rfl, q'⟩) fun _ _ e => e
theorem pe_dispO0 {X : Cx} {pos : Pos} : PE X (.Dict [] [] pos) (tDispO X []) := by
  refine ⟨fun pins s σ H Q I q => ?_⟩
  have hn := I.hok.fresh (Nat.le_refl s.heap.objs.size)
  have g : (s.heap.push { cls := .type "dict", data := .dict #[] }).get? s.heap.objs.size = some { cls := .type "dict", data := .dict #[] } := Heap.get?_push_size _ rfl
  have I1 := I.laid (a := s.heap.objs.size) (o := objO s.heap.objs.size { cls := .type "dict", data := .dict #[] }) (h' := s.heap.push { cls := .type "dict", data := .dict #[] }) (t' := s.toks) (fun _ _ q => Heap.get?_push_of_some _ q) (Nat.le_refl _) ⟨g, ⟨_, g⟩, fun h1 h2 p k => k _ p⟩
  have sm : (s.heap.objs.size == sysModules) = false := beq_eq_false_iff_ne.mpr (Ne.symm (Nat.ne_of_lt I.big))
  exact wpAny_Dict_empty ⟨.ref s.heap.objs.size, _, I1, rfl, q _ _ hn sm (emptyFlat _ _)⟩
def gpairs : List (XF × XF) → AF
  | [] => nilA
  | (k, v) :: r => consA k (consA v (gpairs r))
def dfill : List (D × D) → List D → Option (List (D × D))
  | kvs, [] => some kvs
  | kvs, k :: v :: r => (match dput kvs k v with
    | some kvs' => dfill kvs' r
    | none => none)
  | _, [_] => none
def xdic (l : List (XF × XF)) : XF := fun env => match gpairs l env with
  | some (.vals as, e1) => (match tmps as with
    | some ds => (match dfill [] ds with
      | some kvs => some (.val (.dic true kvs), e1)
      | none => none)
    | none => none)
  | some (.exc c fs, e1) => some (.exc c fs, e1)
  | none => none
def pairup : List V → List (V × V)
  | y :: v :: r => (y, v) :: pairup r
  | _ => []
theorem tax_pairs : ∀ {l : List (XF × XF)} {σ : St} {H : Hp} {Q : List (V × V) → Hp → Prop}, TAX C m (gpairs l) σ H (fun vs H' => Q (pairup vs) H') → tPairs (l.map fun x => (TX C m x.1, TX C m x.2)) σ H Q
  | [], σ, H, Q, h => tax_nil h
  | (k, v) :: r, σ, H, Q, h => tx_imp (tax_cons h) fun x H1 z => tx_imp (tax_cons z) fun y H2 z => tax_pairs (l := r) z
theorem stores_ok {L : Addr} {Q : Hp → Prop} (nF : ¬ F L) : ∀ {ds : List D} {vs : List V} {qr qd : List Addr} {kvs kvs' : List (D × D)} {H : Hp}, C.reps F H ds vs qr → C.rep F H (.dic true kvs) (.ref L) (L :: qd) → L ∉ qd ++ qr → (qd ++ qr).Nodup → dfill kvs ds = some kvs' →
    (∀ H' qd', C.rep F H' (.dic true kvs') (.ref L) (L :: qd') → (∀ b, b ≠ L → H' b = H b) → (∀ T, LamX.Tabs T H → LamX.Tabs T H') → (∀ b ∈ qd', b ∈ qd ∨ b ∈ qr) → qd'.Nodup → Q H') → rStores C.X (.ref L) (pairup vs) H Q
  | [], vs, qr, qd, kvs, kvs', H, x, rp, na, nd, e, h => by
    obtain ⟨rfl, rfl⟩ := x
    cases e
    exact h H qd rp (fun _ _ => rfl) (fun _ t => t) (fun b hb => .inl hb) (by simpa using nd)
  | [k], vs, qr, qd, kvs, kvs', H, x, rp, na, nd, e, h => by cases e
  | k :: d :: ds, vs, qr, qd, kvs, kvs', H, x, rp, na, nd, e, h => by
    obtain ⟨y, ws, q1, q2, rfl, ry, x, hq⟩ := x
    obtain ⟨v, us, q3, q4, rfl, rv, x, hq2⟩ := x
    subst hq2 hq
    unfold dfill at e
    split at e
    · rename_i kvs1 e1
      have fr := key_fro e1
      have eq := fro_nil fr ry
      subst eq
      have na' : L ∉ qd ++ (q3 ++ q4) := na
      have nd' : (qd ++ (q3 ++ q4)).Nodup := nd
      have hd : L ∉ qd ++ q3 := fun h => na' ((List.mem_append.mp h).elim (List.mem_append_left _) fun h => List.mem_append_right _ (List.mem_append_left _ h))
      show rDSet C.X (.ref L) y v H fun H' => rStores C.X (.ref L) (pairup us) H' Q
      refine dset_ok rp ⟨_, ry⟩ rv e1 hd nF fr fun od' q' rp' sub ndq ⟨od0, ea, ep, ha, hdt⟩ => ?_
      have n4 : L ∉ q4 := fun h => na' (List.mem_append_right _ (List.mem_append_right _ h))
      have nd3 : (qd ++ q3).Nodup ∧ q4.Nodup ∧ ∀ a ∈ qd ++ q3, ∀ b ∈ q4, a ≠ b := by
        rw [← List.append_assoc] at nd'
        exact List.nodup_append.mp nd'
      refine stores_ok nF (reps_mono x (stab_mut ha (free_obj hdt) n4 nF)) rp' (fun h => ?_) ?_ e fun H' qd' rp2 same tabs sub2 nd2 => ?_
      · rcases List.mem_append.mp h with h | h
        · exact hd ((sub _ h).elim (List.mem_append_left _) (List.mem_append_right _))
        · exact n4 h
      · exact List.nodup_append.mpr ⟨ndq nd3.1, nd3.2.1, fun a ha b hb => nd3.2.2 a ((sub a ha).elim (List.mem_append_left _) (List.mem_append_right _)) b hb⟩
      · refine h H' qd' rp2 (fun b hb => ?_) (fun T t => tabs T (tabs_upd t ha (free_obj hdt))) (fun b hb => ?_) nd2
        · rw [same b hb, upd_ne hb]
        · rcases sub2 b hb with h | h
          · rcases sub b h with h | h
            · exact .inl h
            · exact .inr (List.mem_append_right _ (List.mem_append_left _ h))
          · exact .inr (List.mem_append_right _ (List.mem_append_right _ h))
    · cases e
theorem tx_dic {l : List (XF × XF)} {Q : VK} (h : TX C m (xdic l) σ H Q) : tDispO C.X (l.map fun x => (TX C m x.1, TX C m x.2)) σ H Q := by
  intro L od hL sm fd
  obtain ⟨F, p, env, rel, r, env', e, post⟩ := h
  refine tax_pairs ?_
  have gr := grow_upd (o := objO L od) hL
  have rel0 := rel.grow gr
  have nLp : L ∉ p := fun h => rel.there L h hL
  have nLF : ¬ F L := fun h => rel.trk L h hL
  have x0 : Ext m F H p F (upd H L (objO L od)) p := (Ext.grow (q := []) gr fun a h => by cases h)
  have xL : Ext m F H p F (upd H L (objO L od)) (L :: p) := Ext.laid hL
  refine ⟨F, p, env, rel0, ?_⟩
  unfold xdic at e
  split at e
  · rename_i as e1 eg
    refine ⟨_, _, eg, fun vs H1 F1 p1 q1 x1 rel1 ar1 ap1 => ?_⟩
    split at e
    · rename_i ds ed
      split at e
      · rename_i kvs ek
        cases e
        have rps := arP_reps ed ar1
        have hL0 : upd H L (objO L od) L = some (objO L od) := upd_same
        have hL1 : H1 L = some (objO L od) := x1.keep L _ hL0 (fun _ z => nomatch z) fun _ => nLp
        have n1 : L ∉ q1 ++ p1 := fun h => (x1.own L h).elim nLp fun z => by rw [hL0] at z; cases z
        have n2 : ¬ F1 L := fun h => (x1.new L h).elim nLF fun z => z.elim nLp fun z => by rw [hL0] at z; cases z
        have rp0 : C.rep F1 H1 (.dic true []) (.ref L) [L] := ⟨L, od, [], rfl, sm, ⟨hL1, rfl⟩, .inl ⟨[], [], ⟨rfl, rfl⟩, .nil, fd⟩⟩
        refine stores_ok n2 rps rp0 (fun h => n1 (List.mem_append_left _ (by simpa using h))) (by simpa using ap1.nd) ek fun H' qd' rp' same tabs sub nd => ?_
        have sub' : ∀ b ∈ qd', b ∈ q1 := fun b hb => (sub b hb).elim (fun h => by cases h) id
        have st : Stab F1 F1 H1 H' p1 := ⟨fun _ h => h, fun b u e _ z => by
          rw [same b fun e2 => ?_]
          · exact e
          · subst e2
            rcases z with z | z | ⟨xs, z⟩
            · exact n2 z
            · exact n1 (List.mem_append_right _ z)
            · rw [hL1] at e
              cases e
              cases z⟩
        have thr : ∀ b, H1 b ≠ none → H' b ≠ none := fun b hb => by
          by_cases e : b = L
          · obtain ⟨_, _, _, ez, _, ow, _⟩ := rp'
            cases ez
            rw [e, ow.1]
            intro z
            cases z
          · rw [same b e]; exact hb
        have rel2 : Rel C _ σ F1 H' p1 := ⟨repE_mono rel1.slots st, rel1.nd, rel1.dis, fun b hb => thr b (rel1.trk b hb), tabs _ rel1.tabs, rel1.fx⟩
        refine post (.ref L) H' F1 p1 (L :: qd') ?_ rel2 rp' ⟨List.nodup_cons.mpr ⟨fun h => n1 (List.mem_append_left _ (sub' _ h)), nd⟩, fun b hb => ?_, fun b hb => ?_⟩
        · refine ⟨x1.mono, fun b u e nt z => ?_, fun b hb => thr b (x1.there b (x0.there b hb)), fun b hb => ?_, fun b hb => ?_⟩
          · have nb : b ≠ L := ne_of_none e hL
            rw [same b nb]
            exact x1.keep b u (gr b u e) nt z
          · exact (x1.new b hb).elim .inl fun z => z.elim (fun z => .inr (.inl z)) fun z => .inr (.inr (by
              by_cases e : b = L
              · rw [e]; exact hL
              · rw [upd_ne e] at z; exact z))
          · have go : ∀ {b}, b ∈ q1 ++ p1 → b ∈ p ∨ H b = none := fun {b} h => (x1.own b h).elim .inl fun z => .inr (by
              by_cases e : b = L
              · rw [e]; exact hL
              · rw [upd_ne e] at z; exact z)
            rcases List.mem_append.mp hb with hb | hb
            · rcases List.mem_cons.mp hb with rfl | hb
              · exact .inr hL
              · exact go (List.mem_append_left _ (sub' b hb))
            · exact go (List.mem_append_right _ hb)
        · rcases List.mem_cons.mp hb with rfl | hb
          · exact fun h => n1 (List.mem_append_right _ h)
          · exact ap1.dis b (sub' b hb)
        · rcases List.mem_cons.mp hb with rfl | hb
          · exact n2
          · exact ap1.fr b (sub' b hb)
      · cases e
    · cases e
  · rename_i c fs e1 eg
    cases e
    exact ⟨_, _, eg, fun dx H1 F1 p1 x1 rel1 ed => post dx H1 F1 p1 (x0.trans x1) rel1 ed⟩
  · cases e
theorem x_dic {keys : List (Option Expr)} {values : List Expr} {l : List (XF × XF)} (hu : C.X.A.units + 16 < cLine) (h : PPs C.X pos keys values (l.map fun x => (TX C m x.1, TX C m x.2))) (hall : keys.all (·.isSome) = true := by rfl) (hl : keys.length = values.length := by rfl) (h0 : keys ≠ [] := by simp)
    (h15 : keys.length ≤ 15 := by decide) : PE C.X (.Dict keys values pos) (TX C m (xdic l)) := peImp (pe_dispO hu h hall hl h0 h15) fun σ H Q z => tx_dic z
theorem x_dic0 : PE C.X (.Dict [] [] pos) (TX C m (xdic [])) := peImp pe_dispO0 fun σ H Q z => tx_dic z
end
end DL

namespace DL
open PySem PySem.Spec PyProof.Rows L2
/-! ### sorted -/
def insS {α : Type} (le : α → α → Bool) (a : α) : List α → List α
  | [] => [a]
  | b :: l => if le a b = true then a :: b :: l else b :: insS le a l
def isort {α : Type} (le : α → α → Bool) : List α → List α
  | [] => []
  | a :: l => insS le a (isort le l)
theorem insS_at {α : Type} {le : α → α → Bool} {a : α} : ∀ {l1 l2 : List α}, (∀ b ∈ l1, le a b = false) → (∀ b ∈ l2, le a b = true) → insS le a (l1 ++ l2) = l1 ++ a :: l2
  | [], [], _, _ => rfl
  | [], b :: l2, _, h => by
    show insS le a (b :: l2) = a :: b :: l2
    unfold insS
    rw [if_pos (h b List.mem_cons_self)]
  | b :: l1, l2, h, h2 => by
    show insS le a (b :: (l1 ++ l2)) = b :: (l1 ++ a :: l2)
    unfold insS
    rw [if_neg (by rw [h b List.mem_cons_self]; exact Bool.false_ne_true), insS_at (fun c hc => h c (List.mem_cons_of_mem _ hc)) h2]
theorem mergeSort_isort {α : Type} {le : α → α → Bool} (tr : ∀ a b c, le a b = true → le b c = true → le a c = true) (tot : ∀ a b, (le a b || le b a) = true) : ∀ l : List α, l.mergeSort le = isort le l
  | [] => by simp [isort]
  | a :: l => by
    obtain ⟨l1, l2, h1, h2, h3⟩ := List.mergeSort_cons tr tot a l
    unfold isort
    rw [← mergeSort_isort tr tot l, h1, h2]
    have s := List.pairwise_mergeSort tr tot (a :: l)
    rw [h1] at s
    have s2 := (List.pairwise_append.mp s).2.1
    exact (insS_at (fun b hb => by have := h3 b hb; simpa using this) fun b hb => (List.pairwise_cons.mp s2).1 b hb).symm
theorem dataLe_isort {β : Type} (rev : Bool) (k : β → PyData) (l : List β) : l.mergeSort (PySem.W.dataLe rev k) = isort (PySem.W.dataLe rev k) l := by
  have T : PySem.W.TotalLe (PySem.W.dataLe rev k) := by
    unfold PySem.W.dataLe
    exact PySem.W.sortLe_total _ _ _
  exact mergeSort_isort T.trans (fun a b => by rw [Bool.or_eq_true]; exact T.total a b) l
theorem isort_perm {α : Type} {le : α → α → Bool} : ∀ l : List α, (isort le l).Perm l
  | [] => .nil
  | a :: l => by
    have ins : ∀ (a : α) (l : List α), (insS le a l).Perm (a :: l) := fun a l => by
      induction l with
      | nil => exact .refl _
      | cons b l ih =>
        unfold insS
        split
        · exact .refl _
        · exact (List.Perm.cons b ih).trans (List.Perm.swap a b l)
    exact (ins a (isort le l)).trans (List.Perm.cons a (isort_perm l))
section
variable {C : Ctx} {m : Bool} {F F1 F' : FS} {H H1 H' : Hp} {p p1 p' q r : List Addr} {σ : St} {env : Env} {En : Ends} {pos : Pos}
/-- all alike, and no list of None, nothing in a tuple -/
def alikeB (ys : List PyData) : Bool := ys.all fun x => ys.all fun y => PySem.W.alike x y
def isTupD : PyData → Bool
  | .tuple (_ :: _) => true
  | _ => false
def noTupD : PyData → Bool
  | .none => false
  | .tuple _ => false
  | _ => true
def sortB (ys : List PyData) : Bool := alikeB ys && (ys.all isTupD || ys.all noTupD) && ys.all fun y => decide (y.depth ≤ 64)
def sortD (xs : List D) (ys : List PyData) : List D := (isort (PySem.W.dataLe false fun (b : D × PyData) => b.2) (xs.zip ys)).map (·.1)
def φSorted : List D → Option D
  | [.lst _ xs] => if xs.all fro = true ∧ xs.length ≤ SZ then (match toPys xs with
    | some ys => if sortB ys = true then some (.lst true (sortD xs ys)) else none
    | none => none) else none
  | _ => none
theorem toPys_len : ∀ {xs : List D} {ys : List PyData}, toPys xs = some ys → xs.length = ys.length
  | [], ys, e => by cases e; rfl
  | d :: ds, ys, e => by
    unfold toPys at e
    split at e
    · rename_i x xs h1 h2
      cases e
      rw [List.length_cons, List.length_cons, toPys_len h2]
    · cases e
abbrev rSortD (K : PySem.W.Frag) : List V → Hp → VK → Prop := fun vs H Q => ∃ (a : Addr) (us : List V) (ys : List PyData), vs = [V.ref a] ∧ SqL K H a us ∧ DpAll K H us ys ∧ sortB ys = true ∧ us.length = ys.length ∧ us.length ≤ SZ ∧
  ∀ p, H p = none → Q (.ref p) (upd H p (.lst ((isort (PySem.W.dataLe false fun (b : V × PyData) => b.2) (us.zip ys)).map (·.1))))
theorem each_zip {R : Value → V × PyData → Prop} : ∀ {its : List Value} {us : List V} {ys : List PyData}, Vals us its → us.length = ys.length → (∀ u v y, RelV u v → R v (u, y)) → PySem.W.EachIs R its (us.zip ys)
  | _, _, [], .nil, _, _ => .nil
  | _, _, y :: ys, .cons r t, hl, h => .cons (h _ _ _ r) (each_zip t (by simpa using hl) h)
  | _, _, y :: ys, .nil, hl, _ => by cases hl
  | _, _, [], .cons _ _, hl, _ => by cases hl
theorem zip_map2 : ∀ {us : List V} {ys : List PyData}, us.length = ys.length → (us.zip ys).map (·.2) = ys
  | [], [], _ => rfl
  | u :: us, y :: ys, h => by
    rw [List.zip_cons_cons, List.map_cons, zip_map2 (by simpa using h)]
theorem vals_each : ∀ {out : List Value} {bs : List (V × PyData)}, PySem.W.EachIs (fun v b => RelV b.1 v) out bs → Vals (bs.map (·.1)) out
  | _, _, .nil => .nil
  | _, _, .cons r t => .cons r (vals_each t)
theorem call_sortD (hu : C.X.A.units + 70 < cLine) : CallR C.X (.builtin "sorted") (rSortD C.X.K) := by
  intro pins s σ H vs us Q I r h
  obtain ⟨a, xs, ys, rfl, hs, hd, sb, hl, hz, q⟩ := h
  obtain ⟨its, rv, pl, _⟩ := I.list hs
  rw [Vals.ref1 r]
  unfold sortB at sb
  rw [Bool.and_eq_true, Bool.and_eq_true] at sb
  obtain ⟨⟨al, so⟩, dep⟩ := sb
  obtain ⟨as, rd⟩ := Dp.readsAll I ys xs its hd rv
  have z2 := zip_map2 hl
  have hal : PySem.W.AllAlike ((xs.zip ys).map (·.2)) := by
    rw [z2]
    intro d hd d' hd'
    exact List.all_eq_true.mp (List.all_eq_true.mp al d hd) d' hd'
  have hk : PySem.W.Sortable ((xs.zip ys).map (·.2)) := by
    rw [z2]
    rw [Bool.or_eq_true] at so
    rcases so with so | so
    · refine .inl fun d hd => ?_
      have := List.all_eq_true.mp so d hd
      cases d <;> first | (cases this; done) | skip
      rename_i zs
      cases zs with
      | nil => cases this
      | cons z zs => exact ⟨z, zs, rfl⟩
    · refine .inr fun d hd => ?_
      have := List.all_eq_true.mp so d hd
      cases d <;> first | (cases this; done) | exact ⟨(fun z => by cases z), (fun _ z => by cases z)⟩
  have er : PySem.W.EachIs (fun v (b : V × PyData) => ∃ as, Reads s.heap v b.2 as) its (xs.zip ys) := by
    have e0 : PySem.W.EachIs (fun v (d : PyData) => ∃ as, Reads s.heap v d as) its ((xs.zip ys).map (·.2)) := by
      rw [z2]
      exact PySem.W.readsAll_each id (as := as) (by simpa using rd)
    exact PySem.W.each_of_map (R := fun v (d : PyData) => ∃ as, Reads s.heap v d as) (fun b : V × PyData => b.2) e0
  refine PySem.W.sorted_data (R := fun v (b : V × PyData) => RelV b.1 v) (enc := fun b => b.2) pl.isList (each_zip rv hl fun _ _ _ r => r) er hal hk (by rw [List.length_zip, hl, Nat.min_self, ← hl]; exact le_line hz) (fun b hb => ?_) fun out ho e => ?_
  · have := List.all_eq_true.mp dep b.2 (by rw [← z2]; exact List.mem_map.mpr ⟨b, hb, rfl⟩)
    have := of_decide_eq_true this
    omega
  · obtain ⟨ep, he'⟩ := PyProof.Rows.sortedAll_at s.heap its out.toArray
    rw [dataLe_isort] at e
    have v := vals_each e
    have hlen : ((isort (PySem.W.dataLe false fun (b : V × PyData) => b.2) (xs.zip ys)).map (·.1)).length ≤ sizeLine := by
      rw [List.length_map, (isort_perm _).length_eq, List.length_zip, hl, Nat.min_self, ← hl]
      exact le_line hz
    exact ⟨.ref _, upd H (s.heap.objs.size + 1) (.lst ((isort (PySem.W.dataLe false fun (b : V × PyData) => b.2) (xs.zip ys)).map (·.1))), I.laid (t' := s.toks) (fun _ _ => PyProof.Rows.sortedAll_old) (Nat.le_succ _) ⟨hlen, out, ep, v, he'⟩, rfl, q _ (I.hok.fresh (Nat.le_succ _))⟩
/-- the same order for data and for what stands for them -/
theorem isort_map {α β : Type} {le : β → β → Bool} (f : α → β) : ∀ l : List α, (isort (fun a b => le (f a) (f b)) l).map f = isort le (l.map f)
  | [] => rfl
  | a :: l => by
    have ins : ∀ (a : α) (l : List α), (insS (fun a b => le (f a) (f b)) a l).map f = insS le (f a) (l.map f) := fun a l => by
      induction l with
      | nil => rfl
      | cons b l ih =>
        rw [List.map_cons]
        show (if le (f a) (f b) = true then a :: b :: l else b :: insS _ a l).map f = if le (f a) (f b) = true then f a :: f b :: l.map f else f b :: insS le (f a) (l.map f)
        by_cases h : le (f a) (f b) = true
        · rw [if_pos h, if_pos h]; rfl
        · rw [if_neg h, if_neg h, List.map_cons, ih]
    show (insS _ a (isort _ l)).map f = insS le (f a) (isort le (l.map f))
    rw [ins, isort_map f l]
theorem reps_of : ∀ {l : List (D × V)}, (∀ x ∈ l, C.rep F H x.1 x.2 []) → C.reps F H (l.map (·.1)) (l.map (·.2)) []
  | [], _ => ⟨rfl, rfl⟩
  | x :: l, h => ⟨x.2, _, [], [], rfl, h x List.mem_cons_self, reps_of fun y hy => h y (List.mem_cons_of_mem _ hy), rfl⟩
theorem reps_zip : ∀ {xs : List D} {us : List V}, C.reps F H xs us [] → ∀ x ∈ xs.zip us, C.rep F H x.1 x.2 []
  | [], _, ⟨e, _⟩, x, hx => by rw [e] at hx; cases hx
  | d :: ds, _, ⟨v, ws, q1, q2, e, x1, x2, hq⟩, x, hx => by
    obtain ⟨rfl, rfl⟩ := List.append_eq_nil_iff.mp hq.symm
    subst e
    rw [List.zip_cons_cons] at hx
    rcases List.mem_cons.mp hx with rfl | hx
    · exact x1
    · exact reps_zip x2 x hx
theorem zip3_1 : ∀ (xs : List D) (us : List V) (ys : List PyData), xs.length = ys.length → us.length = ys.length → ((xs.zip us).zip ys).map (fun z => (z.1.1, z.2)) = xs.zip ys
  | [], us, ys, h1, h2 => by
    cases ys with
    | nil => simp
    | cons y ys => cases h1
  | x :: xs, us, ys, h1, h2 => by
    cases ys with
    | nil => cases h1
    | cons y ys =>
      cases us with
      | nil => cases h2
      | cons u us => rw [List.zip_cons_cons, List.zip_cons_cons, List.map_cons, zip3_1 xs us ys (by simpa using h1) (by simpa using h2), List.zip_cons_cons]
theorem zip3_2 : ∀ (xs : List D) (us : List V) (ys : List PyData), xs.length = ys.length → us.length = ys.length → ((xs.zip us).zip ys).map (fun z => (z.1.2, z.2)) = us.zip ys
  | [], us, ys, h1, h2 => by
    cases ys with
    | nil =>
      cases us with
      | nil => rfl
      | cons u us => cases h2
    | cons y ys => cases h1
  | x :: xs, us, ys, h1, h2 => by
    cases ys with
    | nil => cases h1
    | cons y ys =>
      cases us with
      | nil => cases h2
      | cons u us => rw [List.zip_cons_cons, List.zip_cons_cons, List.map_cons, zip3_2 xs us ys (by simpa using h1) (by simpa using h2), List.zip_cons_cons]
theorem sort_reps {xs : List D} {us : List V} {ys : List PyData} (rp : C.reps F H xs us []) (h1 : xs.length = ys.length) (h2 : us.length = ys.length) : C.reps F H (sortD xs ys) ((isort (PySem.W.dataLe false fun (b : V × PyData) => b.2) (us.zip ys)).map (·.1)) [] := by
  have e1 : sortD xs ys = ((isort (fun a b => PySem.W.dataLe false (fun (b : PyData) => b) a.2 b.2) ((xs.zip us).zip ys)).map (·.1)).map (·.1) := by
    unfold sortD
    rw [← zip3_1 xs us ys h1 h2, ← isort_map (le := PySem.W.dataLe false fun (b : D × PyData) => b.2) (fun z : (D × V) × PyData => (z.1.1, z.2)), List.map_map, List.map_map]
    rfl
  have e2 : (isort (PySem.W.dataLe false fun (b : V × PyData) => b.2) (us.zip ys)).map (·.1) = ((isort (fun a b => PySem.W.dataLe false (fun (b : PyData) => b) a.2 b.2) ((xs.zip us).zip ys)).map (·.1)).map (·.2) := by
    rw [← zip3_2 xs us ys h1 h2, ← isort_map (le := PySem.W.dataLe false fun (b : V × PyData) => b.2) (fun z : (D × V) × PyData => (z.1.2, z.2)), List.map_map, List.map_map]
    rfl
  rw [e1, e2]
  refine reps_of fun x hx => ?_
  obtain ⟨z, hz, rfl⟩ := List.mem_map.mp hx
  have hm := (isort_perm (le := fun (a b : (D × V) × PyData) => PySem.W.dataLe false (fun (b : PyData) => b) a.2 b.2) ((xs.zip us).zip ys)).mem_iff.mp hz
  exact reps_zip rp z.1 (List.of_mem_zip hm).1
theorem ok_sorted : RdOK C φSorted (rSortD C.X.K) := by
  intro F H ds vs d Q hs trk e h
  unfold φSorted at e
  split at e
  · rename_i o xs
    split at e
    · rename_i hf
      split at e
      · rename_i ys ey
        split at e
        · rename_i hsb
          cases e
          obtain ⟨x, rfl, h1⟩ := iss1 hs
          obtain ⟨a, us, q1, rfl, ha, ra, _⟩ := is_lst h1
          have z := reps_fro hf.1 ra
          subst z
          have l1 := toPys_len ey
          have l2 := reps_len ra
          refine ⟨a, us, ys, rfl, SqL.of ha, reps_dp ra ey, hsb, by rw [← l2, l1], by rw [← l2]; exact hf.2, fun p hp => ?_⟩
          exact h _ _ [p] (grow_upd hp) (fun a h => by cases List.mem_singleton.mp h; exact hp) (by simp) (new_lst (sort_reps ra l1 (by rw [← l2, l1])) hp)
        · cases e
      · cases e
    · cases e
  · cases e
/-! ### sum, all, any, max and min of a list -/
def intsOf : List D → Option (List Int)
  | [] => some []
  | .int i :: r => (intsOf r).map (i :: ·)
  | _ => none
def blsOf : List D → Option (List Bool)
  | [] => some []
  | .bl i :: r => (blsOf r).map (i :: ·)
  | _ => none
def strsOf : List D → Option (List Str)
  | [] => some []
  | .str i :: r => (strsOf r).map (i :: ·)
  | _ => none
theorem reps_intsOf : ∀ {xs : List D} {ns : List Int} {us : List V} {q : List Addr}, intsOf xs = some ns → C.reps F H xs us q → us = ns.map V.int
  | [], ns, us, q, e, x => by cases e; exact x.1
  | .int i :: r, ns, us, q, e, ⟨v, ws, q1, q2, e1, x1, x2, _⟩ => by
    unfold intsOf at e
    obtain ⟨z, ez, rfl⟩ := Option.map_eq_some_iff.mp e
    rw [e1, x1.1, reps_intsOf ez x2]
    rfl
theorem reps_blsOf : ∀ {xs : List D} {ns : List Bool} {us : List V} {q : List Addr}, blsOf xs = some ns → C.reps F H xs us q → us = ns.map V.bl
  | [], ns, us, q, e, x => by cases e; exact x.1
  | .bl i :: r, ns, us, q, e, ⟨v, ws, q1, q2, e1, x1, x2, _⟩ => by
    unfold blsOf at e
    obtain ⟨z, ez, rfl⟩ := Option.map_eq_some_iff.mp e
    rw [e1, x1.1, reps_blsOf ez x2]
    rfl
theorem reps_strsOf : ∀ {xs : List D} {ns : List Str} {us : List V} {q : List Addr}, strsOf xs = some ns → C.reps F H xs us q → us = ns.map V.str
  | [], ns, us, q, e, x => by cases e; exact x.1
  | .str i :: r, ns, us, q, e, ⟨v, ws, q1, q2, e1, x1, x2, _⟩ => by
    unfold strsOf at e
    obtain ⟨z, ez, rfl⟩ := Option.map_eq_some_iff.mp e
    rw [e1, x1.1, reps_strsOf ez x2]
    rfl
def maxI : Int → List Int → Int
  | a, [] => a
  | a, b :: r => maxI (if b > a then b else a) r
def minI : Int → List Int → Int
  | a, [] => a
  | a, b :: r => minI (if b < a then b else a) r
theorem maxI_is : ∀ {r : List Int} {a : Int}, maxI a r ∈ a :: r ∧ ∀ y ∈ a :: r, y ≤ maxI a r
  | [], a => ⟨List.mem_cons_self, fun y hy => by
    rw [List.mem_singleton.mp hy]
    exact Int.le_refl _⟩
  | b :: r, a => by
    obtain ⟨h1, h2⟩ := maxI_is (r := r) (a := if b > a then b else a)
    refine ⟨?_, fun y hy => ?_⟩
    · show maxI (if b > a then b else a) r ∈ _
      rcases List.mem_cons.mp h1 with h | h
      · rw [h]
        split <;> simp
      · exact List.mem_cons_of_mem _ (List.mem_cons_of_mem _ h)
    · show y ≤ maxI (if b > a then b else a) r
      have h3 := h2 _ List.mem_cons_self
      have h4 := fun z hz => h2 z (List.mem_cons_of_mem _ hz)
      generalize maxI (if b > a then b else a) r = z at h3 h4
      rcases List.mem_cons.mp hy with rfl | hy
      · split at h3 <;> omega
      · rcases List.mem_cons.mp hy with rfl | hy
        · split at h3 <;> omega
        · exact h4 y hy
theorem minI_is : ∀ {r : List Int} {a : Int}, minI a r ∈ a :: r ∧ ∀ y ∈ a :: r, minI a r ≤ y
  | [], a => ⟨List.mem_cons_self, fun y hy => by
    rw [List.mem_singleton.mp hy]
    exact Int.le_refl _⟩
  | b :: r, a => by
    obtain ⟨h1, h2⟩ := minI_is (r := r) (a := if b < a then b else a)
    refine ⟨?_, fun y hy => ?_⟩
    · show minI (if b < a then b else a) r ∈ _
      rcases List.mem_cons.mp h1 with h | h
      · rw [h]
        split <;> simp
      · exact List.mem_cons_of_mem _ (List.mem_cons_of_mem _ h)
    · show minI (if b < a then b else a) r ≤ y
      have h3 := h2 _ List.mem_cons_self
      have h4 := fun z hz => h2 z (List.mem_cons_of_mem _ hz)
      generalize minI (if b < a then b else a) r = z at h3 h4
      rcases List.mem_cons.mp hy with rfl | hy
      · split at h3 <;> omega
      · rcases List.mem_cons.mp hy with rfl | hy
        · split at h3 <;> omega
        · exact h4 y hy
def φSum : List D → Option D
  | [.lst _ xs] => (intsOf xs).map fun ns => .int ns.sum
  | _ => none
def φAll : List D → Option D
  | [.lst _ xs] => (blsOf xs).map fun ns => .bl (ns.all id)
  | _ => none
def φAny : List D → Option D
  | [.lst _ xs] => (blsOf xs).map fun ns => .bl (ns.any id)
  | _ => none
def φMaxL : List D → Option D
  | [.lst _ xs] => (match intsOf xs with
    | some (a :: r) => some (.int (maxI a r))
    | _ => none)
  | _ => none
def φMinL : List D → Option D
  | [.lst _ xs] => (match intsOf xs with
    | some (a :: r) => some (.int (minI a r))
    | _ => none)
  | _ => none
theorem ok_sum : RdOK C φSum (rSum C.X.K) := by
  intro F H ds vs d Q hs trk e h
  unfold φSum at e
  split at e
  · rename_i o xs
    obtain ⟨ns, en, rfl⟩ := Option.map_eq_some_iff.mp e
    obtain ⟨x, rfl, h1⟩ := iss1 hs
    obtain ⟨a, us, q1, rfl, ha, ra, _⟩ := is_lst h1
    rw [reps_intsOf en ra] at ha
    exact ⟨a, ns, rfl, SqL.of ha, flat h ⟨rfl, rfl⟩⟩
  · cases e
theorem ok_all : RdOK C φAll (rAll C.X.K) := by
  intro F H ds vs d Q hs trk e h
  unfold φAll at e
  split at e
  · rename_i o xs
    obtain ⟨ns, en, rfl⟩ := Option.map_eq_some_iff.mp e
    obtain ⟨x, rfl, h1⟩ := iss1 hs
    obtain ⟨a, us, q1, rfl, ha, ra, _⟩ := is_lst h1
    rw [reps_blsOf en ra] at ha
    exact ⟨a, ns, rfl, SqL.of ha, flat h ⟨rfl, rfl⟩⟩
  · cases e
theorem ok_any : RdOK C φAny (L2.rAny C.X.K) := by
  intro F H ds vs d Q hs trk e h
  unfold φAny at e
  split at e
  · rename_i o xs
    obtain ⟨ns, en, rfl⟩ := Option.map_eq_some_iff.mp e
    obtain ⟨x, rfl, h1⟩ := iss1 hs
    obtain ⟨a, us, q1, rfl, ha, ra, _⟩ := is_lst h1
    rw [reps_blsOf en ra] at ha
    exact ⟨a, ns, rfl, SqL.of ha, flat h ⟨rfl, rfl⟩⟩
  · cases e
theorem ok_maxL : RdOK C φMaxL (rMax C.X.K) := by
  intro F H ds vs d Q hs trk e h
  unfold φMaxL at e
  split at e
  · rename_i o xs
    split at e
    · rename_i b r en
      cases e
      obtain ⟨x, rfl, h1⟩ := iss1 hs
      obtain ⟨a, us, q1, rfl, ha, ra, _⟩ := is_lst h1
      rw [reps_intsOf en ra] at ha
      refine ⟨a, b :: r, rfl, SqL.of ha, Nat.succ_pos _, fun n hn hm => ?_⟩
      obtain ⟨m1, m2⟩ := maxI_is (r := r) (a := b)
      have e : n = maxI b r := Int.le_antisymm (m2 n hn) (hm _ m1)
      rw [e]
      exact flat h ⟨rfl, rfl⟩
    · cases e
  · cases e
theorem ok_minL : RdOK C φMinL (rMin C.X.K) := by
  intro F H ds vs d Q hs trk e h
  unfold φMinL at e
  split at e
  · rename_i o xs
    split at e
    · rename_i b r en
      cases e
      obtain ⟨x, rfl, h1⟩ := iss1 hs
      obtain ⟨a, us, q1, rfl, ha, ra, _⟩ := is_lst h1
      rw [reps_intsOf en ra] at ha
      refine ⟨a, b :: r, rfl, SqL.of ha, Nat.succ_pos _, fun n hn hm => ?_⟩
      obtain ⟨m1, m2⟩ := minI_is (r := r) (a := b)
      have e : n = minI b r := Int.le_antisymm (hm _ m1) (m2 n hn)
      rw [e]
      exact flat h ⟨rfl, rfl⟩
    · cases e
  · cases e
/-! ### slices -/
def xslice (o : Opd) (lo hi : Option XF) (φ : List D → Option D) : XF := pop (consO o (consA (lo.getD (xc .non)) (consA (hi.getD (xc .non)) nilA))) φ
def partI : D → Option (Option Int)
  | .non => some none
  | .int i => some (some i)
  | _ => none
def cutL (xs : List D) (lo hi : Option Int) : List D := (xs.drop (HT.sIx xs.length 0 lo)).take (HT.sIx xs.length xs.length hi - HT.sIx xs.length 0 lo)
/-- a slice of a list, a tuple, a text -/
def φSl : List D → Option D
  | [x, l, u] => (match partI l, partI u with
    | some lo, some hi => (match x with
      | .lst _ xs => if xs.all fro = true then some (.lst true (cutL xs lo hi)) else none
      | .tup xs => some (.tup (cutL xs lo hi))
      | .str s => if s.length ≤ SZ then some (.str (cutS s lo hi)) else none
      | _ => none)
    | _, _ => none)
  | _ => none
end
end DL

namespace DL
open PySem PySem.Spec PyProof.Rows L2
section
variable {C : Ctx} {m : Bool} {F F1 F' : FS} {H H1 H' : Hp} {p p1 p' q r : List Addr} {σ : St} {env : Env} {En : Ends} {pos : Pos}
/-! ### slices -/
theorem reps_take : ∀ {xs : List D} {vs : List V} (n : Nat), C.reps F H xs vs [] → C.reps F H (xs.take n) (vs.take n) []
  | xs, vs, 0, _ => by
    rw [List.take_zero, List.take_zero]
    exact ⟨rfl, rfl⟩
  | [], _, n + 1, ⟨e, _⟩ => by rw [e]; exact ⟨rfl, rfl⟩
  | d :: ds, _, n + 1, ⟨v, ws, q1, q2, e, x1, x2, hq⟩ => by
    obtain ⟨rfl, rfl⟩ := List.append_eq_nil_iff.mp hq.symm
    subst e
    exact ⟨v, _, [], [], rfl, x1, reps_take n x2, rfl⟩
theorem reps_drop : ∀ {xs : List D} {vs : List V} (n : Nat), C.reps F H xs vs [] → C.reps F H (xs.drop n) (vs.drop n) []
  | _, _, 0, h => h
  | [], _, n + 1, ⟨e, _⟩ => by rw [e]; exact ⟨rfl, rfl⟩
  | d :: ds, _, n + 1, ⟨v, ws, q1, q2, e, x1, x2, hq⟩ => by
    obtain ⟨rfl, rfl⟩ := List.append_eq_nil_iff.mp hq.symm
    subst e
    exact reps_drop n x2
theorem reps_cut {xs : List D} {vs : List V} {lo hi : Option Int} (h : C.reps F H xs vs []) : C.reps F H (cutL xs lo hi) (cutV vs lo hi) [] := by
  unfold cutL cutV
  rw [reps_len h]
  exact reps_take _ (reps_drop _ h)
abbrev rSlAll (K : PySem.W.Frag) : V → Option Int → Option Int → Hp → VK → Prop := fun x lo hi H Q => rSlL K x lo hi H Q ∨ (fun x lo hi H Q => rSlA K x lo hi H Q ∨ rSlS x lo hi H Q) x lo hi H Q
theorem sl_all : SlR C.X (rSlAll C.X.K) := sl_list.or (sl_tupA.or sl_str)
theorem cut_whole {xs : List D} {lo hi : Option Int} (h : HT.sIx xs.length 0 lo = 0 ∧ HT.sIx xs.length xs.length hi = xs.length) : cutL xs lo hi = xs := by
  unfold cutL
  rw [h.1, h.2, Nat.sub_zero, List.drop_zero, List.take_length]
theorem part_v {d : D} {o : Option Int} {v : V} (e : partI d = some o) (h : is C F H d v) : (o = none ∧ v = .non) ∨ ∃ i, o = some i ∧ v = .int i := by
  unfold partI at e
  split at e
  · cases e
    exact .inl ⟨rfl, is_non h⟩
  · cases e
    exact .inr ⟨_, rfl, is_int h⟩
  · cases e
theorem ok_sl : RdOK C φSl (fun vs H Q => ∃ x l u lo hi, vs = [x, l, u] ∧ ((lo = none ∧ l = .non) ∨ ∃ i, lo = some i ∧ l = .int i) ∧ ((hi = none ∧ u = .non) ∨ ∃ i, hi = some i ∧ u = .int i) ∧ rSlAll C.X.K x lo hi H Q) := by
  intro F H ds vs d Q hs trk e h
  unfold φSl at e
  split at e
  · rename_i x l u
    split at e
    · rename_i lo hi e1 e2
      obtain ⟨xv, lv, uv, rfl, h1, h2, h3⟩ := iss3 hs
      refine ⟨xv, lv, uv, lo, hi, rfl, part_v e1 h2, part_v e2 h3, ?_⟩
      split at e
      · rename_i o xs
        split at e
        · rename_i hf
          cases e
          obtain ⟨a, us, q1, rfl, ha, ra, _⟩ := is_lst h1
          have z := reps_fro hf ra
          subst z
          exact .inl ⟨a, us, rfl, SqL.of ha, fun p hp => h _ _ [p] (grow_upd hp) (fun a h => by cases List.mem_singleton.mp h; exact hp) (by simp) (new_lst (reps_cut ra) hp)⟩
        · cases e
      · rename_i xs
        cases e
        obtain ⟨a, us, rfl, ha, ra⟩ := is_tup h1
        refine .inr (.inl ⟨a, us, rfl, SqT.of ha, fun w => ?_, fun _ p hp => h _ _ [] (grow_upd hp) (fun _ h => by cases h) List.nodup_nil (new_tup (reps_cut ra) hp)⟩)
        rw [← reps_len ra] at w
        rw [cut_whole w] at h
        exact flat h ⟨a, us, rfl, ha, ra, rfl⟩
      · rename_i s
        split at e
        · rename_i hl
          cases e
          cases is_str h1
          exact .inr (.inr ⟨s, rfl, le_line hl, flat h ⟨rfl, rfl⟩⟩)
        · cases e
      · cases e
    · cases e
  · cases e
theorem ty_int {K : PySem.W.Frag} {x : V} {H : Hp} (h : tyD K "int" x H) : ∃ i, x = .int i := by
  rcases h with h | ⟨h, _⟩
  · cases x with
    | int i => exact ⟨i, rfl⟩
    | str z => exact absurd (show "int" = "str" from h) (by decide)
    | ref p => rcases h with ⟨h, _⟩ | ⟨h, _⟩ | ⟨h, _⟩ | ⟨h, _⟩ <;> exact absurd h (by decide)
    | _ => exact False.elim h
  · exact absurd h (by decide)
abbrev rSl3 (K : PySem.W.Frag) : List V → Hp → VK → Prop := fun vs H Q => ∃ x l u lo hi, vs = [x, l, u] ∧ ((lo = none ∧ l = .non) ∨ ∃ i, lo = some i ∧ l = .int i) ∧ ((hi = none ∧ u = .non) ∨ ∃ i, hi = some i ∧ u = .int i) ∧ rSlAll K x lo hi H Q
def φSl11 : List D → Option D
  | [x, l, u] => φSl [x, l, u]
  | _ => none
def φSl10 : List D → Option D
  | [x, l] => φSl [x, l, .non]
  | _ => none
def φSl01 : List D → Option D
  | [x, u] => φSl [x, .non, u]
  | _ => none
def φSl00 : List D → Option D
  | [x] => φSl [x, .non, .non]
  | _ => none
theorem is_nn : is C F H .non .non := ⟨[], rfl, rfl⟩
theorem ok_sl11 : RdOK C φSl11 (fun vs H Q => ∃ x i j, vs = [x, .int i, .int j] ∧ rSlAll C.X.K x (some i) (some j) H Q ∨ ∃ x l u, vs = [x, l, u] ∧ ¬ ((∃ i, l = .int i) ∧ ∃ j, u = .int j)) := by
  intro F H ds vs d Q hs trk e h
  unfold φSl11 at e
  split at e
  · obtain ⟨x, l, u, lo, hi, rfl, h1, h2, z⟩ := ok_sl F H _ vs d Q hs trk e h
    rcases h1 with ⟨rfl, rfl⟩ | ⟨i, rfl, rfl⟩
    · exact ⟨x, 0, 0, .inr ⟨x, _, _, rfl, fun z => by obtain ⟨⟨i, z⟩, _⟩ := z; cases z⟩⟩
    · rcases h2 with ⟨rfl, rfl⟩ | ⟨j, rfl, rfl⟩
      · exact ⟨x, 0, 0, .inr ⟨x, _, _, rfl, fun z => by obtain ⟨_, ⟨i, z⟩⟩ := z; cases z⟩⟩
      · exact ⟨x, i, j, .inl ⟨rfl, z⟩⟩
  · cases e
theorem ok_sl10 : RdOK C φSl10 (fun vs H Q => ∃ x l lo, vs = [x, l] ∧ ((lo = none ∧ l = .non) ∨ ∃ i, lo = some i ∧ l = .int i) ∧ rSlAll C.X.K x lo none H Q) := by
  intro F H ds vs d Q hs trk e h
  unfold φSl10 at e
  split at e
  · rename_i x l
    obtain ⟨xv, lv, rfl, h1, h2⟩ := iss2 hs
    obtain ⟨x, l, u, lo, hi, ev, g1, g2, z⟩ := ok_sl F H [x, l, .non] [xv, lv, .non] d Q ⟨_, _, rfl, h1, _, _, rfl, h2, _, _, rfl, is_nn, rfl⟩ trk e h
    cases ev
    rcases g2 with ⟨rfl, _⟩ | ⟨i, _, g2⟩
    · exact ⟨_, _, lo, rfl, g1, z⟩
    · cases g2
  · cases e
theorem ok_sl01 : RdOK C φSl01 (fun vs H Q => ∃ x l lo, vs = [x, l] ∧ ((lo = none ∧ l = .non) ∨ ∃ i, lo = some i ∧ l = .int i) ∧ rSlAll C.X.K x none lo H Q) := by
  intro F H ds vs d Q hs trk e h
  unfold φSl01 at e
  split at e
  · rename_i x l
    obtain ⟨xv, lv, rfl, h1, h2⟩ := iss2 hs
    obtain ⟨x, l, u, lo, hi, ev, g1, g2, z⟩ := ok_sl F H [x, .non, l] [xv, .non, lv] d Q ⟨_, _, rfl, h1, _, _, rfl, is_nn, _, _, rfl, h2, rfl⟩ trk e h
    cases ev
    rcases g1 with ⟨rfl, _⟩ | ⟨i, _, g1⟩
    · exact ⟨_, _, hi, rfl, g2, z⟩
    · cases g1
  · cases e
theorem ok_sl00 : RdOK C φSl00 (fun vs H Q => ∃ x, vs = [x] ∧ rSlAll C.X.K x none none H Q) := by
  intro F H ds vs d Q hs trk e h
  unfold φSl00 at e
  split at e
  · rename_i x
    obtain ⟨xv, rfl, h1⟩ := iss1 hs
    obtain ⟨x, l, u, lo, hi, ev, g1, g2, z⟩ := ok_sl F H [x, .non, .non] [xv, .non, .non] d Q ⟨_, _, rfl, h1, _, _, rfl, is_nn, _, _, rfl, is_nn, rfl⟩ trk e h
    cases ev
    rcases g1 with ⟨rfl, _⟩ | ⟨i, _, g1⟩
    · rcases g2 with ⟨rfl, _⟩ | ⟨i, _, g2⟩
      · exact ⟨_, rfl, z⟩
      · cases g2
    · cases g1
  · cases e
theorem int_part {K : PySem.W.Frag} {v : V} {H : Hp} {lo : Option Int} {i : Int} (h : v = .int i) (g : (lo = none ∧ v = .non) ∨ ∃ i, lo = some i ∧ v = .int i) : lo = some i := by
  rcases g with ⟨_, g⟩ | ⟨j, rfl, g⟩
  · rw [h] at g; cases g
  · rw [h] at g; cases g; rfl
theorem x_sl11 {e lo hi : Expr} {o : Opd} {fl fh : XF} {p2 : Pos} (he : PE C.X e (tO C m o)) (hl : PE C.X lo (TX C m fl)) (hh : PE C.X hi (TX C m fh)) :
    PE C.X (.Subscript e (.Slice (some lo) (some hi) none p2) pos) (TX C m (pop (consO o (consA (ckX "int" fl) (consA (ckX "int" fh) nilA))) φSl11)) := peImp (pe_slice sl_all he (po_some hl) (po_some hh)) fun σ H Q h => by
  refine tO_imp (tax_consO (pop_ok ok_sl11 h)) fun x H1 z => tx_imp (tx_ck (tax_cons z)) fun l H2 ⟨ty, z⟩ => ?_
  obtain ⟨i, rfl⟩ := ty_int ty
  refine ⟨i, rfl, tx_imp (tx_ck (tax_cons z)) fun u H3 ⟨ty2, z⟩ => ?_⟩
  obtain ⟨j, rfl⟩ := ty_int ty2
  refine ⟨j, rfl, ?_⟩
  obtain ⟨x', i', j', z | ⟨_, _, _, ev, z⟩⟩ := tax_nil z
  · obtain ⟨ev, z⟩ := z
    cases ev
    exact z
  · cases ev
    exact absurd ⟨⟨i, rfl⟩, ⟨j, rfl⟩⟩ z
theorem x_sl10 {e lo : Expr} {o : Opd} {fl : XF} {p2 : Pos} (he : PE C.X e (tO C m o)) (hl : PE C.X lo (TX C m fl)) :
    PE C.X (.Subscript e (.Slice (some lo) none none p2) pos) (TX C m (pop (consO o (consA (ckX "int" fl) nilA)) φSl10)) := peImp (pe_slice sl_all he (po_some hl) po_none) fun σ H Q h => by
  refine tO_imp (tax_consO (pop_ok ok_sl10 h)) fun x H1 z => tx_imp (tx_ck (tax_cons z)) fun l H2 ⟨ty, z⟩ => ?_
  obtain ⟨i, rfl⟩ := ty_int ty
  refine ⟨i, rfl, ?_⟩
  obtain ⟨x', l', lo', ev, g, z⟩ := tax_nil z
  cases ev
  have e := int_part (K := C.X.K) (H := H) rfl g
  subst e
  exact z
theorem x_sl01 {e hi : Expr} {o : Opd} {fl : XF} {p2 : Pos} (he : PE C.X e (tO C m o)) (hl : PE C.X hi (TX C m fl)) :
    PE C.X (.Subscript e (.Slice none (some hi) none p2) pos) (TX C m (pop (consO o (consA (ckX "int" fl) nilA)) φSl01)) := peImp (pe_slice sl_all he po_none (po_some hl)) fun σ H Q h => by
  refine tO_imp (tax_consO (pop_ok ok_sl01 h)) fun x H1 z => tx_imp (tx_ck (tax_cons z)) fun l H2 ⟨ty, z⟩ => ?_
  obtain ⟨i, rfl⟩ := ty_int ty
  refine ⟨i, rfl, ?_⟩
  obtain ⟨x', l', lo', ev, g, z⟩ := tax_nil z
  cases ev
  have e := int_part (K := C.X.K) (H := H) rfl g
  subst e
  exact z
theorem x_sl00 {e : Expr} {o : Opd} {p2 : Pos} (he : PE C.X e (tO C m o)) :
    PE C.X (.Subscript e (.Slice none none none p2) pos) (TX C m (pop (consO o nilA) φSl00)) := peImp (pe_slice sl_all he po_none po_none) fun σ H Q h => by
  refine tO_imp (tax_consO (pop_ok ok_sl00 h)) fun x H1 z => ?_
  obtain ⟨x', ev, z⟩ := tax_nil z
  cases ev
  exact z
/-! ### texts -/
def φStr : List D → Option D
  | [.int i] => if i.natAbs.log2 < 1920 then some (.str (toString i : String)) else none
  | [.str x] => some (.str x)
  | _ => none
theorem ok_str : RdOK C φStr (fun xs H Q => (fun xs H Q => ∃ i : Int, xs = [.int i] ∧ i.natAbs.log2 < 1920 ∧ Q (.str (toString i : String)) H) xs H Q ∨ (fun xs H Q => ∃ a, xs = [.str a] ∧ Q (.str a) H) xs H Q) := by
  intro F H ds vs d Q hs trk e h
  unfold φStr at e
  split at e
  · split at e
    · rename_i hl
      cases e
      obtain ⟨x, rfl, h1⟩ := iss1 hs
      cases is_int h1
      exact .inl ⟨_, rfl, hl, flat h ⟨rfl, rfl⟩⟩
    · cases e
  · cases e
    obtain ⟨x, rfl, h1⟩ := iss1 hs
    cases is_str h1
    exact .inr ⟨_, rfl, flat h ⟨rfl, rfl⟩⟩
  · cases e
def φSplit : List D → Option D
  | [.str a, .str b] => if (b.length == 0) = false ∧ a.length + 2 ≤ SZ then some (.lst true ((Txt.split a b).map .str)) else none
  | _ => none
theorem reps_strs : ∀ {ys : List Str}, C.reps F H (ys.map .str) (ys.map V.str) []
  | [] => ⟨rfl, rfl⟩
  | n :: ns => ⟨_, _, [], [], rfl, ⟨rfl, rfl⟩, reps_strs, rfl⟩
theorem ok_split : RdOK C φSplit (RM fun x xs H Q => ∃ a b, x = .str a ∧ xs = [.str b] ∧ (b.length == 0) = false ∧ a.length + 2 ≤ sizeLine ∧ rNewStrs (Txt.split a b) H Q) := by
  intro F H ds vs d Q hs trk e h
  unfold φSplit at e
  split at e
  · split at e
    · rename_i a b hl
      cases e
      obtain ⟨x, y, rfl, h1, h2⟩ := iss2 hs
      cases is_str h1
      cases is_str h2
      exact ⟨_, _, rfl, a, b, rfl, rfl, hl.1, le_line hl.2, fun p hp => h _ _ [p] (grow_upd hp) (fun a h => by cases List.mem_singleton.mp h; exact hp) (by simp) (new_lst reps_strs hp)⟩
    · cases e
  · cases e
def φJoin : List D → Option D
  | [.str a, d] => (match itemsOf d with
    | some xs => (match strsOf xs with
      | some ys => if (ys.map (·.length)).sum + ys.length * a.length ≤ 16777216 then some (.str (Txt.join a ys)) else none
      | none => none)
    | none => none)
  | _ => none
theorem ok_join : RdOK C φJoin (RM fun x xs H Q => ∃ a p, ∃ ys : List Str, x = .str a ∧ xs = [.ref p] ∧ (SqL C.X.K H p (ys.map V.str) ∨ SqT C.X.K H p (ys.map V.str)) ∧ (ys.map (·.length)).sum + ys.length * a.length ≤ 16777216 ∧ Q (.str (Txt.join a ys)) H) := by
  intro F H ds vs d Q hs trk e h
  unfold φJoin at e
  split at e
  · rename_i a d
    split at e
    · rename_i xs ex
      split at e
      · rename_i ys ey
        split at e
        · rename_i hl
          cases e
          obtain ⟨x, y, rfl, h1, h2⟩ := iss2 hs
          cases is_str h1
          obtain ⟨b, us, rfl, hq, rr⟩ := rep_items ex h2
          rw [reps_strsOf ey rr] at hq
          exact ⟨_, _, rfl, a, b, ys, rfl, rfl, hq.symm, hl, flat h ⟨rfl, rfl⟩⟩
        · cases e
      · cases e
    · cases e
  · cases e
/-! ### len, with dicts -/
abbrev rLenD (X : Cx) : List V → Hp → VK → Prop := fun xs H Q => ∃ a, xs = [.ref a] ∧ ((∃ kv, IsFlat X.prog X.w H a kv ∧ kv.length ≤ SZ ∧ Q (.int kv.length) H) ∨ ∃ es, IsTupl X.prog X.w X.K H a es ∧ es.length ≤ SZ ∧ Q (.int es.length) H)
theorem call_lenDic : CallR C.X (.builtin "len") (rLenD C.X) := by
  intro pins s σ H xs us Q I r h
  obtain ⟨a, rfl, h⟩ := h
  obtain ⟨u, rfl, rx⟩ := vals1 r
  obtain rfl : u = .ref a := rx
  rcases h with ⟨kv, hf, hl, q⟩ | ⟨es, hf, hl, q⟩
  · obtain ⟨vs, sm, rel, dd, _⟩ := hf.at I
    have e := Paired.length rel
    have : SZ = 16777216 := rfl
    refine call_len_dict sm dd (by omega) ⟨.int kv.length, H, I.tok _, ⟨s.toks + 1, by rw [e]⟩, q⟩
  · obtain ⟨sm, dd, _⟩ := hf.at I
    have : SZ = 16777216 := rfl
    exact call_len_dictH sm dd (by omega) ⟨.int es.length, H, I.tok _, ⟨s.toks + 1, rfl⟩, q⟩
def φLenD : List D → Option D
  | [.dic _ kvs] => if kvs.length ≤ SZ then some (.int kvs.length) else none
  | _ => none
theorem ok_lenD : RdOK C φLenD (rLenD C.X) := by
  intro F H ds vs d Q hs trk e h
  unfold φLenD at e
  split at e
  · rename_i o kvs
    split at e
    · rename_i hl
      cases e
      obtain ⟨x, rfl, h1⟩ := iss1 hs
      obtain ⟨q, a, od, q1, rfl, sm, ow, x⟩ := h1
      have ha : H a = some (objO a od) := own_at ow
      rcases x with ⟨kv, vs, r, kvr, fd⟩ | ⟨es, r, td⟩
      · exact ⟨a, rfl, .inl ⟨kv, ⟨od, vs, sm, ha, kvr, fd⟩, by rw [← repK_len r]; exact hl, by rw [← repK_len r]; exact flat h ⟨rfl, rfl⟩⟩⟩
      · exact ⟨a, rfl, .inr ⟨es, ⟨od, sm, ha, td, repT_keys r⟩, by rw [← repT_len r]; exact hl, by rw [← repT_len r]; exact flat h ⟨rfl, rfl⟩⟩⟩
    · cases e
  · cases e
theorem RdOK.orL {φ1 φ2 : List D → Option D} {r1 r2 : List V → Hp → VK → Prop} (h1 : RdOK C φ1 r1) (h2 : RdOK C φ2 r2) : RdOK C (fun ds => match φ1 ds with
    | some d => some d
    | none => φ2 ds) (fun xs H Q => r1 xs H Q ∨ r2 xs H Q) := by
  intro F H ds vs d Q hs trk e h
  have e : (match φ1 ds with
    | some d => some d
    | none => φ2 ds) = some d := e
  split at e
  · rename_i d' e1
    cases e
    exact .inl (h1 F H ds vs d Q hs trk e1 h)
  · exact .inr (h2 F H ds vs d Q hs trk e h)
theorem CallR.or' {X : Cx} {f : Value} {r1 r2 : List V → Hp → VK → Prop} (h1 : CallR X f r1) (h2 : CallR X f r2) : CallR X f (fun xs H Q => r1 xs H Q ∨ r2 xs H Q) := fun pins s σ H xs us Q I r h => h.elim (h1 pins s σ H xs us Q I r) (h2 pins s σ H xs us Q I r)
def φLenA : List D → Option D := fun ds => match φLen ds with
  | some d => some d
  | none => φLenD ds
theorem ok_lenA : RdOK C φLenA (fun xs H Q => rLenA C.X.K xs H Q ∨ rLenD C.X xs H Q) := ok_len.orL ok_lenD
theorem call_lenA : CallR C.X (.builtin "len") (fun xs H Q => rLenA C.X.K xs H Q ∨ rLenD C.X xs H Q) := CallR.or' call_len call_lenDic
end
end DL

namespace DL
open PySem PySem.Spec PyProof.Rows L2
section
variable {C : Ctx} {m : Bool} {F F1 F' : FS} {H H1 H' : Hp} {p p1 p' q r : List Addr} {σ : St} {env : Env} {En : Ends} {pos : Pos}
/-! ### isinstance -/
/-- a type: a built-in one, or a class of the program -/
inductive Ty where
  | b (n : String) | c (x : Str)
  deriving DecidableEq
def Ty.val (K : PySem.W.Frag) : Ty → Value
  | .b n => .type n
  | .c x => .ref (He.ga K x)
def tyN : D → Option Ty
  | .non => some (.b "NoneType")
  | .bl _ => some (.b "bool")
  | .int _ => some (.b "int")
  | .str _ => some (.b "str")
  | .tup _ => some (.b "tuple")
  | .lst _ _ => some (.b "list")
  | .scr _ => some (.b "list")
  | .dic _ _ => some (.b "dict")
  | .ins _ C _ => some (.c C)
  | .err C _ => some (.c C)
  | _ => none
def clN : D → Option Ty
  | .ty n => some (.b n)
  | .glob x => some (.c x)
  | _ => none
structure InsI (K : PySem.W.Frag) (C : Addr) : Prop where
  cl : Cls K C
  ha : PySem.W.findIn K (.ref C) "__class__" = some (some (.builtin "object.__class__"))
  hn : PySem.W.specialIn K (.builtin "object.__class__") "__get__" = some (some (.builtin "getset_descriptor.__get__"))
  ht : PySem.W.takesIn K (.builtin "object.__class__") = some true
  hm : PySem.W.mroIn K C (.type "object") = some true
/-- what isinstance says: table entries (type, class, answer); the classes of instances, of errors -/
structure IsT (K : PySem.W.Frag) (tb : List (Ty × Ty × Bool)) (insL errL : List Str) : Prop where
  one : ∀ x ∈ tb, PySem.W.kitOne K (x.1.val K) (x.2.1.val K) = some x.2.2
  ins : ∀ x ∈ insL, InsI K (He.ga K x)
  err : ∀ x ∈ errL, ExcC K (He.ga K x)
def okTy (insL errL : List Str) : D → Bool
  | .ins _ C _ => decide (C ∈ insL)
  | .err C _ => decide (C ∈ errL)
  | _ => true
def lookTy : List (Ty × Ty × Bool) → Ty → Ty → Option Bool
  | [], _, _ => none
  | (a, b, r) :: l, x, y => if a = x ∧ b = y then some r else lookTy l x y
theorem lookTy_mem : ∀ {l : List (Ty × Ty × Bool)} {x y : Ty} {r : Bool}, lookTy l x y = some r → (x, y, r) ∈ l
  | [], _, _, _, e => by cases e
  | (a, b, r) :: l, x, y, r', e => by
    unfold lookTy at e
    split at e
    · rename_i h
      obtain ⟨rfl, rfl⟩ := h
      cases e
      exact List.mem_cons_self
    · exact List.mem_cons_of_mem _ (lookTy_mem e)
/-- the kit's word for a value of this type -/
def TyW (X : Cx) (H : Hp) (x : V) (t : Value) : Prop := TyX X.K H x t ∨ (t = .type "dict" ∧ ∃ a od, x = .ref a ∧ H a = some (objO a od) ∧ od.ExactDict) ∨
  ∃ C a d, t = .ref C ∧ x = .ref a ∧ H a = some (errO C d a) ∧ ExcC X.K C ∧ ∀ dx, d = some dx → ∃ gs, H dx = some (.xd gs)
theorem kit_ofW {X : Cx} {pins : List (Addr × Obj)} {σ : L2.St} {H : Hp} {s : Shared} {x : V} {u t : Value} (I : Inv X pins σ H s) (rx : RelV x u) (ty : TyW X H x t) : ∃ P : Heap → Prop, PySem.W.KitX X.K u t P ∧ P s.heap ∧ u ≠ .builtin "__main__.__loader__#opaque" := by
  rcases ty with ty | ⟨rfl, a, od, rfl, ha, hx⟩ | ⟨D0, a, d, rfl, rfl, ha, hC, hd⟩
  · exact kit_of I rx ty
  · cases (show u = Value.ref a from rx)
    exact ⟨_, PySem.W.kitx_dict, ⟨od, obj_at I ha, hx.1⟩, fun z => nomatch z⟩
  · cases (show u = Value.ref a from rx)
    obtain ⟨⟨oe, vs, hget, hz, hv⟩, _⟩ := I.hok a _ ha
    obtain ⟨cd, hc, _⟩ := PySem.W.any_some hC.hd
    have hcl : (PySem.W.clsIn X.K D0).isSome = true := by rw [hc]; rfl
    obtain ⟨oc, odi, oda, osl⟩ := oe
    obtain ⟨h1, h2⟩ := hz
    dsimp only at h1 h2 hv
    subst h1 h2 hv
    cases odi with
    | none => exact ⟨_, PySem.W.kitx_exc (od := none) hcl hC.hg hC.hk hC.hs hC.ha hC.hn hC.ht hC.hm, ⟨hget, rfl, rfl, trivial⟩, fun z => nomatch z⟩
    | some dx =>
      obtain ⟨gs, hxd⟩ := hd dx rfl
      obtain ⟨mA, ⟨ox, ex, px, e, _⟩, _⟩ := (show ObjOk X.prog X.w H s.heap dx (.xd gs) from I.hok dx _ hxd)
      exact ⟨_, PySem.W.kitx_exc (od := some ox) hcl hC.hg hC.hk hC.hs hC.ha hC.hn hC.ht hC.hm, ⟨hget, rfl, rfl, e⟩, fun z => nomatch z⟩
abbrev rIsW (X : Cx) : List V → Hp → VK → Prop := fun xs H Q => ∃ (x c : V) (t u : Value) (b : Bool), xs = [x, c] ∧ ClsV c u ∧ TyW X H x t ∧ PySem.W.kitOne X.K t u = some b ∧ Q (.bl b) H
abbrev rIsTW (X : Cx) : List V → Hp → VK → Prop := fun xs H Q => ∃ (x : V) (tp : Addr) (cs : List V) (t : Value) (us : List Value) (b : Bool), xs = [x, .ref tp] ∧ H tp = some (.tup cs) ∧ Paired ClsV cs us ∧ TyW X H x t ∧ PySem.W.kitAny X.K t us = some b ∧ Q (.bl b) H
theorem call_isW {X : Cx} : CallR X (.builtin "isinstance") (rIsW X) := by
  intro pins s σ H xs us Q I r h
  obtain ⟨x, c, t, u, b, rfl, k, ty, e, q⟩ := h
  obtain ⟨u1, u2, rfl, r1, r2⟩ := vals2 r
  have e2 := k.eq r2
  subst e2
  obtain ⟨P, Z, p, hx⟩ := kit_ofW I r1 ty
  exact PySem.W.kia_one Z I.kIn p e hx fun tk => ⟨.bl b, H, I.tok tk, rfl, q⟩
theorem call_isTW {X : Cx} : CallR X (.builtin "isinstance") (rIsTW X) := by
  intro pins s σ H xs us Q I r h
  obtain ⟨x, tp, cs, t, ws, b, rfl, hT, k, ty, e, q⟩ := h
  obtain ⟨u1, u2, rfl, r1, r2⟩ := vals2 r
  cases (show u2 = Value.ref tp from r2)
  obtain ⟨P, Z, p, hx⟩ := kit_ofW I r1 ty
  obtain ⟨_, its, rv, o, h1, h2, n, h3⟩ := (show ObjOk X.prog X.w H s.heap tp (.tup cs) from I.hok tp _ hT)
  have e3 := ClsV.all k rv
  subst e3
  obtain ⟨oc, od, dt, sl⟩ := o
  simp only at h2 h3
  subst h2 h3
  exact PySem.W.kia_tup Z I.kIn p h1 e hx fun tk => ⟨.bl b, H, I.tok tk, rfl, q⟩
theorem ty_ofD {d : D} {v : V} {t : Ty} {insL errL : List Str} {tb : List (Ty × Ty × Bool)} (T : IsT C.X.K tb insL errL) (h : is C F H d v) (e : tyN d = some t) (ok : okTy insL errL d = true) : TyW C.X H v (t.val C.X.K) := by
  obtain ⟨q, h⟩ := h
  cases d with
  | non => cases e; rw [h.1]; exact .inl (.base .non)
  | bl b => cases e; rw [h.1]; exact .inl (.base (.bl b))
  | int i => cases e; rw [h.1]; exact .inl (.base (.int i))
  | str x => cases e; rw [h.1]; exact .inl (.base (.str x))
  | tup xs => cases e; obtain ⟨a, vs, rfl, ha, _⟩ := h; exact .inl (.base (.tup ha))
  | lst o xs =>
    cases e
    obtain ⟨a, vs, q, rfl, ha, _⟩ := is_lst ⟨_, h⟩
    exact .inl (.base (.lst ha))
  | scr ns =>
    cases e
    obtain ⟨a, rfl, fa, ha, _⟩ := h
    rcases ha with (ha | ⟨o, ha⟩) | ⟨o, its, n, hk, hc, _⟩
    · exact .inl (.base (.lst ha))
    · exact .inl (.base (.frz ha))
    · exact .inl (.kList hk hc)
  | dic o kvs =>
    cases e
    obtain ⟨a, od, es, ks, vs, q1, rfl, ow, ⟨_, ha, hx, _⟩, _⟩ := dic_ents h
    exact .inr (.inl ⟨rfl, a, od, rfl, ha, hx⟩)
  | ins o D0 fs =>
    cases e
    obtain ⟨a, dx, gs, q1, rfl, r, ow⟩ := h
    have z := T.ins D0 (of_decide_eq_true ok)
    exact .inl (.base (.ins (own_at ow) z.cl z.ha z.hn z.ht z.hm))
  | err D0 fs =>
    cases e
    obtain ⟨a, dd, rfl, fa, ha, _, z⟩ := h
    refine .inr (.inr ⟨_, a, dd, rfl, rfl, ha, T.err D0 (of_decide_eq_true ok), fun dx ed => ?_⟩)
    rcases z with ⟨z, _⟩ | ⟨dx', gs, z, _, hd, _⟩
    · rw [z] at ed; cases ed
    · rw [z] at ed; cases ed; exact ⟨gs, hd⟩
  | glob => cases e
  | ty => cases e
theorem cl_ofD {d : D} {v : V} {t : Ty} (h : is C F H d v) (e : clN d = some t) : ClsV v (t.val C.X.K) := by
  obtain ⟨q, h⟩ := h
  cases d with
  | ty n => cases e; rw [h.1]; exact .ty n
  | glob x => cases e; rw [h.1]; exact .own _
  | _ => cases e
def clNs : List D → Option (List Ty)
  | [] => some []
  | d :: ds => match clN d, clNs ds with
    | some x, some xs => some (x :: xs)
    | _, _ => none
def anyTy (tb : List (Ty × Ty × Bool)) (t : Ty) : List Ty → Option Bool
  | [] => some false
  | c :: r => match lookTy tb t c with
    | some true => some true
    | some false => anyTy tb t r
    | none => none
def φIsI (tb : List (Ty × Ty × Bool)) (insL errL : List Str) : List D → Option D
  | [d, .tup cs] => if okTy insL errL d = true then (match tyN d, clNs cs with
    | some t, some us => (anyTy tb t us).map .bl
    | _, _ => none) else none
  | [d, c] => if okTy insL errL d = true then (match tyN d, clN c with
    | some t, some u => (lookTy tb t u).map .bl
    | _, _ => none) else none
  | _ => none
theorem cls_ofD : ∀ {ds : List D} {vs : List V} {q : List Addr} {ts : List Ty}, C.reps F H ds vs q → clNs ds = some ts → Paired ClsV vs (ts.map (Ty.val C.X.K))
  | [], _, _, _, x, e => by cases e; rw [x.1]; exact .nil
  | d :: ds, _, _, _, ⟨v, ws, q1, q2, e1, x1, x2, _⟩, e => by
    subst e1
    unfold clNs at e
    split at e
    · rename_i y ys h1 h2
      cases e
      exact .cons (cl_ofD ⟨_, x1⟩ h1) (cls_ofD x2 h2)
    · cases e
theorem any_ofD {tb : List (Ty × Ty × Bool)} {insL errL : List Str} {K : PySem.W.Frag} (T : IsT K tb insL errL) {t : Ty} : ∀ {us : List Ty} {b : Bool}, anyTy tb t us = some b → PySem.W.kitAny K (t.val K) (us.map (Ty.val K)) = some b
  | [], b, e => by cases e; rfl
  | u :: us, b, e => by
    unfold anyTy at e
    split at e
    · rename_i h
      cases e
      have z := T.one _ (lookTy_mem h)
      exact kitAny_cons z (fun z => by cases z) (fun _ => rfl)
    · rename_i h
      have z := T.one _ (lookTy_mem h)
      exact kitAny_cons z (fun _ => any_ofD T e) (fun z => by cases z)
    · cases e
theorem ok_isI {tb : List (Ty × Ty × Bool)} {insL errL : List Str} (T : IsT C.X.K tb insL errL) : RdOK C (φIsI tb insL errL) (fun xs H Q => rIsW C.X xs H Q ∨ rIsTW C.X xs H Q) := by
  intro F H ds vs d Q hs trk e h
  unfold φIsI at e
  split at e
  · rename_i d0 cs
    split at e
    · rename_i ok
      split at e
      · rename_i t us e1 e2
        obtain ⟨b, eb, rfl⟩ := Option.map_eq_some_iff.mp e
        obtain ⟨x, y, rfl, h1, h2⟩ := iss2 hs
        obtain ⟨a, ws, rfl, ha, ra⟩ := is_tup h2
        exact .inr ⟨x, a, ws, _, _, b, rfl, ha, cls_ofD ra e2, ty_ofD T h1 e1 ok, any_ofD T eb, flat h ⟨rfl, rfl⟩⟩
      · cases e
    · cases e
  · rename_i d0 c _
    split at e
    · rename_i ok
      split at e
      · rename_i t u e1 e2
        obtain ⟨b, eb, rfl⟩ := Option.map_eq_some_iff.mp e
        obtain ⟨x, y, rfl, h1, h2⟩ := iss2 hs
        exact .inl ⟨x, y, _, _, b, rfl, cl_ofD h2 e2, ty_ofD T h1 e1 ok, T.one _ (lookTy_mem eb), flat h ⟨rfl, rfl⟩⟩
      · cases e
    · cases e
  · cases e
theorem call_isA : CallR C.X (.builtin "isinstance") (fun xs H Q => rIsW C.X xs H Q ∨ rIsTW C.X xs H Q) := CallR.or' call_isW call_isTW
end
end DL

namespace DL
open PySem PySem.Spec PyProof.Rows L2
/-! ### dict(list of pairs) -/
def putAllR (kv : List (Key × V)) (ps : List (Key × V)) : List (Key × V) := ps.foldl (fun acc p => putR acc p.1 p.2) kv
def putAllRT (es : List (NestedKey × Addr × Value)) (ps : List (NestedKey × Addr × Value)) : List (NestedKey × Addr × Value) := ps.foldl (fun acc p => putRT acc p.1 p.2.1 p.2.2) es
theorem mem_putR {κ α : Type} [DecidableEq κ] {k : κ} {v : α} : ∀ {kv : List (κ × α)} {x : κ}, x ∈ (putR kv k v).map (·.1) → x = k ∨ x ∈ kv.map (·.1)
  | [], x, h => by
    have : x = k := by simpa [putR] using h
    exact .inl this
  | p :: r, x, h => by
    unfold putR at h
    split at h
    · exact .inr h
    · rw [List.map_cons] at h ⊢
      rcases List.mem_cons.mp h with h | h
      · exact .inr (by rw [h]; exact List.mem_cons_self)
      · exact (mem_putR h).imp id (List.mem_cons_of_mem _)
theorem putR_nodup {κ α : Type} [DecidableEq κ] {k : κ} {v : α} : ∀ {kv : List (κ × α)}, (kv.map (·.1)).Nodup → ((putR kv k v).map (·.1)).Nodup
  | [], _ => by simp [putR]
  | p :: r, h => by
    rw [List.map_cons, List.nodup_cons] at h
    unfold putR
    split
    · rw [List.map_cons, List.nodup_cons]; exact h
    · rename_i hk
      rw [List.map_cons, List.nodup_cons]
      exact ⟨fun z => (mem_putR z).elim hk h.1, putR_nodup h.2⟩
theorem mem_putRT {k : NestedKey} {b : Addr} {v : Value} : ∀ {es : List (NestedKey × Addr × Value)} {x : NestedKey}, x ∈ (putRT es k b v).map (·.1) → x = k ∨ x ∈ es.map (·.1)
  | [], x, h => by
    have : x = k := by simpa [putRT] using h
    exact .inl this
  | p :: r, x, h => by
    unfold putRT at h
    split at h
    · exact .inr h
    · rw [List.map_cons] at h ⊢
      rcases List.mem_cons.mp h with h | h
      · exact .inr (by rw [h]; exact List.mem_cons_self)
      · exact (mem_putRT h).imp id (List.mem_cons_of_mem _)
theorem putRT_nodup {k : NestedKey} {b : Addr} {v : Value} : ∀ {es : List (NestedKey × Addr × Value)}, (es.map (·.1)).Nodup → ((putRT es k b v).map (·.1)).Nodup
  | [], _ => by simp [putRT]
  | p :: r, h => by
    rw [List.map_cons, List.nodup_cons] at h
    unfold putRT
    split
    · rw [List.map_cons, List.nodup_cons]; exact h
    · rename_i hk
      rw [List.map_cons, List.nodup_cons]
      exact ⟨fun z => (mem_putRT z).elim hk h.1, putRT_nodup h.2⟩
theorem merged_kv : ∀ {ps : List (Key × V)} {prs : List (Key × Value)} {kv : List (Key × V)} {vs : List (Key × Value)}, KV ps prs → KV kv vs → (kv.map (·.1)).Nodup → KV (putAllR kv ps) (merged vs prs) := by
  intro ps prs kv vs r
  unfold KV at r
  induction r generalizing kv vs with
  | nil => intro q _; exact q
  | @cons p q ps qs h t ih =>
    intro r0 nd
    have e : KV (putR kv p.1 p.2) (stored vs q.1 q.2) := by
      have := r0.put p.1 h.2
      rw [← h.1, ← putK_eq nd]
      exact this
    exact ih e (putR_nodup nd)
theorem storedAll_eq : ∀ {ps es : List (NestedKey × Addr × Value)}, (es.map (·.1)).Nodup → storedAllH es ps = putAllRT es ps
  | [], _, _ => rfl
  | p :: ps, es, nd => by
    show storedAllH (storedH es p.1 p.2.1 p.2.2) ps = putAllRT (putRT es p.1 p.2.1 p.2.2) ps
    rw [storedH_eq nd]
    exact storedAll_eq (putRT_nodup nd)
/-- the pairs that stand in a list -/
abbrev PairsIn (X : Cx) (H : Hp) (a : Addr) (ks vs : List V) : Prop := ∃ Ts : List Addr, SqL X.K H a (Ts.map V.ref) ∧ ks.length = Ts.length ∧ vs.length = Ts.length ∧ ∀ (j : Nat) (k v : V), ks[j]? = some k → vs[j]? = some v → ∃ T, Ts[j]? = some T ∧ H T = some (.tup [k, v])
abbrev rDictL (X : Cx) : List V → Hp → VK → Prop := fun xs H Q => ∃ a ks vs, xs = [.ref a] ∧ PairsIn X H a ks vs ∧
  ((∃ kk : List Key, ks = kk.map kV ∧ ∀ L od vs', H L = none → (L == sysModules) = false → KV (putAllR [] (kk.zip vs)) vs' → FlatD X.prog X.w od vs' → Q (.ref L) (upd H L (objO L od))) ∨
   (∃ (kb : List (NestedKey × Addr)), ks = kb.map (fun x => .ref x.2) ∧ (∀ x ∈ kb, KeyAt X.prog X.w X.K H x.2 x.1) ∧ ∀ L od (us : List Value), H L = none → (L == sysModules) = false → Vals vs us → TupD X.prog X.w od (putAllRT [] (kb.zipWith (fun x u => (x.1, x.2, u)) us)) → Q (.ref L) (upd H L (objO L od))))
theorem call_dictL {X : Cx} (hc : X.calm = true) (hu : X.A.units + 16 < cLine) : CallR X (.type "dict") (rDictL X) := by
  intro pins s σ H xs us Q I r h
  obtain ⟨a, ks, vs, rfl, ⟨Ts, hq, l1, l2, hT⟩, h⟩ := h
  rw [Vals.ref1 r]
  obtain ⟨its, rv, pl, hz⟩ := I.list hq
  have ei := refs_at rv
  subst ei
  rw [List.length_map] at hz
  have hlt : s.heap.objs.size < s.heap.objs.size + 1 := Nat.lt_succ_self _
  -- the pairs, as the heap has them
  have pv : ∀ j, j < Ts.length → ∃ T k v ku vu, Ts[j]? = some T ∧ ks[j]? = some k ∧ vs[j]? = some v ∧ RelV k ku ∧ RelV v vu ∧ s.heap.IsTuple T #[ku, vu] := fun j hj => by
    have hk : ks[j]? = some ks[j] := List.getElem?_eq_getElem (by rw [l1]; exact hj)
    have hv : vs[j]? = some vs[j] := List.getElem?_eq_getElem (by rw [l2]; exact hj)
    obtain ⟨T, h1, h2⟩ := hT j _ _ hk hv
    obtain ⟨_, its, rv', h3⟩ := (show ObjOk X.prog X.w H s.heap T (.tup [ks[j], vs[j]]) from I.hok T _ h2)
    obtain ⟨ku, vu, rfl, ru, rv''⟩ := rv'.two
    exact ⟨T, _, _, ku, vu, h1, hk, hv, ru, rv'', h3⟩
  let TT : Nat → Addr := fun j => Ts.getD j 0
  have hps : ∃ ps : List (Value × Value), ps.length = Ts.length ∧ ∀ j ku vu, ps[j]? = some (ku, vu) → ∃ k v, ks[j]? = some k ∧ vs[j]? = some v ∧ RelV k ku ∧ RelV v vu ∧ Ts[j]? = some (TT j) ∧ s.heap.IsTuple (TT j) #[ku, vu] := by
    classical
    have pick : ∀ j : Fin Ts.length, ∃ p : Value × Value, ∃ k v, ks[j.1]? = some k ∧ vs[j.1]? = some v ∧ RelV k p.1 ∧ RelV v p.2 ∧ Ts[j.1]? = some (TT j) ∧ s.heap.IsTuple (TT j) #[p.1, p.2] := fun j => by
      obtain ⟨T, k, v, ku, vu, h1, h2, h3, h4, h5, h6⟩ := pv j.1 j.2
      have e : TT j = T := getD_of h1
      exact ⟨(ku, vu), k, v, h2, h3, h4, h5, by rw [e]; exact h1, by rw [e]; exact h6⟩
    let f := fun j => Classical.choose (pick j)
    have hf := fun j => Classical.choose_spec (pick j)
    refine ⟨List.ofFn f, List.length_ofFn, fun j ku vu e => ?_⟩
    rw [List.getElem?_ofFn] at e
    split at e
    · rename_i hj
      have e' : f ⟨j, hj⟩ = (ku, vu) := Option.some.inj e
      have z := hf ⟨j, hj⟩
      have z1 : f ⟨j, hj⟩ = Classical.choose (pick ⟨j, hj⟩) := rfl
      rw [← z1, e'] at z
      exact z
    · cases e
  obtain ⟨ps, lp, hp⟩ := hps
  have ok : PlainSeq "list" s.heap a (Ts.map Value.ref).toArray ∧ PairItems s.heap (Ts.map Value.ref).toArray TT ps := by
    obtain ⟨o, n, ho, h1, h2, h3⟩ := pl
    refine ⟨⟨o, n, ho, h1, h2, h3⟩, by simp [lp], fun j k v e => ?_⟩
    obtain ⟨_, _, _, _, _, _, h5, h6⟩ := hp j k v e
    refine ⟨?_, .inl h6⟩
    show ((Ts.map Value.ref).toArray)[j]? = _
    rw [List.getElem?_toArray, List.getElem?_map, h5]
    rfl
  have sm : (s.heap.objs.size == sysModules) = false := beq_eq_false_iff_ne.mpr (Ne.symm (Nat.ne_of_lt I.big))
  have hn := I.hok.fresh (Nat.le_refl s.heap.objs.size)
  have laid : ∀ {h' : Heap} {tk : Nat} {od : Obj}, (∀ b o, b ∉ ([] : List Addr) → s.heap.get? b = some o → h'.get? b = some o) → h'.get? s.heap.objs.size = some od → Inv X pins σ (upd H s.heap.objs.size (objO s.heap.objs.size od)) { s with heap := h', toks := tk } := fun k g =>
    I.laid (fun b o e => k b o (by simp) e) (Nat.le_refl _) ⟨g, ⟨_, g⟩, fun h1 h2 p k => k _ p⟩
  rcases h with ⟨kk, ek, q⟩ | ⟨kb, ek, hk, q⟩
  · subst ek
    rw [List.length_map] at l1
    -- the pairs with their keys
    have hkv : ∃ prs : List (Key × Value), KV (kk.zip vs) prs ∧ prs.length = Ts.length ∧ ∀ (j : Nat) (ku vu : Value), ps[j]? = some (ku, vu) → ∃ k : Key, prs[j]? = some (k, vu) ∧ (mixKind X.prog X.w).is k ku = true := by
      have go : ∀ (kk : List Key) (vs : List V) (ps : List (Value × Value)), kk.length = ps.length → vs.length = ps.length → (∀ (j : Nat) (ku vu : Value), ps[j]? = some (ku, vu) → ∃ (k v : V), (kk.map kV)[j]? = some k ∧ vs[j]? = some v ∧ RelV k ku ∧ RelV v vu) →
          ∃ prs : List (Key × Value), KV (kk.zip vs) prs ∧ prs.length = ps.length ∧ ∀ (j : Nat) (ku vu : Value), ps[j]? = some (ku, vu) → ∃ k : Key, prs[j]? = some (k, vu) ∧ (mixKind X.prog X.w).is k ku = true := by
        intro kk
        induction kk with
        | nil =>
          intro vs ps h1 _ _
          cases ps with
          | nil => exact ⟨[], .nil, rfl, fun j ku vu e => by simp at e⟩
          | cons _ _ => cases h1
        | cons k kk ih =>
          intro vs ps h1 h2 h3
          cases ps with
          | nil => cases h1
          | cons p ps =>
            cases vs with
            | nil => cases h2
            | cons v vs =>
              obtain ⟨ku, vu⟩ := p
              obtain ⟨k', v', e1, e2, r1, r2⟩ := h3 0 ku vu rfl
              cases e1
              cases e2
              obtain ⟨prs, g1, g2, g3⟩ := ih vs ps (by simpa using h1) (by simpa using h2) fun j ku vu e => by
                have := h3 (j + 1) ku vu (by simpa using e)
                simpa using this
              refine ⟨(k, vu) :: prs, .cons ⟨rfl, r2⟩ g1, by rw [List.length_cons, List.length_cons, g2], fun j ku' vu' e => ?_⟩
              cases j with
              | zero =>
                cases e
                exact ⟨k, rfl, kV_is r1⟩
              | succ j =>
                obtain ⟨k2, e3, e4⟩ := g3 j ku' vu' (by simpa using e)
                exact ⟨k2, by simpa using e3, e4⟩
      obtain ⟨prs, g1, g2, g3⟩ := go kk vs ps (by rw [l1, lp]) (by rw [l2, lp]) fun j ku vu e => by
        obtain ⟨k, v, h1, h2, h3, h4, _⟩ := hp j ku vu e
        exact ⟨k, v, h1, h2, h3, h4⟩
      exact ⟨prs, g1, by rw [g2, lp], g3⟩
    obtain ⟨prs, g1, g2, g3⟩ := hkv
    refine PySem.call_dict_pairs (knd := mixKind X.prog X.w) (kvs := prs) (PairArg.list a _ TT ps) (I.ok.hd hc) ok ⟨by rw [g2, lp], g3⟩ (by rw [lp]; exact hz) fun h' tk dd k => ?_
    have hle : (merged [] prs).length ≤ sizeLine := by
      have := merged_length [] prs
      rw [List.length_nil] at this
      omega
    obtain ⟨od, g, fd⟩ := flatD_of dd hle
    exact ⟨.ref s.heap.objs.size, _, laid k g, rfl, q _ od _ hn sm (merged_kv g1 .nil List.nodup_nil) fd⟩
  · subst ek
    rw [List.length_map] at l1
    have hkv : ∃ us : List Value, Vals vs us ∧ us.length = Ts.length ∧ ∀ (j : Nat) (ku vu : Value), ps[j]? = some (ku, vu) → us[j]? = some vu ∧ ∃ x : NestedKey × Addr, kb[j]? = some x ∧ ku = Value.ref x.2 := by
      refine ⟨ps.map (·.2), ?_, by rw [List.length_map, lp], fun j ku vu e => ⟨by rw [List.getElem?_map, e]; rfl, ?_⟩⟩
      · have go : ∀ (vs : List V) (ps : List (Value × Value)), vs.length = ps.length → (∀ (j : Nat) (ku vu : Value), ps[j]? = some (ku, vu) → ∃ v : V, vs[j]? = some v ∧ RelV v vu) → Vals vs (ps.map (·.2)) := by
          intro vs
          induction vs with
          | nil =>
            intro ps h1 _
            cases ps with
            | nil => exact .nil
            | cons _ _ => cases h1
          | cons v vs ih =>
            intro ps h1 h2
            cases ps with
            | nil => cases h1
            | cons p ps =>
              obtain ⟨v', e, r⟩ := h2 0 p.1 p.2 rfl
              cases e
              exact .cons r (ih ps (by simpa using h1) fun j ku vu e => by
                have := h2 (j + 1) ku vu (by simpa using e)
                simpa using this)
        exact go vs ps (by rw [l2, lp]) fun j ku vu e => by
          obtain ⟨k, v, h1, h2, h3, h4, _⟩ := hp j ku vu e
          exact ⟨v, h2, h4⟩
      · obtain ⟨k, v, h1, h2, h3, h4, _⟩ := hp j ku vu e
        rw [List.getElem?_map] at h1
        obtain ⟨x, ex, rfl⟩ := Option.map_eq_some_iff.mp h1
        exact ⟨x, ex, h3⟩
    obtain ⟨us, g1, g2, g3⟩ := hkv
    have lz : (kb.zipWith (fun x u => (x.1, x.2, u)) us).length = ps.length := by
      rw [List.length_zipWith, l1, g2, lp, Nat.min_self]
    refine PySem.call_dict_pairsH (knd := nestedKind X.prog X.w) (ps := kb.zipWith (fun x u => (x.1, x.2, u)) us) (PairArg.list a _ TT ps) (I.ok.hd hc) (by show X.A.in1.in1.units + 8 < cLine; simp only [Around.in1_units]; omega) ok ⟨lz, fun j ku vu e => ?_⟩ (fun h' k x hx => ?_) (by rw [lp]; exact hz) fun h' tk dd k => ?_
    · obtain ⟨e1, x, e2, e3⟩ := g3 j ku vu e
      exact ⟨x.1, x.2, by rw [List.getElem?_zipWith, e2, e1], e3⟩
    · obtain ⟨x0, u0, hx0, _, rfl⟩ : ∃ x0 u0, x0 ∈ kb ∧ u0 ∈ us ∧ x = (x0.1, x0.2, u0) := by
        obtain ⟨j, hj⟩ := List.mem_iff_getElem?.mp hx
        obtain ⟨x0, u0, h1, h2, h3⟩ := getElem?_zw hj
        exact ⟨x0, u0, List.mem_of_getElem? h1, List.mem_of_getElem? h2, h3⟩
      have I1 : Inv X pins σ H { s with heap := s.heap } := I
      have z := (hk x0 hx0).is I
      exact (nestedKind_stays (prog := X.prog) (w := X.w)).all h' (fun b o _ e => k b o (Nat.ne_of_lt (Heap.lt_size e)) (by simp) e) _ _ z
    · have nd : ((([] : List (NestedKey × Addr × Value))).map (·.1)).Nodup := List.nodup_nil
      rw [storedAll_eq nd] at dd
      have hle : (putAllRT [] (kb.zipWith (fun x u => (x.1, x.2, u)) us)).length ≤ sizeLine := by
        rw [← storedAll_eq nd]
        have := storedAllH_length (kb.zipWith (fun x u => (x.1, x.2, u)) us) ([] : List (NestedKey × Addr × Value))
        rw [List.length_nil] at this
        omega
      obtain ⟨od, g, td⟩ := tupD_of dd hle
      exact ⟨.ref s.heap.objs.size, _, laid k g, rfl, q _ od us hn sm g1 td⟩
end DL
namespace DL
open PySem PySem.Spec PyProof.Rows L2
section
variable {C : Ctx} {m : Bool} {F F1 F' : FS} {H H1 H' : Hp} {p p1 p' q r : List Addr} {σ : St} {env : Env} {En : Ends} {pos : Pos}
def pairsD : List D → Option (List (D × D))
  | [] => some []
  | .tup [k, v] :: r => (pairsD r).map ((k, v) :: ·)
  | _ => none
def putKf (acc : List (D × D)) (p : D × D) : List (D × D) := match fkey p.1 with
  | some k => putK' acc p.1 k p.2
  | none => acc
def putTf (acc : List (D × D)) (p : D × D) : List (D × D) := match nkey p.1 with
  | some k => putT' acc p.1 k p.2
  | none => acc
def tupKeyB (prs : List (D × D)) : Bool := prs.all fun x => isTup x.1 && (match nkey x.1 with
  | some k => decide (k.depth ≤ 8)
  | none => false)
def φDictL : List D → Option D
  | [.lst _ xs] => (match pairsD xs with
    | some prs => if prs.length ≤ SZ then (if flatB prs = true then some (.dic true (prs.foldl putKf []))
      else if tupKeyB prs = true then some (.dic true (prs.foldl putTf [])) else none) else none
    | none => none)
  | _ => none
theorem pairs_rep : ∀ {xs : List D} {us : List V} {prs : List (D × D)} {q : List Addr}, pairsD xs = some prs → C.reps F H xs us q → ∃ (Ts : List Addr) (ks vs : List V), us = Ts.map V.ref ∧ Ts.length = prs.length ∧ C.reps F H (prs.map (·.1)) ks [] ∧ C.reps F H (prs.map (·.2)) vs [] ∧
    ∀ (j : Nat) (k v : V), ks[j]? = some k → vs[j]? = some v → ∃ T, Ts[j]? = some T ∧ H T = some (.tup [k, v])
  | [], us, prs, q, e, x => by
    cases e
    obtain ⟨rfl, _⟩ := x
    exact ⟨[], [], [], rfl, rfl, ⟨rfl, rfl⟩, ⟨rfl, rfl⟩, fun j k v e => by simp at e⟩
  | d :: xs, us, prs, q, e, ⟨u, ws, q1, q2, e0, x1, x2, _⟩ => by
    subst e0
    unfold pairsD at e
    split at e
    · rename_i heq
      cases heq
    · rename_i k v r' heq
      cases heq
      obtain ⟨prs', ep, rfl⟩ := Option.map_eq_some_iff.mp e
      obtain ⟨Ts, ks, vs, rfl, h1, h2, h3, h4⟩ := pairs_rep ep x2
      obtain ⟨a, zs, rfl, ha, rz, _⟩ := x1
      obtain ⟨kv, zs', qa, qb, rfl, y1, y2, hq⟩ := rz
      obtain ⟨vv, rfl, y3⟩ := reps_one (C := C) y2
      obtain ⟨rfl, rfl⟩ := List.append_eq_nil_iff.mp hq.symm
      refine ⟨a :: Ts, kv :: ks, vv :: vs, rfl, by rw [List.length_cons, List.length_cons, h1], ⟨_, _, [], [], rfl, y1, h2, rfl⟩, ⟨_, _, [], [], rfl, y3, h3, rfl⟩, fun j k v ek ev => ?_⟩
      cases j with
      | zero =>
        cases ek
        cases ev
        exact ⟨a, rfl, ha⟩
      | succ j =>
        obtain ⟨T, e1, e2⟩ := h4 j k v (by simpa using ek) (by simpa using ev)
        exact ⟨T, by simpa using e1, e2⟩
    · cases e
theorem fold_flat : ∀ {prs : List (D × D)} {ks vs : List V} {acc : List (D × D)} {kv : List (Key × V)}, flatB prs = true → C.reps F H (prs.map (·.1)) ks [] → C.reps F H (prs.map (·.2)) vs [] → repK C.X.prog C.X.w C.X.K F H acc kv [] →
    ∃ kk : List Key, ks = kk.map kV ∧ repK C.X.prog C.X.w C.X.K F H (prs.foldl putKf acc) (putAllR kv (kk.zip vs)) []
  | [], ks, vs, acc, kv, _, x, y, z => by
    obtain ⟨rfl, _⟩ := x
    obtain ⟨rfl, _⟩ := y
    exact ⟨[], rfl, z⟩
  | (x0, d) :: prs, ks, vs, acc, kv, f, ⟨k, ks', q1, q2, e1, x1, x2, hq⟩, ⟨v, vs', q3, q4, e2, y1, y2, hq2⟩, z => by
    obtain ⟨rfl, rfl⟩ := List.append_eq_nil_iff.mp hq.symm
    obtain ⟨rfl, rfl⟩ := List.append_eq_nil_iff.mp hq2.symm
    subst e1 e2
    have f0 : flatB ((x0, d) :: prs) = true := f
    unfold flatB at f0
    rw [List.all_cons, Bool.and_eq_true] at f0
    obtain ⟨k0, ek⟩ := Option.isSome_iff_exists.mp f0.1
    have ek' : fkey x0 = some k0 := ek
    have e3 := fkey_kV (C := C) ⟨_, x1⟩ ek'
    obtain ⟨l, q0, r', h1, h2⟩ := repK_put z ek' y1
    obtain ⟨rfl, h1'⟩ := List.append_eq_nil_iff.mp h1.symm
    obtain ⟨rfl, rfl⟩ := List.append_eq_nil_iff.mp h1'
    obtain ⟨kk, h3, h4⟩ := fold_flat (acc := putK' acc x0 k0 d) (kv := putR kv k0 v) f0.2 x2 y2 h2
    refine ⟨k0 :: kk, by rw [e3, h3]; rfl, ?_⟩
    show repK _ _ _ F H (prs.foldl putKf (putKf acc (x0, d))) (putAllR (putR kv k0 v) (kk.zip vs')) []
    have e4 : putKf acc (x0, d) = putK' acc x0 k0 d := by
      unfold putKf
      rw [ek']
    rw [e4]
    exact h4
theorem fold_tup : ∀ {prs : List (D × D)} {ks vs : List V}, tupKeyB prs = true → C.reps F H (prs.map (·.1)) ks [] → C.reps F H (prs.map (·.2)) vs [] →
    ∃ kb : List (NestedKey × Addr), ks = kb.map (fun x => V.ref x.2) ∧ (∀ x ∈ kb, KeyAt C.X.prog C.X.w C.X.K H x.2 x.1) ∧ ∀ (acc : List (D × D)) (es : List (NestedKey × Addr × Value)) (us : List Value), Vals vs us → repT C.X.prog C.X.w C.X.K F H acc es [] →
      repT C.X.prog C.X.w C.X.K F H (prs.foldl putTf acc) (putAllRT es (kb.zipWith (fun x u => (x.1, x.2, u)) us)) []
  | [], ks, vs, _, x, y => by
    obtain ⟨rfl, _⟩ := x
    obtain ⟨rfl, _⟩ := y
    exact ⟨[], rfl, (fun x h => by cases h), fun acc es us _ z => z⟩
  | (x0, d) :: prs, ks, vs, f, ⟨k, ks', q1, q2, e1, x1, x2, hq⟩, ⟨v, vs', q3, q4, e2, y1, y2, hq2⟩ => by
    obtain ⟨rfl, rfl⟩ := List.append_eq_nil_iff.mp hq.symm
    obtain ⟨rfl, rfl⟩ := List.append_eq_nil_iff.mp hq2.symm
    subst e1 e2
    unfold tupKeyB at f
    rw [List.all_cons, Bool.and_eq_true, Bool.and_eq_true] at f
    obtain ⟨⟨f1, f2⟩, f3⟩ := f
    have f1 : isTup x0 = true := f1
    obtain ⟨k0, ek, dp⟩ : ∃ k0, nkey x0 = some k0 ∧ k0.depth ≤ 8 := by
      have f2 : (match nkey x0 with
        | some k => decide (k.depth ≤ 8)
        | none => false) = true := f2
      split at f2
      · rename_i k0 ek
        exact ⟨k0, ek, of_decide_eq_true f2⟩
      · cases f2
    obtain ⟨b, rfl, hb⟩ := tup_ref (C := C) ⟨_, x1⟩ f1 ek dp
    obtain ⟨kb, h1, h2, h3⟩ := fold_tup f3 x2 y2
    refine ⟨(k0, b) :: kb, by rw [h1]; rfl, fun x hx => ?_, fun acc es us rv z => ?_⟩
    · rcases List.mem_cons.mp hx with rfl | hx
      · exact hb
      · exact h2 x hx
    · cases rv with
      | @cons _ u _ us' r0 rt =>
        obtain ⟨l, q0, r', g1, g2⟩ := repT_put z ek dp x1 r0 y1
        obtain ⟨rfl, g1'⟩ := List.append_eq_nil_iff.mp g1.symm
        obtain ⟨rfl, rfl⟩ := List.append_eq_nil_iff.mp g1'
        have e4 : putTf acc (x0, d) = putT' acc x0 k0 d := by
          unfold putTf
          rw [ek]
        show repT _ _ _ F H (prs.foldl putTf (putTf acc (x0, d))) (putAllRT (putRT es k0 b u) (kb.zipWith (fun x u => (x.1, x.2, u)) us')) []
        rw [e4]
        exact h3 _ _ us' rt g2
theorem ok_dictL : RdOK C φDictL (rDictL C.X) := by
  intro F H ds vs d Q hs trk e h
  unfold φDictL at e
  split at e
  · rename_i o xs
    split at e
    · rename_i prs ep
      split at e
      · rename_i hl
        obtain ⟨x, rfl, h1⟩ := iss1 hs
        obtain ⟨a, us, q1, rfl, ha, ra, _⟩ := is_lst h1
        obtain ⟨Ts, ks, ws, rfl, l1, rk, rw', hT⟩ := pairs_rep ep ra
        have l2 := reps_len (C := C) rk
        have l3 := reps_len (C := C) rw'
        rw [List.length_map] at l2 l3
        have P : PairsIn C.X H a ks ws := ⟨Ts, SqL.of ha, by rw [← l2, l1], by rw [← l3, l1], hT⟩
        refine ⟨a, ks, ws, rfl, P, ?_⟩
        split at e
        · rename_i hf
          cases e
          obtain ⟨kk, ek, rr⟩ := fold_flat hf rk rw' (acc := []) (kv := []) ⟨rfl, rfl⟩
          refine .inl ⟨kk, ek, fun L od vs' hL sm kvr fd => ?_⟩
          refine h _ _ [L] (grow_upd hL) (fun a h => by cases List.mem_singleton.mp h; exact hL) (by simp) ⟨L, od, [], rfl, sm, ⟨upd_same, rfl⟩, .inl ⟨_, vs', ?_, kvr, fd⟩⟩
          exact repK_mono rr (Stab.grow (grow_upd hL))
        · split at e
          · rename_i hf
            cases e
            obtain ⟨kb, ek, hk, rr⟩ := fold_tup hf rk rw'
            refine .inr ⟨kb, ek, hk, fun L od us hL sm rv td => ?_⟩
            refine h _ _ [L] (grow_upd hL) (fun a h => by cases List.mem_singleton.mp h; exact hL) (by simp) ⟨L, od, [], rfl, sm, ⟨upd_same, rfl⟩, .inr ⟨_, ?_, td⟩⟩
            exact repT_mono (rr [] [] us rv ⟨rfl, rfl⟩) (Stab.grow (grow_upd hL))
          · cases e
      · cases e
    · cases e
  · cases e
end
end DL

namespace DL
open PySem PySem.Spec PyProof.Rows L2
/-! ### dict comprehensions, keys ints, texts or tuples (the walk follows HandS.DictComp's) -/
section
variable {X : Cx}
abbrev mtD : Obj := { cls := .type "dict", data := .dict #[] }
/-- D: the new dict -/
def tDcO (X : Cx) (wi : TI) (g : TG) (tt : TT) (tk tv : TE) (vs : List Nat) : TE := fun σ H Q => wi σ H fun J H1 => ∀ D od, H1 D = none → (D == sysModules) = false → FlatD X.prog X.w od [] → ∃ W : Nat → Nat → Hp → Prop, (∃ m, W 0 m (upd H1 D (objO D od))) ∧ ∀ i m H, W i m H →
  (J.stop i H ∧ Q (.ref D) H) ∨ (J.go i H ∧ ∃ Nx : Hp → Prop, (∀ H', Nx H' → ∃ m', m' < m ∧ W (i + 1) m' H') ∧ ∀ x H', J.yld i H x H' → g x (wipe σ vs) H' fun σ2 H2 => wipe σ2 vs = wipe σ vs ∧ tt σ2 H2 fun b H3 =>
    if b = true then tk σ2 H3 fun y H4 => tv σ2 H4 fun z H5 => rDSet X (.ref D) y z H5 Nx else Nx H3)
theorem dcO_core {pins : List (Addr × Obj)} {s : Shared} {σ : St} {H : Hp} {Q : VK} {kx vx tg iter : Expr} {ifs : List Expr} {scope : Scope} {own : List (Str × Nat)} {pos pos' : Pos} {wi : TI} {g : TG} {tt : TT} {tk tv : TE} {use : Option (Value → Sem Unit)} {Qf : Value → Shared → Prop}
    (hu : X.A.units + 16 < cLine) (hc : X.calm = true) (hN : X.N.Nodup) (I : Inv X pins σ H s) (hi : PI X tg iter wi) (ok : BlkOk X.N X.env.scope scope own)
    (hg : ∀ (s : Shared) (H : Hp) (C : Addr) (cl : List (Str × Addr)) (fp : List Addr), PG (X.blk s H scope (compEnvC scope cl C X.env) fp) tg g) (ht : ∀ (s : Shared) (H : Hp) (C : Addr) (cl : List (Str × Addr)) (fp : List Addr), PTs (X.blk s H scope (compEnvC scope cl C X.env) fp) ifs tt)
    (hk : ∀ (s : Shared) (H : Hp) (C : Addr) (cl : List (Str × Addr)) (fp : List Addr), PE (X.blk s H scope (compEnvC scope cl C X.env) fp) kx tk)
    (he : ∀ (s : Shared) (H : Hp) (C : Addr) (cl : List (Str × Addr)) (fp : List Addr), PE (X.blk s H scope (compEnvC scope cl C X.env) fp) vx tv) (hs : ∀ x, foldedSetIterable iter X.env x = pure x)
    (h : tDcO X wi g tt tk tv (own.map (·.2)) σ H Q)
    (hRR : ∀ D C s' m H', Inv X pins σ H' s' → Q (.ref D) H' → s'.heap.Ns C m → FpOk X pins H' C → compPost (model X.prog X.w) X.A X.xe use Qf (.ref D) C (.ok .next) s') :
    wpAny (model X.prog X.w) X.A (comprehension (.DictComp kx vx [⟨tg, iter, ifs, 0⟩] scope pos) scope X.env pos' newDict false (eval iter X.env) use) Qf X.xe s := by
  have hfree : ∀ y ∈ scope.names, y.2 = .free → ∃ c, X.env.cells.lookup y.1 = some c := fun y hy e => by
    rcases ok.free y hy e with k | k
    · exact I.ok.has _ (.inl k)
    · exact I.ok.has _ (.inr k)
  refine wpAny_comprehension_free (use := use) rfl hs (closure_ok hfree) ok.kind (fun y hy e => by rw [ok.uniq y hy, e])
    (thn (hi.run pins s σ H _ I h) fun xv s1 hx => thn hx fun itv s2 h2 => ?_)
  obtain ⟨it, fp, tn, J, H2, e, I2, T, st2, f2, q⟩ := h2
  subst e
  refine wpAny_newObj_type (newEnv_comp ?_)
  generalize hD : s2.heap.objs.size = D
  have hDn : H2 D = none := I2.hok.fresh (Nat.le_of_eq hD)
  have sm : (D == sysModules) = false := beq_eq_false_iff_ne.mpr (Ne.symm (Nat.ne_of_lt (by rw [← hD]; exact I2.big)))
  obtain ⟨W, ⟨m0, w0⟩, turn⟩ := q D mtD hDn sm (emptyFlat _ _)
  -- the new list
  generalize hs3 : ({ s2 with heap := s2.heap.push mtD } : Shared) = s3
  have I3 : Inv X pins σ (upd H2 D (objO D mtD)) s3 := by
    rw [← hs3]
    refine I2.laid (t' := s2.toks) (fun b o e => Heap.get?_push_of_some _ e) (Nat.le_of_eq hD) ?_
    have g : (s2.heap.push mtD).get? D = some mtD := by rw [← hD]; exact Heap.get?_push_size _ rfl
    exact ⟨g, ⟨_, g⟩, fun h1 h2 p k => k _ p⟩
  have h3 : s3.heap = s2.heap.push mtD := by rw [← hs3]
  have sz : ∀ b ∈ fp, b < s2.heap.objs.size := fun b hb => by
    obtain ⟨o, e, _⟩ := T.obj _ _ st2 b hb
    exact Heap.lt_size e
  have f3 : ∀ b ∈ fp, FpOk X pins (upd H2 D (objO D mtD)) b ∧ b < s3.heap.objs.size := fun b hb => by
    have hlt := sz b hb
    refine ⟨⟨?_, (f2 b hb).2⟩, by rw [h3, Heap.size_push]; exact Nat.lt_succ_of_lt hlt⟩
    rw [upd_ne (by rw [← hD]; exact Nat.ne_of_lt hlt)]
    exact (f2 b hb).1
  have st3 : tn 0 s3.heap := T.keep _ _ _ st2 fun b _ o e => by rw [h3]; exact Heap.get?_push_of_some _ e
  have I4 := block_start I3 ok hN f3
  have pg := hg s3 (upd H2 D (objO D mtD)) s3.heap.objs.size (cellsFrom (s3.heap.objs.size + 1) scope.names (cloFrom X.env.cells scope.names [])) fp
  have pt := ht s3 (upd H2 D (objO D mtD)) s3.heap.objs.size (cellsFrom (s3.heap.objs.size + 1) scope.names (cloFrom X.env.cells scope.names [])) fp
  have pk := hk s3 (upd H2 D (objO D mtD)) s3.heap.objs.size (cellsFrom (s3.heap.objs.size + 1) scope.names (cloFrom X.env.cells scope.names [])) fp
  have pe := he s3 (upd H2 D (objO D mtD)) s3.heap.objs.size (cellsFrom (s3.heap.objs.size + 1) scope.names (cloFrom X.env.cells scope.names [])) fp
  show codeAny _ _ (.compStart (.DictComp kx vx [⟨tg, iter, ifs, 0⟩] scope pos) 0 (.ref it) (.ref D) (compEnvC scope (cellsFrom (s3.heap.objs.size + 1) scope.names (cloFrom X.env.cells scope.names [])) s3.heap.objs.size X.env)) (compPost (model X.prog X.w) X.A X.xe use Qf (.ref D) s3.heap.objs.size) { s3 with heap := pushCells (s3.heap.push { cls := .type "dict", data := .dict #[] }) scope.names }
  have nfp : ∀ b ∈ fp, (upd H2 D (objO D mtD)) b = none := fun b hb => (f3 b hb).1.1
  generalize hce : compEnvC scope (cellsFrom (s3.heap.objs.size + 1) scope.names (cloFrom X.env.cells scope.names [])) s3.heap.objs.size X.env = ce at I4 pg pt pk pe ⊢
  have cL : ce.locals = s3.heap.objs.size := by subst hce; rfl
  generalize hH3 : upd H2 D (objO D mtD) = H3 at I3 I4 pg pt pk pe w0 nfp f3
  generalize hs4 : ({ s3 with heap := pushCells (s3.heap.push { cls := .type "dict", data := .dict #[] }) scope.names } : Shared) = s4 at I4 ⊢
  have st4 : tn 0 s4.heap := T.keep _ _ _ st3 fun b _ o e => by rw [← hs4]; exact pushCells_keeps _ _ _ _ (Heap.get?_push_of_some _ e)
  have stat : ∀ {σ' : St} {H' : Hp} {s' : Shared}, Inv (X.blk s3 H3 scope ce fp) [] σ' H' s' → (∀ b ∈ fp, H' b = none) → ∀ b ∈ fp, FpOk (X.blk s3 H3 scope ce fp) [] H' b := fun {σ' H' s'} I' hn b hb =>
    ⟨hn b hb, (I'.ok.exf b hb).1, I'.ok.exfs b hb, .inl hb, fun x c e => (I'.ok.exf b hb).2 x c e, fun p hp => absurd (show p ∈ ([] : List (Addr × Obj)) ++ [] from hp) (by simp)⟩
  have loop : codeAny (model X.prog X.w) X.A (.compLoop (.DictComp kx vx [⟨tg, iter, ifs, 0⟩] scope pos) 0 (.ref it) (.ref D) ce) (compPost (model X.prog X.w) X.A X.xe use Qf (.ref D) s3.heap.objs.size) s4 := by
    refine compLoop_anyD (fun n s' => ∃ i H', Inv (X.blk s3 H3 scope ce fp) [] (wipe σ (own.map (·.2))) H' s' ∧ tn i s'.heap ∧ (∀ b ∈ fp, H' b = none) ∧ W i n H') ?_ m0 ⟨0, H3, I4, st4, nfp, w0⟩
    rintro n s5 ⟨i, H5, I5, st5, n5, w5⟩
    rcases turn i n H5 w5 with ⟨stop, qq⟩ | ⟨go, Nx, hNx, step⟩
    · have td := T.done (X.blk s3 H3 scope ce fp) rfl rfl rfl hc i [] s5 _ H5 (fun _ _ => False) I5 (stat I5 n5) st5 stop
      refine thnF td fun r s6 ⟨hr, I6⟩ => ?_
      subst hr
      -- back in the def's context
      have I7 : Inv X pins σ H5 s6 := I3.call' (ch := fp) I6.os I6.base I6.hok I6.bare fun b hb => ⟨(f3 b hb).1.2.2.2.1, (f3 b hb).1.2.1, (f3 b hb).1.2.2.2.2.1, (f3 b hb).1.2.2.2.2.2⟩
      have nC : H5 s3.heap.objs.size = none := by
        have z : H5 ce.locals = none := I6.free
        rw [cL] at z
        exact z
      obtain ⟨m, hn, _⟩ := I6.loc
      have hn : s6.heap.Ns ce.locals m := hn
      rw [cL] at hn
      exact hRR D s3.heap.objs.size s6 m H5 I7 qq hn (I3.fpOk (Nat.le_refl _) nC)
    · have ti := T.item (X.blk s3 H3 scope ce fp) rfl rfl rfl hc i [] s5 _ H5 (fun _ _ => False) I5 (stat I5 n5) st5 go
      refine thnF ti fun r s6 ⟨u, hr, h6⟩ => ?_
      subst hr
      refine thnF h6 fun _ s7 ⟨x, H7, I7, r7, y7, st7, n7⟩ => ?_
      have I7' := I7.pinned (stat I7 n7) (T.obj _ _ st7)
      refine thnF (pg.run _ s7 _ H7 x u _ I7' r7 (step x H7 y7)) fun _ s8 ⟨σ8, H8, I8, hw8, q8⟩ => ?_
      refine thnF (pt.run _ s8 σ8 H8 _ I8 q8) fun b s9 ⟨H9, I9, q9⟩ => ?_
      -- the turn's end
      have fin : ∀ {s' : Shared} {H' : Hp}, Inv (X.blk s3 H3 scope ce fp) ([] ++ pinsAt fp s7.heap) σ8 H' s' → Nx H' → ∃ m, m < n ∧ ∃ i H', Inv (X.blk s3 H3 scope ce fp) [] (wipe σ (own.map (·.2))) H' s' ∧ tn i s'.heap ∧ (∀ b ∈ fp, H' b = none) ∧ W i m H' := fun {s' H'} I' nx => by
        obtain ⟨m', hm, w'⟩ := hNx H' nx
        have pin' : ∀ b ∈ fp, ∀ o, s7.heap.get? b = some o → s'.heap.get? b = some o ∧ H' b = none := fun b hb o e =>
          let z := I'.pin (b, o) (List.mem_append_right _ (List.mem_append_right _ (mem_pinsAt hb e)))
          ⟨z.1, z.2.1⟩
        have hl : (wipe σ (own.map (·.2))).length = σ8.length := by rw [← hw8, wipe_length]
        refine ⟨m', hm, i + 1, H', (I'.unpinned (pins := [])).weak hl (fun j v e => ?_), T.keep _ _ _ st7 fun b hb o e => (pin' b hb o e).1, fun b hb => ?_, w'⟩
        · rw [← hw8] at e
          exact (wipe_some e).1
        · obtain ⟨o, e, _⟩ := T.obj _ _ st7 b hb
          exact (pin' b hb o e).2
      cases b with
      | false =>
        simp only [Bool.false_eq_true, if_false] at q9 ⊢
        exact fin I9 q9
      | true =>
        simp only [if_true] at q9 ⊢
        refine thnF (pk.run _ s9 σ8 H9 _ I9 q9) fun z s10 ⟨yk, H10, I10, r10, q10⟩ => ?_
        refine thnF (pe.run _ s10 σ8 H10 _ I10 q10) fun z2 s11 ⟨yv, H11, I11, r11, st11⟩ => ?_
        exact thnF (set_dict2 (X := X.blk s3 H3 scope ce fp) hu I11 r10 r11 st11) fun _ s12 ⟨H12, I12, nx⟩ => fin I12 nx
  exact codeAny_compStart_dict loop (T.self X.A 0 _ _ _ st4 loop)
/-- as a value -/
theorem pe_dcO {kx vx tg iter : Expr} {ifs : List Expr} {scope : Scope} {own : List (Str × Nat)} {pos : Pos} {wi : TI} {g : TG} {tt : TT} {tk tv : TE} (hu : X.A.units + 16 < cLine) (hc : X.calm = true) (hN : X.N.Nodup) (hi : PI X tg iter wi) (ok : BlkOk X.N X.env.scope scope own)
    (hg : ∀ (s : Shared) (H : Hp) (C : Addr) (cl : List (Str × Addr)) (fp : List Addr), PG (X.blk s H scope (compEnvC scope cl C X.env) fp) tg g) (ht : ∀ (s : Shared) (H : Hp) (C : Addr) (cl : List (Str × Addr)) (fp : List Addr), PTs (X.blk s H scope (compEnvC scope cl C X.env) fp) ifs tt)
    (hk : ∀ (s : Shared) (H : Hp) (C : Addr) (cl : List (Str × Addr)) (fp : List Addr), PE (X.blk s H scope (compEnvC scope cl C X.env) fp) kx tk)
    (he : ∀ (s : Shared) (H : Hp) (C : Addr) (cl : List (Str × Addr)) (fp : List Addr), PE (X.blk s H scope (compEnvC scope cl C X.env) fp) vx tv) (hs : ∀ x, foldedSetIterable iter X.env x = pure x := by intro _; rfl) :
    PE X (.DictComp kx vx [⟨tg, iter, ifs, 0⟩] scope pos) (tDcO X wi g tt tk tv (own.map (·.2))) := by
  refine ⟨fun pins s σ H Q I h => ?_⟩
  rw [arm_eval_DictComp]
  refine dcO_core hu hc hN I hi ok hg ht hk he hs h fun D C s' m H' I' q hn f => ⟨m, hn, fun h'' sb => ?_⟩
  obtain ⟨f0, f1, f2, f3, f4, f5⟩ := f
  exact ⟨.ref D, H', I'.turned (t' := s'.toks) (fun b o hb e => (sb.2 b hb).trans e) f0 f1 f3 f4 f5, rfl, q⟩
end
end DL

namespace DL
open PySem PySem.Spec PyProof.Rows L2
section
variable {C : Ctx} {m : Bool} {F F1 F' : FS} {H H1 H' : Hp} {p p1 p' q r : List Addr} {σ : St} {env : Env} {En : Ends} {pos : Pos}
def dcL (vs : List Nat) (a : AS) (t fk fv : XF) : List D → Env → List (D × D) → Option (List (D × D) × Env)
  | [], env, acc => some (acc, env)
  | d :: ds, env, acc => match a d env with
    | some e1 => (match t e1 with
      | some (.val (.bl true), e2) => (match fk e2 with
        | some (.val k, e3) => (match fv e3 with
          | some (.val y, e4) => if fro y = true then (match dput acc k y with
            | some acc' => dcL vs a t fk fv ds (wipeE e4 vs) acc'
            | none => none) else none
          | _ => none)
        | _ => none)
      | some (.val (.bl false), e2) => dcL vs a t fk fv ds (wipeE e2 vs) acc
      | _ => none)
    | none => none
def xdc (vs : List Nat) (h : IF) (a : AS) (t fk fv : XF) : XF := fun env => match h env with
  | some (.items ds, e1) => if (vs.all fun v => match e1[v]? with
      | some x => froO x
      | none => false) = true then
      (match dcL vs a t fk fv ds (wipeE e1 vs) [] with
      | some (acc, e2) => some (.val (.dic true acc), restE e1 e2 vs)
      | none => none) else none
  | some (.exc c fs, e1) => some (.exc c fs, e1)
  | none => none
theorem dic_at {o : Bool} {kvs : List (D × D)} {L : Addr} {p : List Addr} (h : C.rep F H (.dic o kvs) (.ref L) p) : ∃ od, H L = some (objO L od) := by
  obtain ⟨a, od, q, e, sm, ow, _⟩ := h
  cases e
  exact ⟨od, own_at ow⟩
theorem tx_dc {vs is : List Nat} {h : IF} {a : AS} {t fk fv : XF} {Q : VK} (hnd : vs.Nodup) (his : ∀ i ∈ is, i ∈ vs) (hx : ∀ i ∈ C.fx, i ∉ vs) (z : TX C true (xdc vs h a t fk fv) σ H Q) :
    tDcO C.X (TIx C h) (TGx C.cmp is a) (TTX C.cmp true t) (TX C.cmp true fk) (TX C.cmp true fv) vs σ H Q := by
  obtain ⟨F, p, env, rel, r, env', e, post⟩ := z
  refine ⟨F, p, env, rel, ?_⟩
  unfold xdc at e
  split at e
  · rename_i ds e1 eh
    refine ⟨_, _, eh, fun J H1 F1 p1 x1 rel1 it L od0 hL sm fd0 => ?_⟩
    split at e
    · rename_i hfro
      split at e
      · rename_i accF eF el
        cases e
        have nL1 : L ∉ p1 := fun h => rel1.there _ h hL
        have nFL : ¬ F1 L := fun h => rel1.trk _ h hL
        obtain ⟨p0, rel0, sub0⟩ := Rel.wipe (C := C) rel1 vs hx
        have relN : Rel C (wipeE e1 vs) (L2.wipe σ vs) F1 (upd H1 L (objO L od0)) p0 := Rel.grow (C := C) rel0 (grow_upd hL)
        have xN : Ext true F1 H1 p1 F1 (upd H1 L (objO L od0)) (L :: p0) := (Ext.laid hL).sub fun a h => (List.mem_cons.mp h).elim (fun e => by rw [e]; exact List.mem_cons_self) fun h => List.mem_cons_of_mem _ (sub0 a h)
        have rep0 : C.rep F1 (upd H1 L (objO L od0)) (.dic true []) (.ref L) [L] := ⟨L, od0, [], rfl, sm, ⟨upd_same, rfl⟩, .inl ⟨[], [], ⟨rfl, rfl⟩, .nil, fd0⟩⟩
        refine ⟨fun i mm H2 => i ≤ ds.length ∧ mm = ds.length - i ∧ ∃ F2 p2 env2 acc, Ext true F1 H1 p1 F2 H2 (L :: p2) ∧ Rel C env2 (L2.wipe σ vs) F2 H2 p2 ∧ L ∉ p2 ∧ ¬ F2 L ∧ C.rep F2 H2 (.dic true acc) (.ref L) [L] ∧ dcL vs a t fk fv (ds.drop i) env2 acc = some (accF, eF),
          ⟨ds.length, Nat.zero_le _, rfl, F1, p0, _, [], xN, relN, fun h => nL1 (sub0 _ h), nFL, rep0, el⟩, ?_⟩
        rintro i mm H2 ⟨hi, rfl, F2, p2, env2, acc, x2, rel2, nLp, nLF, racc, ef⟩
        have x2' : Ext true F1 H1 p1 F2 H2 p2 := x2.sub fun a h => List.mem_cons_of_mem _ h
        obtain ⟨go, stop⟩ := it F2 H2 p2 x2' rel2.trk
        by_cases hlt : i < ds.length
        · obtain ⟨g1, g2⟩ := go i ds[i] (List.getElem?_eq_getElem hlt)
          refine .inr ⟨g1, fun H' => i + 1 ≤ ds.length ∧ ∃ F2 p2 env2 acc, Ext true F1 H1 p1 F2 H' (L :: p2) ∧ Rel C env2 (L2.wipe σ vs) F2 H' p2 ∧ L ∉ p2 ∧ ¬ F2 L ∧ C.rep F2 H' (.dic true acc) (.ref L) [L] ∧ dcL vs a t fk fv (ds.drop (i + 1)) env2 acc = some (accF, eF),
            fun H' ⟨k1, k2⟩ => ⟨ds.length - (i + 1), by omega, k1, rfl, k2⟩, fun x H3 y => ?_⟩
          obtain ⟨gr, rp⟩ := g2 x H3 y
          have rel3 := Rel.grow (C := C) rel2 gr
          have x3 : Ext true F1 H1 p1 F2 H3 (L :: p2) := x2.trans (Ext.grow (q := []) gr fun a h => by cases h)
          have racc3 : C.rep F2 H3 (.dic true acc) (.ref L) [L] := rep_mono racc (Stab.grow gr)
          rw [drop_cons hlt] at ef
          unfold dcL at ef
          split at ef
          · rename_i e3 ha
            refine ⟨F2, p2, env2, ds[i], [], rel3, rp, Apart.nil, e3, ha, fun σ4 H4 F4 p4 on4 x4 rel4 => ?_⟩
            have ew := wipe_onl on4 his
            rw [wipe_wipe] at ew
            refine ⟨ew, ?_⟩
            -- the dict stands beside
            have step : ∀ {Ha Hb : Hp} {Fa Fb : FS} {pa pb : List Addr} {ea : Env} {σa : St}, Ext true F1 H1 p1 Fa Ha (L :: pa) → Rel C ea σa Fa Ha pa → L ∉ pa → ¬ Fa L → C.rep Fa Ha (.dic true acc) (.ref L) [L] → Ext true Fa Ha pa Fb Hb pb →
                Ext true F1 H1 p1 Fb Hb (L :: pb) ∧ L ∉ pb ∧ ¬ Fb L ∧ C.rep Fb Hb (.dic true acc) (.ref L) [L] := fun {Ha Hb Fa Fb pa pb ea σa} xa ra n1 n2 rr xb => by
              obtain ⟨od, hl⟩ := dic_at rr
              refine ⟨xa.trans ?_, (fun h => (xb.own _ h).elim n1 fun z => (by rw [hl] at z; cases z)), (fun h => (xb.new _ h).elim n2 fun z => z.elim n1 fun z => (by rw [hl] at z; cases z)), rep_mono rr (xb.stab ra.dis ra.ow fun _ b hb => by rw [List.mem_singleton.mp hb]; exact n1)⟩
              have z := xb.beside [L] []
              rw [List.append_nil, List.append_nil] at z
              exact z
            obtain ⟨y1, y2, y3, y5⟩ := step x3 rel3 nLp nLF racc3 x4
            refine ⟨F4, p4, e3, rel4, ?_⟩
            -- what a turn leaves
            have fin : ∀ {e5 : Env} {acc' : List (D × D)} {F5 : FS} {H5 : Hp} {p5 : List Addr}, Ext true F1 H1 p1 F5 H5 (L :: p5) → Rel C e5 σ4 F5 H5 p5 → L ∉ p5 → ¬ F5 L → C.rep F5 H5 (.dic true acc') (.ref L) [L] → dcL vs a t fk fv (ds.drop (i + 1)) (wipeE e5 vs) acc' = some (accF, eF) →
                i + 1 ≤ ds.length ∧ ∃ F2 p2 env2 acc, Ext true F1 H1 p1 F2 H5 (L :: p2) ∧ Rel C env2 (L2.wipe σ vs) F2 H5 p2 ∧ L ∉ p2 ∧ ¬ F2 L ∧ C.rep F2 H5 (.dic true acc) (.ref L) [L] ∧ dcL vs a t fk fv (ds.drop (i + 1)) env2 acc = some (accF, eF) := fun {e5 acc' F5 H5 p5} xa ra n1 n2 rr el => by
              obtain ⟨p6, ra6, sub6⟩ := Rel.wipe (C := C) ra vs hx
              rw [ew] at ra6
              exact ⟨hlt, F5, p6, _, acc', xa.sub fun b h => (List.mem_cons.mp h).elim (fun e => by rw [e]; exact List.mem_cons_self) fun h => List.mem_cons_of_mem _ (sub6 b h), ra6, fun h => n1 (sub6 _ h), n2, rr, el⟩
            split at ef
            · rename_i e5 et
              refine ⟨_, _, et, fun v H5 F5 p5 q5 x5 rel5 rp5 ap5 => ?_⟩
              obtain ⟨ev, eq⟩ := rp5
              subst eq
              refine ⟨true, ev, ?_⟩
              show (if true = true then _ else _)
              rw [if_pos rfl]
              obtain ⟨z1, z2, z3, z5⟩ := step y1 rel4 y2 y3 y5 x5
              refine ⟨F5, p5, e5, rel5, ?_⟩
              split at ef
              case h_2 => cases ef
              rename_i k e6 ek
              split at ef
              case h_2 => cases ef
              rename_i yv e7 ee
              split at ef
              case isFalse => cases ef
              rename_i hy
              split at ef
              case h_2 => cases ef
              rename_i acc' ed
              have fk0 := key_fro ed
              refine ⟨_, _, ek, fun v6 H6 F6 p6 q6 x6 rel6 rp6 ap6 => ?_⟩
              have eq6 := fro_nil fk0 rp6
              subst eq6
              obtain ⟨w1, w2, w3, w5⟩ := step z1 rel5 z2 z3 z5 x6
              refine ⟨F6, p6, e6, rel6, _, _, ee, fun v7 H7 F7 p7 q7 x7 rel7 rp7 ap7 => ?_⟩
              have eq7 := fro_nil hy rp7
              subst eq7
              obtain ⟨u1, u2, u3, u5⟩ := step w1 rel6 w2 w3 w5 x7
              have rk7 : C.rep F7 H7 k v6 [] := rep_mono rp6 (x7.stab rel6.dis rel6.ow fun _ _ h => by cases h)
              refine dset_ok (q := []) (r := []) u5 ⟨_, rk7⟩ rp7 ed (by simp) u3 fk0 fun od' q' rp' sub _ ⟨od, ea, ep, hl, hdt⟩ => ?_
              have eq' : q' = [] := by
                cases q' with
                | nil => rfl
                | cons b _ => rcases sub b List.mem_cons_self with h | h <;> cases h
              subst eq'
              have rel8 : Rel C e7 σ4 F7 (upd H7 L (objO L od')) p7 := Rel.mutBeside (C := C) rel7 hl (free_obj hdt) u2 u3
              exact fin (u1.trans (Ext.mut List.mem_cons_self (by rw [hl]; intro z; cases z))) rel8 u2 u3 rp' ef
            · rename_i e5 et
              refine ⟨_, _, et, fun v H5 F5 p5 q5 x5 rel5 rp5 ap5 => ?_⟩
              obtain ⟨ev, eq⟩ := rp5
              subst eq
              refine ⟨false, ev, ?_⟩
              show (if false = true then _ else _)
              rw [if_neg Bool.false_ne_true]
              obtain ⟨z1, z2, z3, z5⟩ := step y1 rel4 y2 y3 y5 x5
              exact fin z1 rel5 z2 z3 z5 ef
            · cases ef
          · cases ef
        · have ei : i = ds.length := by omega
          subst ei
          refine .inl ⟨stop, ?_⟩
          rw [List.drop_eq_nil_of_le (Nat.le_refl _)] at ef
          cases ef
          -- the hidden slots
          have back : ∀ v d, e1.getD v none = some d → v ∈ vs → ∃ u, σ[v]? = some (some u) ∧ C.rep F2 H2 d u [] := fun v d ed hv => by
            have ed' : e1[v]? = some (some d) := by
              rw [List.getD_eq_getElem?_getD] at ed
              cases e0 : e1[v]? with
              | none => rw [e0] at ed; cases ed
              | some o => rw [e0] at ed; rw [show o = some d from ed]
            obtain ⟨u, q1, eu, rp, _⟩ := Rel.slot (C := C) rel1 ed'
            have hf : fro d = true := by
              have z := List.all_eq_true.mp hfro v hv
              rw [ed'] at z
              exact z
            have eq := fro_nil hf rp
            subst eq
            exact ⟨u, eu, rep_mono rp (x2'.stab rel1.dis rel1.ow fun _ _ h => by cases h)⟩
          have hvl : ∀ v ∈ vs, v < σ.length := fun v hv => by
            have z := List.all_eq_true.mp hfro v hv
            rw [← repE_len rel1.slots]
            cases e0 : e1[v]? with
            | none => rw [e0] at z; cases z
            | some o => exact lt_of_some e0
          have R : ∃ p3, Rel C (restE e1 eF vs) σ F2 H2 p3 ∧ ∀ a ∈ p3, a ∈ p2 := by
            obtain ⟨p3, g1, g2, g3⟩ := repE_rest (C := C) back hnd hvl rel2.slots
            exact ⟨p3, ⟨g1, g3 rel2.nd, fun a h => rel2.dis a (g2 a h), rel2.trk, rel2.tabs, rel1.fx⟩, g2⟩
          obtain ⟨p3, rel3, sub3⟩ := R
          refine post (.ref L) H2 F2 p3 [L] (x1.trans (x2.sub fun b h => (List.mem_cons.mp h).elim (fun e => by rw [e]; exact List.mem_cons_self) fun h => List.mem_cons_of_mem _ (sub3 b h))) rel3 racc ⟨by simp, fun b h => by rw [List.mem_singleton.mp h]; exact fun z => nLp (sub3 _ z), fun b h => by rw [List.mem_singleton.mp h]; exact nLF⟩
      · cases e
    · cases e
  · rename_i c fs e1 eh
    cases e
    exact ⟨_, _, eh, post⟩
  · cases e
theorem x_dc {kx vx tg iter : Expr} {ifs : List Expr} {scope : Scope} {own : List (Str × Nat)} {is : List Nat} {h : IF} {a : AS} {t fk fv : XF} (hu : C.X.A.units + 16 < cLine) (O : CtxOk C) (hN : C.X.N.Nodup) (hi : PI C.X tg iter (TIx C h)) (ok : BlkOk C.X.N C.X.env.scope scope own)
    (hg : ∀ s H L cl fp, PG (C.blk s H scope cl L fp).X tg (TGx (C.blk s H scope cl L fp) is a)) (ht : ∀ s H L cl fp, PTs (C.blk s H scope cl L fp).X ifs (TTX (C.blk s H scope cl L fp) true t)) (hk : ∀ s H L cl fp, PE (C.blk s H scope cl L fp).X kx (TX (C.blk s H scope cl L fp) true fk)) (he : ∀ s H L cl fp, PE (C.blk s H scope cl L fp).X vx (TX (C.blk s H scope cl L fp) true fv))
    (hnd : (own.map (·.2)).Nodup) (his : ∀ i ∈ is, i ∈ own.map (·.2)) (hx : ∀ i ∈ C.fx, i ∉ own.map (·.2)) (hs : ∀ x, foldedSetIterable iter C.X.env x = pure x := by intro _; rfl) : PE C.X (.DictComp kx vx [⟨tg, iter, ifs, 0⟩] scope pos) (TX C true (xdc (own.map (·.2)) h a t fk fv)) :=
  peImp (pe_dcO (g := TGx C.cmp is a) (tt := TTX C.cmp true t) (tk := TX C.cmp true fk) (tv := TX C.cmp true fv) hu O.calm hN hi ok (fun s H L cl fp => hg s H L cl fp) (fun s H L cl fp => ht s H L cl fp) (fun s H L cl fp => hk s H L cl fp) (fun s H L cl fp => he s H L cl fp) hs) fun σ H Q z => tx_dc hnd his hx z
end
end DL

namespace DL
open PySem PySem.Spec PyProof.Rows PySem.Calls L2
/-! ### == of dicts whose keys are objects (the walk follows KE.KEqDict's) -/
section
variable {prog : Program} {w : World} {K : Type} [DecidableEq K] {knd : HeapKind prog w K} {A : Around} {E : Value → Shared → Prop} {s : Shared}
inductive HitsH {K : Type} [DecidableEq K] (A : Around) (s : Shared) (kb : List (K × Addr × Value)) : List (K × Addr × Value) → Bool → Prop
  | nil : HitsH A s kb [] true
  | miss {k : K} {c : Addr} {v : Value} {r : List (K × Addr × Value)} : atKey kb k = none → HitsH A s kb ((k, c, v) :: r) false
  | hit {k : K} {c : Addr} {v : Value} {y : Addr × Value} {r : List (K × Addr × Value)} {e b : Bool} : atKey kb k = some y → SeqAt.EqAt A s v y.2 e → HitsH A s kb r b → HitsH A s kb ((k, c, v) :: r) (e && b)
theorem HitsH.inv {kb : List (K × Addr × Value)} {k : K} {c : Addr} {v : Value} {r : List (K × Addr × Value)} {b : Bool} (h : HitsH A s kb ((k, c, v) :: r) b) :
    (atKey kb k = none ∧ b = false) ∨ ∃ y e b', atKey kb k = some y ∧ SeqAt.EqAt A s v y.2 e ∧ HitsH A s kb r b' ∧ b = (e && b') := by
  cases h with
  | miss hn => exact .inl ⟨hn, rfl⟩
  | hit hy he hr => exact .inr ⟨_, _, _, hy, he, hr, rfl⟩
theorem samePairsH {nm : String} {a b : Addr} {ka kb : List (K × Addr × Value)} {r : Bool} {Q : Bool → Shared → Prop} (ha : (a == sysModules) = false) (hb : (b == sysModules) = false)
    (da : s.heap.DictOfH knd a ka) (db : s.heap.DictOfH knd b kb) (hu : knd.room A) (hits : ka.length = kb.length → HitsH A s kb ka r) (h : Q (ka.length == kb.length && r) s) :
    wpAny (model prog w) A (Builtin.Dict.samePairs nm a b) Q E s := by
  obtain ⟨oa, es, ep, hoa, _, hda, hea, hia, hna⟩ := da
  obtain ⟨ob, es', ep', hob, _, hdb, heb, hib, hnb⟩ := db
  have hla : ka.length = es.size := (size_of_entries hea).symm
  have hlb : kb.length = es'.size := (size_of_entries heb).symm
  rw [hla, hlb] at h
  unfold Builtin.Dict.samePairs Builtin.Dict.showsAll
  rw [if_neg (show ¬ (a == sysModules) = true by rw [ha]; exact Bool.false_ne_true), if_neg (show ¬ (b == sysModules) = true by rw [hb]; exact Bool.false_ne_true)]
  refine wpAny_bind (wpAny_pure (wpAny_bind (wpAny_pure ?_)))
  refine wpAny_bind (wpAny_dictEntries hoa hda ?_)
  dsimp only
  refine wpAny_bind (wpAny_dictEntries hob hdb ?_)
  by_cases hsz : es.size = es'.size
  case neg =>
    rw [if_pos (by simpa using hsz)]
    have hbf : (es.size == es'.size) = false := by simpa using hsz
    rw [hbf, Bool.false_and] at h
    exact wpAny_bind (wpAny_rule (wpAny_pure h))
  case pos =>
    have h' : Q r s := by simpa [hsz] using h
    have hits' := hits (by rw [hla, hlb]; exact hsz)
    rw [if_neg (by rw [hsz]; simp)]
    refine wpAny_bind (wpAny_dictEpoch hoa hda ?_)
    refine wpAny_bind ?_
    rw [Std.Legacy.Range.forIn_eq_forIn_range']
    simp only [Std.Legacy.Range.size, Nat.sub_zero, Nat.add_sub_cancel, Nat.div_one]
    refine wpAny_forIn_list _
      (fun rest q s' => s' = s ∧ q = (none, ()) ∧ ∃ i, rest = List.range' i (es.size - i) ∧ i ≤ es.size ∧ HitsH A s kb (ka.drop i) r)
      _ ?_ ?_ _ _ ⟨rfl, rfl, 0, by simp, Nat.zero_le _, hits'⟩
    · rintro x rest q s' ⟨rfl, rfl, i, hr, hi, hpre⟩
      have hlt : i < es.size := by
        rcases Nat.lt_or_ge i es.size with h | h
        · exact h
        · rw [Nat.sub_eq_zero_of_le h] at hr; simp at hr
      obtain ⟨rfl, hrest⟩ : x = i ∧ rest = List.range' (i + 1) (es.size - (i + 1)) := by
        have e : es.size - i = (es.size - (i + 1)) + 1 := by omega
        rw [e, List.range'_succ] at hr
        injection hr with h1 h2
        exact ⟨h1, h2⟩
      refine wpAny_bind (wpAny_dictEntries hoa hda ?_)
      rw [Array.getElem?_eq_getElem hlt]
      have hlt' : x < ka.length := by rw [hla]; exact hlt
      obtain ⟨k, c, v, hkv⟩ : ∃ k c v, ka[x] = (k, c, v) := ⟨_, _, _, rfl⟩
      have hdrop : ka.drop x = (k, c, v) :: ka.drop (x + 1) := by rw [← hkv]; exact List.drop_eq_getElem_cons hlt'
      have hent := entry_at hea x
      rw [Array.getElem?_eq_getElem hlt, List.getElem?_eq_getElem hlt', hkv] at hent
      have hent : es[x] = entryOfKey knd (k, c, v) := Option.some.inj hent
      have hkey : knd.is s'.heap k c := by
        have := hia ka[x] (List.getElem_mem hlt')
        rw [hkv] at this
        exact this
      rw [hdrop] at hpre
      dsimp only
      rw [hent]
      show wpAny _ _ (holding [(entryOfKey knd (k, c, v)).key, (entryOfKey knd (k, c, v)).val] _ >>= _) _ _ _
      refine wpAny_bind (wpAny_holding (wpAny_bind (wpAny_dictFind_heap hu hkey hob hdb heb hib hnb ?_ ?_)))
      · intro hno
        have hn : atKey kb k = none := atKey_none_of_get hno
        rcases hpre.inv with ⟨_, er⟩ | ⟨y, _, _, hy, _⟩
        · rw [er] at h'
          refine wpAny_pure ?_
          show wpAny _ _ (if (!false) = true then _ else _) _ _ _
          rw [if_pos (by decide)]
          exact wpAny_pure (wpAny_pure h')
        · rw [hn] at hy; exact nomatch hy
      · intro j pj hj
        have hv' : atKey kb k = some pj := atKey_of_get hnb hj
        refine wpAny_bind (wpAny_dictEntries hob hdb ?_)
        rw [entry_at heb j, hj]
        rcases hpre.inv with ⟨hn, _⟩ | ⟨y, e, b', hy, he, hrr, er⟩
        · rw [hv'] at hn; exact nomatch hn
        · have ey : pj = y := Option.some.inj (hv'.symm.trans hy)
          rw [← ey] at he
          refine wpAny_holding (he prog w _ _ ?_)
          cases e with
          | false =>
            rw [er, Bool.false_and] at h'
            show wpAny _ _ (if (!false) = true then _ else _) _ _ _
            rw [if_pos (by decide)]
            exact wpAny_pure (wpAny_pure h')
          | true =>
            rw [Bool.true_and] at er
            rw [← er] at hrr
            show wpAny _ _ (if (!true) = true then _ else _) _ _ _
            rw [if_neg (by decide)]
            refine wpAny_bind (wpAny_dictEpoch hoa hda ?_)
            rw [if_neg (by simp)]
            exact wpAny_pure ⟨rfl, rfl, x + 1, hrest, hlt, hrr⟩
    · rintro q s' ⟨rfl, rfl, i, hr, hi, hpre⟩
      have hin : i = es.size := by
        rcases Nat.lt_or_ge i es.size with h | h
        · have e : es.size - i = (es.size - (i + 1)) + 1 := by omega
          rw [e, List.range'_succ] at hr; exact nomatch hr
        · exact Nat.le_antisymm hi h
      refine wpAny_pure ?_
      rw [hin, ← hla, List.drop_length] at hpre
      cases hpre
      exact h'
theorem eqH_eq {a b : Addr} {ka kb : List (K × Addr × Value)} {r : Bool} {Q : Value → Shared → Prop} (ha : (a == sysModules) = false) (hb : (b == sysModules) = false)
    (da : s.heap.DictOfH knd a ka) (db : s.heap.DictOfH knd b kb) (hl : A.units < cLine) (hu : knd.room A.in1) (hits : ka.length = kb.length → HitsH A.in1 s kb ka r) (h : Q (.bool (ka.length == kb.length && r)) s) :
    wpAny (model prog w) A (compareOp .Eq (.ref a) (.ref b)) Q E s := by
  refine wpAny_richCompare_same_room (op := .Eq) da.typeIs db.typeIs PySem.F.slot_dict_eq (wpAny_call_entry PySem.F.slot_dict_eq da.typeIs PySem.F.entry_dict_eq ?_ (PySem.F.args_dict_eq_2 _ _)) hl
  show wpAny _ _ (Builtin.Dict.dictSlotArgs "__eq__" ⟨[.ref a, .ref b], []⟩ >>= _) _ _ s
  refine wpAny_bind ?_
  unfold Builtin.Dict.dictSlotArgs
  refine wpAny_bind (wpAny_notOrdered_dict da.typeIs ?_)
  show wpAny _ _ (pure (Value.ref a, Value.ref b)) _ _ s
  refine wpAny_pure ?_
  refine wpAny_bind (wpAny_isInstance (T := "dict") db.typeIs PySem.F.sub_dict_dict ?_)
  simp only [Bool.not_true, Bool.false_eq_true, if_false]
  refine wpAny_bind (wpAny_pure (wpAny_bind (wpAny_pure ?_)))
  refine wpAny_bind (samePairsH ha hb da db hu hits ?_)
  refine wpAny_pure ⟨_, rfl, ?_, ?_⟩
  · exact fun x => nomatch x
  · simpa using h
theorem eqH_ne {a b : Addr} {ka kb : List (K × Addr × Value)} {r : Bool} {Q : Value → Shared → Prop} (ha : (a == sysModules) = false) (hb : (b == sysModules) = false)
    (da : s.heap.DictOfH knd a ka) (db : s.heap.DictOfH knd b kb) (hl : A.units < cLine) (hu : knd.room A.in1) (hits : ka.length = kb.length → HitsH A.in1 s kb ka r) (h : Q (.bool (!(ka.length == kb.length && r))) s) :
    wpAny (model prog w) A (compareOp .NotEq (.ref a) (.ref b)) Q E s := by
  refine wpAny_richCompare_same_room (op := .NotEq) da.typeIs db.typeIs PySem.F.slot_dict_ne (wpAny_call_entry PySem.F.slot_dict_ne da.typeIs PySem.F.entry_dict_ne ?_ (PySem.F.args_dict_ne_2 _ _)) hl
  show wpAny _ _ (Builtin.Dict.dictSlotArgs "__ne__" ⟨[.ref a, .ref b], []⟩ >>= _) _ _ s
  refine wpAny_bind ?_
  unfold Builtin.Dict.dictSlotArgs
  refine wpAny_bind (wpAny_notOrdered_dict da.typeIs ?_)
  show wpAny _ _ (pure (Value.ref a, Value.ref b)) _ _ s
  refine wpAny_pure ?_
  refine wpAny_bind (wpAny_isInstance (T := "dict") db.typeIs PySem.F.sub_dict_dict ?_)
  simp only [Bool.not_true, Bool.false_eq_true, if_false]
  refine wpAny_bind (wpAny_pure (wpAny_bind (wpAny_pure ?_)))
  refine wpAny_bind (samePairsH ha hb da db hu hits ?_)
  refine wpAny_pure ⟨_, rfl, ?_, ?_⟩
  · exact fun x => nomatch x
  · simpa using h

end
end DL

namespace DL
open PySem PySem.Spec PyProof.Rows L2
section
variable {C : Ctx} {m : Bool} {F F1 F' : FS} {H H1 H' : Hp} {p p1 p' q r : List Addr} {σ : St} {env : Env} {En : Ends} {pos : Pos}
/-! ### dicts compared -/
/-- the values of the one, found in the other -/
def deqK (ls : List (D × D)) : List (D × D) → Option Bool
  | [] => some true
  | (x, d) :: r => match fkey x with
    | some k => (match lookK ls k with
      | none => some false
      | some y => (match deqK ls r with
        | some b => (eqD d y).map (· && b)
        | none => none))
    | none => none
def deqT (ls : List (D × D)) : List (D × D) → Option Bool
  | [] => some true
  | (x, d) :: r => match nkey x with
    | some k => (match lookT ls k with
      | none => some false
      | some y => (match deqT ls r with
        | some b => (eqD d y).map (· && b)
        | none => none))
    | none => none
def deq (ks ls : List (D × D)) : Option Bool := if flatB ks = true ∧ flatB ls = true then (if ks.length = ls.length then deqK ls ks else some false)
  else if tupB ks = true ∧ tupB ls = true then (if ks.length = ls.length then deqT ls ks else some false) else none
inductive HitsV {κ : Type} (P : V → V → Bool → Prop) (look : κ → Option V) : List (κ × V) → Bool → Prop
  | nil : HitsV P look [] true
  | miss {k : κ} {v : V} {r : List (κ × V)} : look k = none → HitsV P look ((k, v) :: r) false
  | hit {k : κ} {v y : V} {r : List (κ × V)} {e b : Bool} : look k = some y → P v y e → HitsV P look r b → HitsV P look ((k, v) :: r) (e && b)
/-- two values that are data, equal or not -/
def EqV (K : PySem.W.Frag) (H : Hp) (x y : V) (b : Bool) : Prop := ∃ d e, Dp K H x d ∧ Dp K H y e ∧ SeqAt.shaped d = true ∧ SeqAt.shaped e = true ∧ b = PyData.eqv d e
abbrev rEqDic (X : Cx) (f : Bool → Bool) : R2 := fun x y H Q => ∃ a b, x = .ref a ∧ y = .ref b ∧
  ((∃ ka kb r, IsFlat X.prog X.w H a ka ∧ IsFlat X.prog X.w H b kb ∧ (ka.length = kb.length → HitsV (EqV X.K H) (valV kb) ka r) ∧ Q (.bl (f (ka.length == kb.length && r))) H) ∨
   (∃ ea eb r, IsTupl X.prog X.w X.K H a ea ∧ IsTupl X.prog X.w X.K H b eb ∧ (ea.length = eb.length → ∃ va : List V, va.length = ea.length ∧ Vals va (ea.map (·.2.2)) ∧ HitsV (fun v (u : V) e => EqV X.K H v u e) (fun k => (atKey eb k).bind fun z => absV z.2) ((ea.map (·.1)).zip va) r) ∧ Q (.bl (f (ea.length == eb.length && r))) H))
theorem eqv_at {X : Cx} {pins : List (Addr × Obj)} {σ : L2.St} {s : Shared} (hu : X.A.units + 70 < cLine) (I : Inv X pins σ H s) {x y : V} {b : Bool} {u v : Value} (h : EqV X.K H x y b) (rx : RelV x u) (ry : RelV y v) : SeqAt.EqAt X.A.in1 s u v b := by
  obtain ⟨d, e, h1, h2, s1, s2, rfl⟩ := h
  obtain ⟨as, r1⟩ := Dp.reads I d x u h1 rx
  obtain ⟨bs, r2⟩ := Dp.reads I e y v h2 ry
  exact PySem.W.keq_at r1 r2 s1 s2 (by simp only [Around.in1_units]; omega)
theorem hits_flat {X : Cx} {pins : List (Addr × Obj)} {σ : L2.St} {s : Shared} (hu : X.A.units + 70 < cLine) (I : Inv X pins σ H s) {kb : List (Key × V)} {vb : List (Key × Value)} (rb : KV kb vb) : ∀ {ka : List (Key × V)} {va : List (Key × Value)} {r : Bool}, KV ka va → HitsV (EqV X.K H) (valV kb) ka r → PySem.W.KeqHits X.A.in1 s vb va r := by
  intro ka va r ra
  unfold KV at ra
  induction ra generalizing r with
  | nil => intro h; cases h; exact .nil
  | @cons a b l1 l2 r0 t ih =>
    intro h
    obtain ⟨k, v⟩ := a
    obtain ⟨k', u⟩ := b
    have ek : k = k' := r0.1
    subst ek
    cases h with
    | miss hn =>
      refine .miss ?_
      have z := rb.val k
      exact RelO.none_of (by rw [← hn]; exact z)
    | hit hy hp hr =>
      obtain ⟨w', hw, rw'⟩ := RelO.some_of (v := _) (o := valueAt vb k) (by rw [← hy]; exact rb.val k)
      exact .hit hw (eqv_at hu I hp r0.2 rw') (ih hr)
theorem absV_rel {u : Value} {v : V} (h : absV u = some v) : RelV v u := by
  cases u with
  | none => cases h; rfl
  | bool b => cases h; rfl
  | int i t => cases h; exact ⟨t, rfl⟩
  | str x t => cases h; exact ⟨t, rfl⟩
  | bytes x t => cases h; exact ⟨t, rfl⟩
  | float x t => cases h; exact ⟨t, rfl⟩
  | ref a => cases h; rfl
  | type n => cases h; rfl
  | _ => cases h
theorem hits_tup {X : Cx} {pins : List (Addr × Obj)} {σ : L2.St} {s : Shared} (hu : X.A.units + 70 < cLine) (I : Inv X pins σ H s) {eb : List (NestedKey × Addr × Value)} (hb : ∀ k z, atKey eb k = some z → ∃ v, absV z.2 = some v) : ∀ {ea : List (NestedKey × Addr × Value)} {va : List V} {r : Bool}, va.length = ea.length → Vals va (ea.map (·.2.2)) →
    HitsV (fun v (u : V) e => EqV X.K H v u e) (fun k => (atKey eb k).bind fun z => absV z.2) ((ea.map (·.1)).zip va) r → HitsH X.A.in1 s eb ea r
  | [], va, r, hl, rv, h => by
    cases h
    exact .nil
  | (k, c, u) :: ea, [], r, hl, rv, h => by cases hl
  | (k, c, u) :: ea, v :: va, r, hl, rv, h => by
    rw [List.map_cons] at rv h
    rw [List.zip_cons_cons] at h
    cases rv with
    | cons r0 rt =>
      cases h with
      | miss hn =>
        refine .miss ?_
        cases e : atKey eb k with
        | none => rfl
        | some z =>
          obtain ⟨v', hv⟩ := hb k z e
          have hn : ((atKey eb k).bind fun z => absV z.2) = none := hn
          rw [e, Option.bind_some, hv] at hn
          cases hn
      | hit hy hp hr =>
        have hy : ((atKey eb k).bind fun z => absV z.2) = some _ := hy
        obtain ⟨z, hz, hz2⟩ := Option.bind_eq_some_iff.mp hy
        exact .hit hz (eqv_at hu I hp r0 (absV_rel hz2)) (hits_tup hu I hb (by simpa using hl) rt hr)
theorem op_eqDic {X : Cx} (hu : X.A.units + 70 < cLine) : OpR X (compareOp .Eq) (fun x y H Q => rEqDic X id x y H Q ∧ ∀ a es, y = .ref a → IsTupl X.prog X.w X.K H a es → ∀ k z, atKey es k = some z → ∃ v, absV z.2 = some v) := by
  intro pins s σ H x y v u Q I rx ry h
  obtain ⟨⟨a, b, rfl, rfl, h⟩, hb⟩ := h
  cases rx
  cases ry
  rcases h with ⟨ka, kb, r, hA, hB, hits, q⟩ | ⟨ea, eb, r, hA, hB, hits, q⟩
  · obtain ⟨va, sa, ra, da, _⟩ := hA.at I
    obtain ⟨vb, sb, rb, db, _⟩ := hB.at I
    have l1 := Paired.length ra
    have l2 := Paired.length rb
    exact PySem.W.keq_eq (knd := mixKind X.prog X.w) (r := r) sa sb da db (by omega) (fun e => hits_flat hu I rb ra (hits (by rw [l1, l2]; exact e))) ⟨.bl _, H, I, rfl, by rw [← l1, ← l2]; exact q⟩
  · obtain ⟨sa, da, _⟩ := hA.at I
    obtain ⟨sb, db, _⟩ := hB.at I
    exact eqH_eq (knd := nestedKind X.prog X.w) (r := r) sa sb da db (by omega) (by show X.A.in1.units + 8 < cLine; simp only [Around.in1_units]; omega) (fun e => by
      obtain ⟨va, g1, g2, g3⟩ := hits e
      exact hits_tup hu I (hb b eb rfl hB) g1 g2 g3) ⟨.bl _, H, I, rfl, q⟩
theorem op_neDic {X : Cx} (hu : X.A.units + 70 < cLine) : OpR X (compareOp .NotEq) (fun x y H Q => rEqDic X not x y H Q ∧ ∀ a es, y = .ref a → IsTupl X.prog X.w X.K H a es → ∀ k z, atKey es k = some z → ∃ v, absV z.2 = some v) := by
  intro pins s σ H x y v u Q I rx ry h
  obtain ⟨⟨a, b, rfl, rfl, h⟩, hb⟩ := h
  cases rx
  cases ry
  rcases h with ⟨ka, kb, r, hA, hB, hits, q⟩ | ⟨ea, eb, r, hA, hB, hits, q⟩
  · obtain ⟨va, sa, ra, da, _⟩ := hA.at I
    obtain ⟨vb, sb, rb, db, _⟩ := hB.at I
    have l1 := Paired.length ra
    have l2 := Paired.length rb
    exact PySem.W.keq_ne (knd := mixKind X.prog X.w) (r := r) sa sb da db (by omega) (fun e => hits_flat hu I rb ra (hits (by rw [l1, l2]; exact e))) ⟨.bl _, H, I, rfl, by rw [← l1, ← l2]; exact q⟩
  · obtain ⟨sa, da, _⟩ := hA.at I
    obtain ⟨sb, db, _⟩ := hB.at I
    exact eqH_ne (knd := nestedKind X.prog X.w) (r := r) sa sb da db (by omega) (by show X.A.in1.units + 8 < cLine; simp only [Around.in1_units]; omega) (fun e => by
      obtain ⟨va, g1, g2, g3⟩ := hits e
      exact hits_tup hu I (hb b eb rfl hB) g1 g2 g3) ⟨.bl _, H, I, rfl, q⟩
theorem eqv_ofD {d y : D} {b : Bool} {x z : V} (e : eqD d y = some b) (h1 : is C F H d x) (h2 : is C F H y z) : EqV C.X.K H x z b := by
  obtain ⟨u, w, d1, d2, s1, s2, rfl⟩ := eqD_some e h1 h2
  exact ⟨u, w, d1, d2, s1, s2, rfl⟩
theorem hitsK : ∀ {ks ls : List (D × D)} {ka kb : List (Key × V)} {q q' : List Addr} {r : Bool}, repK C.X.prog C.X.w C.X.K F H ks ka q → repK C.X.prog C.X.w C.X.K F H ls kb q' → deqK ls ks = some r → HitsV (EqV C.X.K H) (valV kb) ka r
  | [], ls, ka, kb, q, q', r, x, y, e => by
    cases e
    rw [x.1]
    exact .nil
  | (x0, d) :: ks, ls, ka, kb, q, q', r, ⟨k, v, ws, q1, r1, ek, e0, x1, x2, _⟩, y, e => by
    subst e0
    unfold deqK at e
    split at e
    case h_2 => cases e
    rename_i k' ek'
    rw [ek] at ek'
    cases ek'
    obtain ⟨g1, g2⟩ := repK_look (k := k) y
    split at e
    · rename_i hn
      cases e
      exact .miss (g2 hn)
    · rename_i yy hy
      split at e
      case h_2 => cases e
      rename_i b hb
      obtain ⟨c, hc, rfl⟩ := Option.map_eq_some_iff.mp e
      obtain ⟨v', q2, h1, h2, _⟩ := g1 yy hy
      exact .hit h1 (eqv_ofD hc ⟨_, x1⟩ ⟨_, h2⟩) (hitsK x2 y hb)
theorem hitsT : ∀ {ks ls : List (D × D)} {ea eb : List (NestedKey × Addr × Value)} {q q' : List Addr} {r : Bool}, repT C.X.prog C.X.w C.X.K F H ks ea q → repT C.X.prog C.X.w C.X.K F H ls eb q' → deqT ls ks = some r →
    ∃ va : List V, va.length = ea.length ∧ Vals va (ea.map (·.2.2)) ∧ HitsV (fun v (u : V) e => EqV C.X.K H v u e) (fun k => (atKey eb k).bind fun z => absV z.2) ((ea.map (·.1)).zip va) r
  | [], ls, ea, eb, q, q', r, x, y, e => by
    cases e
    rw [x.1]
    exact ⟨[], rfl, .nil, .nil⟩
  | (x0, d) :: ks, ls, ea, eb, q, q', r, ⟨k, b0, u0, v, ws, q1, r1, ek, dp, e0, xk, ru, x1, x2, _⟩, y, e => by
    subst e0
    unfold deqT at e
    split at e
    case h_2 => cases e
    rename_i k' ek'
    rw [ek] at ek'
    cases ek'
    obtain ⟨g1, g2⟩ := repT_look (k := k) y
    split at e
    · rename_i hn
      cases e
      -- the values behind are told, though not asked
      have all : ∀ {ks : List (D × D)} {ea : List (NestedKey × Addr × Value)} {q : List Addr}, repT C.X.prog C.X.w C.X.K F H ks ea q → ∃ va : List V, va.length = ea.length ∧ Vals va (ea.map (·.2.2)) := by
        intro ks
        induction ks with
        | nil =>
          intro ea q x
          rw [x.1]
          exact ⟨[], rfl, .nil⟩
        | cons z ks ih =>
          obtain ⟨z1, z2⟩ := z
          intro ea q x
          obtain ⟨_, _, _, v', ws', _, _, _, _, e1, _, r1, _, x3, _⟩ := x
          subst e1
          obtain ⟨va, h1, h2⟩ := ih x3
          exact ⟨v' :: va, by rw [List.length_cons, List.length_cons, h1], .cons r1 h2⟩
      obtain ⟨va, h1, h2⟩ := all x2
      refine ⟨v :: va, by rw [List.length_cons, List.length_cons, h1], .cons ru h2, ?_⟩
      rw [List.map_cons, List.zip_cons_cons]
      exact .miss (by rw [g2 hn]; rfl)
    · rename_i yy hy
      split at e
      case h_2 => cases e
      rename_i b hb
      obtain ⟨c, hc, rfl⟩ := Option.map_eq_some_iff.mp e
      obtain ⟨b', u', v', q2, h1, hr, h2, _⟩ := g1 yy hy
      obtain ⟨va, h3, h4, h5⟩ := hitsT x2 y hb
      refine ⟨v :: va, by rw [List.length_cons, List.length_cons, h3], .cons ru h4, ?_⟩
      rw [List.map_cons, List.zip_cons_cons]
      exact .hit (by rw [h1]; exact hr.abs) (eqv_ofD hc ⟨_, x1⟩ ⟨_, h2⟩) h5
theorem repT_abs : ∀ {ls : List (D × D)} {eb : List (NestedKey × Addr × Value)} {q : List Addr}, repT C.X.prog C.X.w C.X.K F H ls eb q → ∀ k z, atKey eb k = some z → ∃ v, absV z.2 = some v
  | [], eb, q, x, k, z, e => by
    rw [x.1] at e
    cases e
  | (x0, d) :: ls, eb, q, ⟨k0, b0, u0, v, ws, q1, r1, ek, dp, e0, xk, ru, x1, x2, _⟩, k, z, e => by
    subst e0
    rw [atKey_cons] at e
    split at e
    · cases e
      exact ⟨v, ru.abs⟩
    · exact repT_abs x2 k z e
theorem TupD.inj' {od : Obj} {es es' : List (NestedKey × Addr × Value)} {a : Addr} (h : IsTupl C.X.prog C.X.w C.X.K H a es) (h' : IsTupl C.X.prog C.X.w C.X.K H a es') : es = es' := by
  obtain ⟨od, _, e1, td, hk⟩ := h
  obtain ⟨od', _, e2, td', hk'⟩ := h'
  obtain ⟨ea, ep, d1, _⟩ := td.dat
  have e := objO_eq d1 e1 e2
  subst e
  exact tupd_inj td td' hk hk'
def φEqD (f : Bool → Bool) : List D → Option D
  | [.dic _ ks, .dic _ ls] => (deq ks ls).map fun b => .bl (f b)
  | _ => none
theorem ok_eqDic (f : Bool → Bool) : RdOK C (φEqD f) (R2' fun x y H Q => rEqDic C.X f x y H Q ∧ ∀ a es, y = .ref a → IsTupl C.X.prog C.X.w C.X.K H a es → ∀ k z, atKey es k = some z → ∃ v, absV z.2 = some v) := by
  intro F H ds vs d Q hs trk e h
  unfold φEqD at e
  split at e
  case h_2 => cases e
  rename_i o1 ks o2 ls
  obtain ⟨b, eb, rfl⟩ := Option.map_eq_some_iff.mp e
  obtain ⟨x, y, rfl, h1, h2⟩ := iss2 hs
  unfold deq at eb
  split at eb
  · rename_i hf
    obtain ⟨a, ka, qa, rfl, hA, ra⟩ := dic_isFlat h1 hf.1
    obtain ⟨c, kc, qc, rfl, hC, rc⟩ := dic_isFlat h2 hf.2
    have l1 := repK_len (C := C) ra
    have l2 := repK_len (C := C) rc
    refine ⟨_, _, rfl, ⟨a, c, rfl, rfl, ?_⟩, fun a' es ea hT k z hz => ?_⟩
    · split at eb
      · rename_i hl
        refine .inl ⟨ka, kc, b, hA, hC, fun _ => hitsK ra rc eb, ?_⟩
        have : (ka.length == kc.length) = true := by rw [← l1, ← l2, hl]; simp
        rw [this, Bool.true_and]
        exact flat h ⟨rfl, rfl⟩
      · rename_i hl
        cases eb
        refine .inl ⟨ka, kc, true, hA, hC, fun e => absurd (by rw [l1, l2]; exact e) hl, ?_⟩
        have : (ka.length == kc.length) = false := by
          rw [← l1, ← l2]
          exact beq_eq_false_iff_ne.mpr hl
        rw [this, Bool.false_and]
        exact flat h ⟨rfl, rfl⟩
    · cases ea
      -- a dict told both ways is empty
      obtain ⟨q2, g2⟩ := h2
      obtain ⟨a2, od, q3, e2, sm, ow, g3⟩ := g2
      cases e2
      rcases g3 with ⟨kv, vs, r, kvr, fd⟩ | ⟨es2, r, td⟩
      · obtain ⟨od', _, e1, td', hk'⟩ := hT
        obtain ⟨ea, ep, d1, _, d3⟩ := fd.dat
        have e := objO_eq d1 (own_at ow) e1
        subst e
        obtain ⟨ea', ep', d1', d2'⟩ := td'.dat
        rw [d1] at d1'
        cases d1'
        cases es with
        | nil => cases hz
        | cons y0 ys =>
          exfalso
          rw [List.map_cons] at d2'
          cases kvr with
          | nil =>
            rw [d2'] at d3
            cases d3
          | @cons _ bb _ _ r0 rt =>
            rw [d2'] at d3
            obtain ⟨k0, v0⟩ := bb
            cases d3 with
            | cons i1 i2 i3 =>
              cases k0 with
              | inl i => cases i1
              | inr x => cases i1
      · exact repT_abs r k z (by
          have e := TupD.inj' (od := od) hT (⟨od, sm, own_at ow, td, repT_keys r⟩ : IsTupl C.X.prog C.X.w C.X.K H _ es2)
          rw [← e]
          exact hz)
  · split at eb
    · rename_i hf
      obtain ⟨a, ka, qa, rfl, hA, ra⟩ := dic_isTupl h1 hf.1
      obtain ⟨c, kc, qc, rfl, hC, rc⟩ := dic_isTupl h2 hf.2
      have l1 := repT_len (C := C) ra
      have l2 := repT_len (C := C) rc
      refine ⟨_, _, rfl, ⟨a, c, rfl, rfl, ?_⟩, fun a' es ea hT k z hz => ?_⟩
      · split at eb
        · rename_i hl
          refine .inr ⟨ka, kc, b, hA, hC, fun _ => hitsT ra rc eb, ?_⟩
          have : (ka.length == kc.length) = true := by rw [← l1, ← l2, hl]; simp
          rw [this, Bool.true_and]
          exact flat h ⟨rfl, rfl⟩
        · rename_i hl
          cases eb
          refine .inr ⟨ka, kc, true, hA, hC, fun e => absurd (by rw [l1, l2]; exact e) hl, ?_⟩
          have : (ka.length == kc.length) = false := by
            rw [← l1, ← l2]
            exact beq_eq_false_iff_ne.mpr hl
          rw [this, Bool.false_and]
          exact flat h ⟨rfl, rfl⟩
      · cases ea
        have e := TupD.inj' (od := mtD) hT hC
        rw [e] at hz
        exact repT_abs rc k z hz
    · cases eb
/-- == and != of data: lists, tuples, ints, texts, None, dicts -/
def φEqA : List D → Option D := fun ds => match φEq ds with
  | some d => some d
  | none => φEqD id ds
def φNeA : List D → Option D := fun ds => match φNe ds with
  | some d => some d
  | none => φEqD not ds
abbrev rEqA (X : Cx) : R2 := fun x y H Q => rEqD X.K x y H Q ∨ (fun x y H Q => rEqDic X id x y H Q ∧ ∀ a es, y = .ref a → IsTupl X.prog X.w X.K H a es → ∀ k z, atKey es k = some z → ∃ v, absV z.2 = some v) x y H Q
abbrev rNeA (X : Cx) : R2 := fun x y H Q => rNeD X.K x y H Q ∨ (fun x y H Q => rEqDic X not x y H Q ∧ ∀ a es, y = .ref a → IsTupl X.prog X.w X.K H a es → ∀ k z, atKey es k = some z → ∃ v, absV z.2 = some v) x y H Q
theorem ok_eqA : RdOK C φEqA (R2' (rEqA C.X)) := ok_eq.or (ok_eqDic id)
theorem ok_neA : RdOK C φNeA (R2' (rNeA C.X)) := ok_ne.or (ok_eqDic not)
theorem op_eqA (hu : C.X.A.units + 100 < cLine) : OpR C.X (compareOp .Eq) (rEqA C.X) := (op_eqD (by omega)).or (op_eqDic (by omega))
theorem op_neA (hu : C.X.A.units + 100 < cLine) : OpR C.X (compareOp .NotEq) (rNeA C.X) := (op_neD (by omega)).or (op_neDic (by omega))
end
end DL

namespace DL
open PySem PySem.Spec PyProof.Rows L2
section
variable {C : Ctx} {m : Bool} {F F1 F' : FS} {H H1 H' : Hp} {p p1 p' q r : List Addr} {σ : St} {env : Env} {En : Ends} {pos : Pos}
/-! ### a, b = x, y -/
def spar2 (i j : Nat) (g : AF) : SF := fun env => match g env with
  | some (.vals as, e1) => (match tmps as with
    | some [d1, d2] => if i < e1.length ∧ j < e1.length then some (.nx, (e1.set i (some d1)).set j (some d2)) else none
    | _ => none)
  | some (.exc c fs, e1) => some (.exc c fs, e1)
  | none => none
theorem Apart.put {q1 q2 P : List Addr} (a1 : Apart F (q1 ++ q2) p) (sub : ∀ a ∈ P, a ∈ q1 ++ p) : Apart F q2 P := by
  obtain ⟨n1, n2, n3⟩ := List.nodup_append.mp a1.nd
  exact ⟨n2, fun a ha h => (List.mem_append.mp (sub a h)).elim (fun h => n3 a h a ha rfl) (a1.dis a (List.mem_append_right _ ha)), fun a ha => a1.fr a (List.mem_append_right _ ha)⟩
theorem Apart.fst {q1 q2 : List Addr} (a1 : Apart F (q1 ++ q2) p) : Apart F q1 p := ⟨(List.nodup_append.mp a1.nd).1, fun a ha => a1.dis a (List.mem_append_left _ ha), fun a ha => a1.fr a (List.mem_append_left _ ha)⟩
theorem s_par2 {i j : Nat} {x y : Str} {a b : Expr} {g : AF} {px py pt : Pos} {kt k2 pt2} (O : CtxOk C) (hN : C.X.N.Nodup) (hi : C.X.N[i]? = some x) (hj : C.X.N[j]? = some y) (hij : i ≠ j) (hfi : i ∉ C.fx) (hfj : j ∉ C.fx)
    (hx : C.X.env.scope.names.lookup x = some .local) (hy : C.X.env.scope.names.lookup y = some .local) (ha : PA C.X [a, b] (TAX C true g))
    (hw : swappedStores [.Tuple [.Name x px, .Name y py] kt pt] (.Tuple [a, b] k2 pt2) C.X.env = pure (some [x, y]))
    (hs : swapsWithSole [.Tuple [.Name x px, .Name y py] kt pt] (.Tuple [a, b] k2 pt2) pos.line C.X.env = pure false := by rfl) :
    PS C.X (.Assign [.Tuple [.Name x px, .Name y py] kt pt] (.Tuple [a, b] k2 pt2) pos) (TSx C (spar2 i j g)) := psImp (ps_par O.calm hN hi hj hij hx hy ha hw hs) fun En σ H ⟨F, p, env, rel, fl, env', e, post⟩ => by
  refine ⟨F, p, env, rel, ?_⟩
  unfold spar2 at e
  split at e
  · rename_i as e1 eg
    refine ⟨_, _, eg, fun vs H1 F1 p1 q1 x1 rel1 ar1 ap1 => ?_⟩
    split at e
    · rename_i d1 d2 et
      split at e
      · rename_i hl
        cases e
        obtain ⟨v, ws, q2, q3, rfl, r1, rr, hq⟩ := arP_reps et ar1
        obtain ⟨w, rfl, r2⟩ := reps_one rr
        subst hq
        refine ⟨v, w, rfl, ?_⟩
        obtain ⟨p2, rel2, sub2⟩ := rel1.put hl.1 hfi r1 ap1.fst
        obtain ⟨p3, rel3, sub3⟩ := rel2.put (by rw [List.length_set]; exact hl.2) hfj r2 (ap1.put sub2)
        refine post _ H1 F1 p3 (x1.sub fun a h => ?_) rel3
        rcases List.mem_append.mp (sub3 a h) with h | h
        · exact List.mem_append_left _ (List.mem_append_right _ h)
        · rcases List.mem_append.mp (sub2 a h) with h | h
          · exact List.mem_append_left _ (List.mem_append_left _ h)
          · exact List.mem_append_right _ h
      · cases e
    · cases e
  · rename_i c fs e1 eg
    cases e
    exact ⟨_, _, eg, fun dx H1 F1 p1 x1 rel1 ed => post dx σ H1 F1 p1 x1.any rel1 ed⟩
  · cases e
/-! ### a, b, c = x, y, z -/
def spar3 (i j l : Nat) (g : AF) : SF := fun env => match g env with
  | some (.vals as, e1) => (match tmps as with
    | some [d1, d2, d3] => if i < e1.length ∧ j < e1.length ∧ l < e1.length then some (.nx, ((e1.set i (some d1)).set j (some d2)).set l (some d3)) else none
    | _ => none)
  | some (.exc c fs, e1) => some (.exc c fs, e1)
  | none => none
theorem s_par3 {i j l : Nat} {x y z : Str} {a b c : Expr} {g : AF} {px py pz pt : Pos} {kt k2 pt2} (O : CtxOk C) (hN : C.X.N.Nodup) (hi : C.X.N[i]? = some x) (hj : C.X.N[j]? = some y) (hl : C.X.N[l]? = some z) (hij : i ≠ j) (hil : i ≠ l) (hjl : j ≠ l) (hfi : i ∉ C.fx) (hfj : j ∉ C.fx) (hfl : l ∉ C.fx)
    (hx : C.X.env.scope.names.lookup x = some .local) (hy : C.X.env.scope.names.lookup y = some .local) (hz : C.X.env.scope.names.lookup z = some .local) (ha : PA C.X [a, b, c] (TAX C true g))
    (hw : swappedStores [.Tuple [.Name x px, .Name y py, .Name z pz] kt pt] (.Tuple [a, b, c] k2 pt2) C.X.env = pure (some [x, y, z]))
    (hs : swapsWithSole [.Tuple [.Name x px, .Name y py, .Name z pz] kt pt] (.Tuple [a, b, c] k2 pt2) pos.line C.X.env = pure false := by rfl) :
    PS C.X (.Assign [.Tuple [.Name x px, .Name y py, .Name z pz] kt pt] (.Tuple [a, b, c] k2 pt2) pos) (TSx C (spar3 i j l g)) := psImp (ps_par3 O.calm hN hi hj hl hij hil hjl hx hy hz ha hw hs) fun En σ H ⟨F, p, env, rel, fl, env', e, post⟩ => by
  refine ⟨F, p, env, rel, ?_⟩
  unfold spar3 at e
  split at e
  · rename_i as e1 eg
    refine ⟨_, _, eg, fun vs H1 F1 p1 q1 x1 rel1 ar1 ap1 => ?_⟩
    split at e
    · rename_i d1 d2 d3 et
      split at e
      · rename_i hl
        cases e
        obtain ⟨v, ws, q2, q3, rfl, r1, rr, hq⟩ := arP_reps et ar1
        obtain ⟨w, ws', q4, q5, rfl, r2, rr, hq2⟩ := rr
        obtain ⟨u, rfl, r3⟩ := reps_one (C := C) rr
        subst hq2 hq
        refine ⟨v, w, u, rfl, ?_⟩
        obtain ⟨p2, rel2, sub2⟩ := rel1.put hl.1 hfi r1 ap1.fst
        have a2 : Apart F1 (q4 ++ q5) p2 := ap1.put sub2
        obtain ⟨p3, rel3, sub3⟩ := rel2.put (by rw [List.length_set]; exact hl.2.1) hfj r2 a2.fst
        obtain ⟨p4, rel4, sub4⟩ := rel3.put (by rw [List.length_set, List.length_set]; exact hl.2.2) hfl r3 (a2.put sub3)
        refine post _ H1 F1 p4 (x1.sub fun a h => ?_) rel4
        rcases List.mem_append.mp (sub4 a h) with h | h
        · exact List.mem_append_left _ (List.mem_append_right _ (List.mem_append_right _ h))
        · rcases List.mem_append.mp (sub3 a h) with h | h
          · exact List.mem_append_left _ (List.mem_append_right _ (List.mem_append_left _ h))
          · rcases List.mem_append.mp (sub2 a h) with h | h
            · exact List.mem_append_left _ (List.mem_append_left _ h)
            · exact List.mem_append_right _ h
      · cases e
    · cases e
  · rename_i c fs e1 eg
    cases e
    exact ⟨_, _, eg, fun dx H1 F1 p1 x1 rel1 ed => post dx σ H1 F1 p1 x1.any rel1 ed⟩
  · cases e
/-! ### name = {..} on one line -/
theorem sw_trueD {kx vx : Expr} {gs : List Comprehension} {scope : Scope} {pos py : Pos} {y : Str} {l : Nat} {env : PySem.Env} (hk : env.scope.kind = .function) (hy : env.scope.names.lookup y = some .local) (hl : (py.line == pos.line) = true)
    (ha : (scope.names.any fun (n, k) => n == y && (k == .local || k == .cell)) = false) : swapsWith (.DictComp kx vx gs scope pos) (some (.Name y py)) l env = pure true := by
  have ky : env.kindOf y = some .local := hy
  have hb : env.blockKind = .function := by unfold Env.blockKind; rw [hk]; rfl
  unfold swapsWith
  simp only [hb, ky, ha, Expr.pos, hl]
  rfl
theorem ps_setDcO {X : Cx} {i : Nat} {y : Str} {py : Pos} {kx vx tg iter : Expr} {ifs : List Expr} {scope : Scope} {own : List (Str × Nat)} {pos spos : Pos} {wi : TI} {g : TG} {tt : TT} {tk tv : TE} (hu : X.A.units + 16 < cLine) (hc : X.calm = true) (hN : X.N.Nodup) (hy : X.N[i]? = some y) (hyl : X.env.scope.names.lookup y = some .local)
    (hsw : swapsWith (.DictComp kx vx [⟨tg, iter, ifs, 0⟩] scope pos) (some (.Name y py)) spos.line X.env = pure true) (hi : PI X tg iter wi) (ok : BlkOk X.N X.env.scope scope own)
    (hg : ∀ (s : Shared) (H : Hp) (C : Addr) (cl : List (Str × Addr)) (fp : List Addr), PG (X.blk s H scope (compEnvC scope cl C X.env) fp) tg g) (ht : ∀ (s : Shared) (H : Hp) (C : Addr) (cl : List (Str × Addr)) (fp : List Addr), PTs (X.blk s H scope (compEnvC scope cl C X.env) fp) ifs tt)
    (hk : ∀ (s : Shared) (H : Hp) (C : Addr) (cl : List (Str × Addr)) (fp : List Addr), PE (X.blk s H scope (compEnvC scope cl C X.env) fp) kx tk) (he : ∀ (s : Shared) (H : Hp) (C : Addr) (cl : List (Str × Addr)) (fp : List Addr), PE (X.blk s H scope (compEnvC scope cl C X.env) fp) vx tv) (hs : ∀ x, foldedSetIterable iter X.env x = pure x := by intro _; rfl) :
    PS X (.Assign [.Name y py] (.DictComp kx vx [⟨tg, iter, ifs, 0⟩] scope pos) spos) (tAsg (tDcO X wi g tt tk tv (own.map (·.2))) (gName i)) := by
  refine ⟨fun pins s σ H D I h => ?_⟩
  rw [exec_Assign_Name_used _ _ _ _ hsw]
  refine wpAny_bind (wpAny_standAt (wpAny_bind ?_))
  show wpAny _ X.A (do let _ ← comprehension (.DictComp kx vx [⟨tg, iter, ifs, 0⟩] scope pos) scope X.env (firstIterPos [⟨tg, iter, ifs, 0⟩] pos) newDict false (eval iter X.env) (some (assign (.Name y py) X.env))) _ _ s
  have h : tDcO X wi g tt tk tv (own.map (·.2)) σ H (fun x H1 => gName i x σ H1 D.nx) := h
  refine wpAny_bind (thn (dcO_core (Qf := fun _ s' => SP X pins D .next s') hu hc hN I hi ok hg ht hk he hs h fun L C s' m H' I' q hn f => ?_) fun _ s' hq => wpAny_pure (wpAny_pure hq))
  show wpAny _ _ (assign (.Name y py) X.env (.ref L)) _ _ _
  refine wpAny_assign_Name (store_ok2 (v := V.ref L) I' hN hy (.inl hyl) rfl (fun s2 I2 ⟨a, sb, ha⟩ => ?_) (.inr hyl))
  obtain ⟨f0, f1, f2, f3, f4, f5⟩ := f
  have haC : C ≠ a := by
    rcases ha with z | z
    · rw [z]; exact f1
    · exact fun e => f4 y a z e.symm
  refine ⟨m, hn.sameBut sb haC, fun h3 sb3 => ?_⟩
  exact ⟨_, H', I2.turned (t' := s2.toks) (fun b o hb e => (sb3.2 b hb).trans e) f0 f1 f3 f4 f5, q⟩
theorem s_setDc {i : Nat} {y : Str} {py spos : Pos} {kx vx tg iter : Expr} {ifs : List Expr} {scope : Scope} {own : List (Str × Nat)} {is : List Nat} {h : IF} {a : AS} {t fk fv : XF} (hu : C.X.A.units + 16 < cLine) (O : CtxOk C) (hN : C.X.N.Nodup) (hy : C.X.N[i]? = some y) (hyl : C.X.env.scope.names.lookup y = some .local) (hfx : i ∉ C.fx)
    (hl : (py.line == pos.line) = true) (hsn : (scope.names.any fun (n, k) => n == y && (k == .local || k == .cell)) = false) (hk : C.X.env.scope.kind = .function)
    (hi : PI C.X tg iter (TIx C h)) (ok : BlkOk C.X.N C.X.env.scope scope own)
    (hg : ∀ s H L cl fp, PG (C.blk s H scope cl L fp).X tg (TGx (C.blk s H scope cl L fp) is a)) (ht : ∀ s H L cl fp, PTs (C.blk s H scope cl L fp).X ifs (TTX (C.blk s H scope cl L fp) true t)) (hkx : ∀ s H L cl fp, PE (C.blk s H scope cl L fp).X kx (TX (C.blk s H scope cl L fp) true fk)) (he : ∀ s H L cl fp, PE (C.blk s H scope cl L fp).X vx (TX (C.blk s H scope cl L fp) true fv))
    (hnd : (own.map (·.2)).Nodup) (his : ∀ i ∈ is, i ∈ own.map (·.2)) (hx : ∀ i ∈ C.fx, i ∉ own.map (·.2)) (hs : ∀ x, foldedSetIterable iter C.X.env x = pure x := by intro _; rfl) :
    PS C.X (.Assign [.Name y py] (.DictComp kx vx [⟨tg, iter, ifs, 0⟩] scope pos) spos) (TSx C (sasg (xdc (own.map (·.2)) h a t fk fv) (aset i))) :=
  psImp (ps_setDcO (g := TGx C.cmp is a) (tt := TTX C.cmp true t) (tk := TX C.cmp true fk) (tv := TX C.cmp true fv) hu O.calm hN hy hyl (sw_trueD hk hyl hl hsn) hi ok (fun s H L cl fp => hg s H L cl fp) (fun s H L cl fp => ht s H L cl fp) (fun s H L cl fp => hkx s H L cl fp) (fun s H L cl fp => he s H L cl fp) hs) fun En σ H z => by
    refine tx_dc hnd his hx (tx_imp (tsx_x z) fun v H1 ⟨F1, p1, q1, e1, d, fl, env', rel1, rp1, ap1, e, post⟩ => ?_)
    split at e
    · rename_i e2 ha
      cases e
      unfold aset at ha
      split at ha
      · rename_i y' hy'
        cases ha
        obtain ⟨p', rel', sub⟩ := Rel.put (C := C) rel1 (lt_of_some hy') hfx rp1 ap1
        exact post _ _ F1 p' (Ext.refl.sub sub) rel'
      · cases ha
    · cases e
/-! ### d[k] op= e (ints) -/
theorem get_dict {X : Cx} (hu : X.A.units + 16 < cLine) : PGet X (rDGet X) := by
  intro pins s σ H x y v u Q I rx ry h
  rcases h with ⟨a, kv, k, r, rfl, rfl, hf, hv, q⟩ | ⟨a, es, k, b, b', z, r, rfl, rfl, hf, hk, hv, rz, q⟩
  · obtain ⟨vs, sm, rel, dd, _⟩ := hf.at I
    cases rx
    obtain ⟨w', hw, rw'⟩ := RelO.some_of (v := r) (o := valueAt vs k) (by rw [← hv]; exact rel.val k)
    exact wpAny_getItem_of (kV_is ry) dd.mapOf hw ⟨r, H, I.tok _, rw', q⟩
  · obtain ⟨sm, dd, _⟩ := hf.at I
    cases rx
    cases ry
    exact wpAny_getItem_heap (by show X.A.in1.units + 8 < cLine; simp only [Around.in1_units]; omega) (hk.is I) dd hv ⟨r, H, I.tok _, rz, q⟩
def saugS (f : PF) (kf : XF) (op : Int → Int → Int) (fe : XF) : SF := fun env => match f env with
  | some ((i, π), e1) => (match atW e1 i π with
    | some _ => (match kf e1 with
      | some (.val k, e2) => if fro k = true then (match atW e2 i π with
        | some c => if ckT "dict" c = true then (match stepOf c k with
          | some st => (match getP c [st] with
            | some (.int a) => (match fe e2 with
              | some (.val (.int b), e3) => (match atW e3 i π with
                | some _ => (match modW e3 i π fun c => μset c [k, .int (op a b)] with
                  | some (_, e4) => some (.nx, e4)
                  | none => none)
                | none => none)
              | _ => none)
            | _ => none)
          | none => none) else none
        | none => none) else none
      | _ => none)
    | none => none)
  | none => none
theorem stepOf_dic {c k : D} {st : Stp} {d1 : D} {x y : V} (hd : ckT "dict" c = true) (e : stepOf c k = some st) (eg : getP c [st] = some d1) (h1 : is C F H c x) (h2 : is C F H k y) :
    ∃ v1, is C F H d1 v1 ∧ rDGet C.X x y H fun v H' => v = v1 ∧ H' = H := by
  obtain ⟨v1, _, h3, z⟩ := is_step e eg h1 h2
  refine ⟨v1, h3, ?_⟩
  rcases z with ⟨⟨o, xs, rfl⟩, _⟩ | z
  · exact absurd hd (by simp [ckT])
  · exact z
theorem rDGet_mono {X : Cx} {x y : V} {R Q : VK} (h : rDGet X x y H R) (i : ∀ v H', R v H' → Q v H') : rDGet X x y H Q := by
  rcases h with ⟨a, kv, k, r, h1, h2, h3, h4, q⟩ | ⟨a, es, k, b, b', z, r, h1, h2, h3, h4, h5, h6, q⟩
  · exact .inl ⟨a, kv, k, r, h1, h2, h3, h4, i _ _ q⟩
  · exact .inr ⟨a, es, k, b, b', z, r, h1, h2, h3, h4, h5, h6, i _ _ q⟩
theorem s_augS {o i e : Expr} {f : PF} {kf fe : XF} {op : Operator} {g : Int → Int → Int} {tpos : Pos} (hu : C.X.A.units + 16 < cLine) (hb : Base m f) (ho : PE C.X o (TP C m f)) (hi : PE C.X i (TX C m kf)) (he : PE C.X e (TX C m fe)) (hp : PIp C.X op (ipI g))
    (ha : ∀ ov iv new, augStore i ov iv new = (do holding [new, ov, iv] (setItem ov iv new); release [new, ov, iv] []; pure .next) := by intros; rfl) : PS C.X (.AugAssign (.Subscript o i tpos) op e pos) (TSx C (saugS f kf g fe)) :=
  psImp (ps_augS ho hi (get_dict hu) he hp (set_dict hu) ha) fun En σ H ⟨F, p, env, rel, fl, env', e, post⟩ => by
    unfold saugS at e
    split at e
    case h_2 => cases e
    rename_i j π e1 ef
    split at e
    case h_2 => cases e
    rename_i c1 ec1
    split at e
    case h_2 => cases e
    rename_i k e2 ek
    split at e
    case isFalse => cases e
    rename_i fk
    split at e
    case h_2 => cases e
    rename_i c ec
    split at e
    case isFalse => cases e
    rename_i hd
    split at e
    case h_2 => cases e
    rename_i st est
    split at e
    case h_2 => cases e
    rename_i a0 eg
    split at e
    case h_2 => cases e
    rename_i b0 e3 ee
    split at e
    case h_2 => cases e
    rename_i c3 ec3
    split at e
    case h_2 => cases e
    rename_i d4 e4 em
    cases e
    refine ⟨F, p, env, rel, _, _, _, _, ef, ec1, fun v0 w0 H1 F1 p1 x1 rel1 ev pa is0 => ⟨F1, p1, e1, rel1, _, _, ek, fun y H2 F2 p2 q2 x2 rel2 rp2 ap2 => ?_⟩⟩
    have eq := fro_nil fk rp2
    subst eq
    have x2' : Ext m F1 H1 p1 F2 H2 p2 := x2
    obtain ⟨pa2, is2⟩ := way_after (hb.nil ef) x2' rel2 ev pa ec
    obtain ⟨v1, is1, z⟩ := stepOf_dic hd est eg is2 ⟨_, rp2⟩
    have ev1 := is_int is1
    subst ev1
    refine rDGet_mono z fun v H' ⟨hv, hH⟩ => ?_
    subst hv hH
    refine ⟨F2, p2, e2, rel2, _, _, ee, fun u H3 F3 p3 q3 x3 rel3 rp3 ap3 => ⟨a0, b0, rfl, rp3.1, ?_⟩⟩
    have eq3 : q3 = [] := rp3.2
    subst eq3
    have x3' : Ext m F2 H' p2 F3 H3 p3 := x3
    obtain ⟨pa3, is3⟩ := way_after (hb.nil ef) x3' rel3 ev pa2 ec3
    have rk : C.rep F3 H3 k y [] := rep_mono rp2 (x3'.stab rel2.dis rel2.ow fun _ _ h => by cases h)
    have rps : C.reps F3 H3 [k, .int (g a0 b0)] [y, .int (g a0 b0)] [] := ⟨y, _, [], [], rfl, rk, ⟨_, [], [], [], rfl, ⟨rfl, rfl⟩, ⟨rfl, rfl⟩, rfl⟩, rfl⟩
    obtain ⟨ky, vv, evs, z⟩ := rel3.modW (Q := fun _ H' => En.nx σ H') ok_set ev pa3 rps Apart.nil em fun u H4 p4 q4 x4 rel4 ru ap4 =>
      post σ H4 F3 p4 (((x1.any.trans x2'.any).trans x3'.any).trans (x4.sub fun a h => List.mem_append_right _ h)) rel4
    cases evs
    exact z
/-! ### d.get(k, x) -/
def φGet2 : List D → Option D
  | [.dic _ kvs, key, d0] => (match dlook kvs key with
    | some (some d) => if fro d = true then some d else none
    | some none => if fro d0 = true then some d0 else none
    | none => none)
  | _ => none
abbrev rGet2 (X : Cx) : V → List V → Hp → VK → Prop := fun x ys H Q => ∃ y z, ys = [y, z] ∧
  ((∃ a kv k, x = .ref a ∧ y = kV k ∧ IsFlat X.prog X.w H a kv ∧ Q ((valV kv k).getD z) H) ∨
   (∃ a es k b v, x = .ref a ∧ y = .ref b ∧ IsTupl X.prog X.w X.K H a es ∧ KeyAt X.prog X.w X.K H b k ∧ ((atKey es k = none ∧ v = z) ∨ ∃ b' u, atKey es k = some (b', u) ∧ RelV v u) ∧ Q v H))
theorem mt_get2 {X : Cx} (hu : X.A.units + 16 < cLine) : MtR X "dict.get" (rGet2 X) := by
  intro pins s σ H x xs v us Q I rx rv h
  obtain ⟨y, z, rfl, h⟩ := h
  obtain ⟨u, r, rfl, ry, rz⟩ := rv.two
  rcases h with ⟨a, kv, k, rfl, rfl, hf, q⟩ | ⟨a, es, k, b, v', rfl, rfl, hf, hk, hv, q⟩
  · cases rx
    obtain ⟨vs, sm, rel, dd, _⟩ := hf.at I
    refine call_meetsIn PySem.F.slot_dict_get dd.typeIs PySem.F.entry_dict_get (PySem.F.args_dict_get_3 _ _ _) (meets_dict_get_default (mixKind X.prog X.w) a (kV_is ry) sm r) ⟨_, dd.mapOf, ?_⟩
    exact ⟨_, H, I.tok _, (rel.val k).getD rz, q⟩
  · cases rx
    cases ry
    obtain ⟨sm, dd, _⟩ := hf.at I
    refine call_meetsIn PySem.F.slot_dict_get dd.typeIs PySem.F.entry_dict_get (PySem.F.args_dict_get_3 _ _ _) (meetsH_dict_get_default (nestedKind X.prog X.w) a b sm r) ⟨by show X.A.in1.units + 8 < cLine; simp only [Around.in1_units]; omega, k, es, hk.is I, dd, ?_⟩
    rcases hv with ⟨hn, rfl⟩ | ⟨b', u', hs, ru⟩
    · exact ⟨_, H, I.tok _, by rw [hn]; exact rz, q⟩
    · exact ⟨_, H, I.tok _, by rw [hs]; exact ru, q⟩
theorem ok_get2 : RdOK C φGet2 (RM (rGet2 C.X)) := by
  intro F H ds vs d Q hs trk e h
  unfold φGet2 at e
  split at e
  case h_2 => cases e
  rename_i o kvs key d0
  obtain ⟨x, y, z, rfl, h1, h2, h3⟩ := iss3 hs
  refine ⟨x, [y, z], rfl, y, z, rfl, ?_⟩
  split at e
  · rename_i d' el
    split at e
    case isFalse => cases e
    rename_i hf
    cases e
    rcases dlook_some el h1 h2 with ⟨a, kv, k, q, rfl, rfl, hF, r, er⟩ | ⟨a, es, k, b, q, rfl, rfl, hT, hb, r, er⟩
    · obtain ⟨v, q', hv, rp, _⟩ := (repK_look r).1 d er.symm
      have eq := fro_nil hf rp
      subst eq
      exact .inl ⟨a, kv, k, rfl, rfl, hF, by rw [hv]; exact flat h rp⟩
    · obtain ⟨b', u, v, q', hv, ru, rp, _⟩ := (repT_look r).1 d er.symm
      have eq := fro_nil hf rp
      subst eq
      exact .inr ⟨a, es, k, b, v, rfl, rfl, hT, hb, .inr ⟨b', u, hv, ru⟩, flat h rp⟩
  · rename_i el
    split at e
    case isFalse => cases e
    rename_i hf
    cases e
    obtain ⟨q3, r3⟩ := h3
    have eq := fro_nil hf r3
    subst eq
    rcases dlook_some el h1 h2 with ⟨a, kv, k, q, rfl, rfl, hF, r, er⟩ | ⟨a, es, k, b, q, rfl, rfl, hT, hb, r, er⟩
    · exact .inl ⟨a, kv, k, rfl, rfl, hF, by rw [(repK_look r).2 er.symm]; exact flat h r3⟩
    · exact .inr ⟨a, es, k, b, z, rfl, rfl, hT, hb, .inl ⟨(repT_look r).2 er.symm, rfl⟩, flat h r3⟩
  · cases e
end
end DL

namespace DL
open PySem PySem.Spec PyProof.Rows L2
/-! ### an own error whose __init__ says super().__init__('..') and self.f = p (the base a ValueError) -/
/-- what must hold of the class C of the object, __init__ being of the class D -/
structure SupC (K : PySem.W.Frag) (C D : Addr) (f : Str) : Prop where
  oex : OexC K C
  ini : PySem.W.excInitIn K C [.type "ValueError", .type "Exception", .type "BaseException", .type "object"] "ValueError.__new__" = true
  val : PySem.W.subIn K (.ref C) (.type "ValueError") = some true
  mro : PySem.W.mroIn K C (.ref D) = some true
  sup : PySem.W.ks_superIn K C D "__init__" = some (some (.builtin "ValueError.__init__"))
  no : PySem.W.findIn K (.ref C) f = some none
def spSup (K : PySem.W.Frag) (D : Addr) (f : Str) : Sp := fun vs H Q E => ∃ (a C : Addr) (y : V), vs = [.ref a, y] ∧ SupC K C D f ∧ H a = some (exo a C none) ∧
  ∀ dx, H dx = none → dx ≠ a → Q .non (upd (upd H dx (exd dx [(f, y)])) a (exo a C (some dx)))
section
variable {P : Program} {w : World} {K : PySem.W.Frag} {mg : Str → Option Value} {base : Heap} {CX : CXT} {fI cda cc D : Addr} {name qual : Str} {params : Arguments} {Ns : List (Str × NameKind)} {dV kV doc pm ct : Value} {an : Option Addr}
  {oc ccl cl : Value} {od cdd cld : Option Addr} {osl ccs csl : Array (Option Value)} {cdD : ClassData} {vs : Array Value} {file : Str} {tf : Tok} {ar : Arg} {p f m : Str} {j : Nat} {p0 p1 p2 p3 p4 p5 p6 p7 p8 p9 : Pos} {pl : PySem.Env → Sem Bool}
theorem sup_fn (hf : K.lookup fI = some ⟨oc, od, .func (PySem.W.ksFn name qual params [.Expr (.Call (.Attribute (.Call (.Name "super" p0) [] [] p1) "__init__" p2) [.Constant (.str m) j p3] [] p4) p5, .Assign [.Attribute (.Name "self" p6) f p7] (.Name p p8) p9] (⟨.function, Ns, false, false, []⟩ : Scope) dV kV doc pm an (.ref cda) ct cc), osl⟩)
    (hcd : PySem.W.codeIn K (.ref cda) qual = true) (hp : (params.posonlyargs ++ params.args).head? = some ar) (har : ar.arg = "self") (hps : p ≠ "self")
    (hcode : K.lookup cda = some ⟨ccl, cdd, .fields vs, ccs⟩) (hvs : vs[2]? = some (.str file tf)) (hfile : ((P.main.file : Str) == file) = true)
    (hcell : K.lookup cc = some ⟨cl, cld, .cell (some (.ref D)), csl⟩) (hD : PySem.W.clsIn K D = some cdD) (hsuper : mg "super" = none) (hop : PySem.W.nsIn K cStatics "thirdparty.any" = some none)
    (hks : Ns.lookup ("super" : Str) = some .globalImplicit) (hkc : Ns.lookup ("__class__" : Str) = some .free) (hka : Ns.lookup ("self" : Str) = some .local) (hkp : Ns.lookup p = some .local)
    (hncell : ∀ x ∈ Ns, x.2 ≠ .cell) (htop : (P.main.scope.names.lookup ("super" : Str)).isSome = false)
    (he : ∀ env, eval (.Call (.Attribute (.Call (.Name "super" p0) [] [] p1) "__init__" p2) [.Constant (.str m) j p3] [] p4) env = (do
      let ov ← attributeBase (.Call (.Name "super" p0) [] [] p1) "__init__" env (eval (.Call (.Name "super" p0) [] [] p1) env)
      standAt p2.atName
      let (f, first) ← holding [ov] (getMethod ov "__init__" (pl env))
      callWith p4 f first (backTo p4 (starEach [.Constant (.str m) j p3] env)) []))
    (hs1 : ∀ env, swapsWith (.Call (.Attribute (.Call (.Name "super" p0) [] [] p1) "__init__" p2) [.Constant (.str m) j p3] [] p4) none p5.line env = pure false)
    (hs2 : ∀ env, swapsWith (.Name p p8) (some (.Attribute (.Name "self" p6) f p7)) p9.line env = pure false)
    (hpd : (p == ("__debug__" : Str)) = false) :
    FnOk P w K mg base CX 1 fI (PySem.W.ksFn name qual params [.Expr (.Call (.Attribute (.Call (.Name "super" p0) [] [] p1) "__init__" p2) [.Constant (.str m) j p3] [] p4) p5, .Assign [.Attribute (.Name "self" p6) f p7] (.Name p p8) p9] (⟨.function, Ns, false, false, []⟩ : Scope) dV kV doc pm an (.ref cda) ct cc)
      ["self", p] (spSup K D f) := by
  refine ⟨fun vs H Q E ⟨a, C, y, e, _⟩ => by rw [e]; rfl, fun A outer s H args us vs Q E hr e0 hb hv hs => ?_⟩
  obtain ⟨a, C, y, rfl, SC, ha, hq⟩ := hs
  cases hv with
  | cons r1 hv =>
  rename_i u1 us1
  cases hv with
  | cons ry hv =>
  rename_i u us2
  cases hv
  obtain rfl : u1 = Value.ref a := r1
  obtain ⟨t1, ho⟩ := exo_at e0.hok ha
  have bk : ∀ b o, base.get? b = some o → s.heap.get? b = some o := fun b o e => (e0.bs b o e).1
  have X : K.In s.heap := e0.mod.kin.keeps bk
  have ba : ∀ {b : Addr} {o : Obj}, base.get? b = some o → b ≠ a := fun {b o} e z => by
    have := (e0.bs b o e).2
    rw [z, ha] at this
    cases this
  have X0 : K.In (PySem.W.hideAll s.heap [a]) := e0.mod.kin.keeps fun b o e => PySem.W.hideAll_get _ (bk b o e) (by simpa using ba e)
  refine ks_codeAny_call_defAt (fd := PySem.W.ksFn name qual params _ (⟨.function, Ns, false, false, []⟩ : Scope) dV kV doc pm an (.ref cda) ct cc) (body := _) (binds := _) ?hroom (X _ _ hf) rfl (e0.mod.nolimit.keeps bk) (PySem.W.codeRec_of X hcd) rfl hb hncell ?hloc (fun h₁ hns hk₁ => ?main)
  case hroom => exact hr.depth
  case hloc =>
    intro z hz
    rcases List.mem_cons.mp hz with e | hz
    · rw [e]; exact hka
    · rcases List.mem_cons.mp hz with e | hz
      · rw [e]; exact hkp
      · cases hz
  case main =>
    obtain ⟨hh, g, d, t, os⟩ := s
    have hL : a ≠ hh.objs.size := Nat.ne_of_lt (Heap.lt_size ho)
    have F0 : Fr (PySem.W.hideAll hh [a]) hh.objs.size h₁ (fun x => ([("self" : Str), p].zip [Value.ref a, u]).reverse.lookup x) := ⟨hns, fun b o e => hk₁ b o (PySem.W.of_hideAll _ e), Nat.le_of_eq (PySem.W.hideAll_size _ _)⟩
    have N0 : News (PySem.W.hideAll hh [a]) hh.objs.size h₁ [(a, PySem.W.excObj C t1 none .none)] := fun q hq => by
      rcases List.mem_cons.mp hq with e | hq
      · rw [e]; exact ⟨hk₁ _ _ ho, hL, PySem.W.hideAll_none _ (.head _)⟩
      · cases hq
    have X1 : K.In h₁ := X.keeps hk₁
    have lk1 : ([("self" : Str), p].zip [Value.ref a, u]).reverse.lookup p = some u := by
      show List.lookup p [(p, u), ("self", .ref a)] = some u
      rw [List.lookup_cons, beq_self_eq_true]
    have lk2 : ([("self" : Str), p].zip [Value.ref a, u]).reverse.lookup ("self" : Str) = some (.ref a) := by
      show List.lookup ("self" : Str) [(p, u), ("self", .ref a)] = some (.ref a)
      rw [List.lookup_cons, beq_false_of_ne (Ne.symm hps)]
      rfl
    obtain ⟨oD, hD1, hD2⟩ : ∃ oD, h₁.get? D = some oD ∧ oD.data = .cls cdD := by
      unfold PySem.W.clsIn at hD
      split at hD
      · rename_i c d cd' sl ho
        cases hD
        exact ⟨_, X1 _ _ ho, rfl⟩
      · cases hD
    obtain ⟨mb, hb1, hb2⟩ := e0.mod.blt
    refine ks_wpAt_mono (Q := fun fl s' => fl = .next ∧ CE outer P w H ⟨hh, g, d, t, os⟩ Q .none s') (E := fun _ _ => False) ?_ (fun fl s' ⟨e, q⟩ => by rw [e]; exact q) fun _ _ z => z.elim
    refine ks_wpAt_execs_cons (ks_wpAt_Expr_any (ks_wpAt_MethodCall ?_ (he _)) rfl (hs1 _))
    refine ks_wpAt_super_base (env := PySem.W.ksEnv qual (⟨.function, Ns, false, false, []⟩ : Scope) hh.objs.size fI (.ref cda) cc) hks hkc rfl rfl (X1 _ _ hf) rfl hp rfl (X1 _ _ hcode) rfl hvs hfile htop ?_
    refine PySem.W.ks_loadName_global rfl hks (Calls.loadGlobal_builtin (env := PySem.W.ksEnv qual (⟨.function, Ns, false, false, []⟩ : Scope) hh.objs.size fI (.ref cda) cc) (e0.mod.glob.keeps fun b o e => hk₁ b o (bk b o e)) hsuper (hb1.keeps fun b o e => hk₁ b o (bk b o e)) ((hb2 _ (by decide)).trans (by decide +kernel)) ⟨rfl, ?_⟩)
    refine wpAny_loadName_free rfl hkc rfl ⟨_, X1 _ _ hcell, rfl⟩ ?_
    rw [har]
    refine wpAny_loadName_local rfl hka F0.ns (v := .ref a) ?_ ?_
    · exact lk2
    refine ks_wpAny_isType_cls hD1 hD2 ⟨rfl, ?_⟩
    refine ks_wpAny_call_super hD1 hD2 (N0 _ (.head _)).1 rfl (fun c e => nomatch e) (PySem.W.looks_mroIn X1 SC.mro) (fun h' e k => ?_)
    obtain ⟨F1, N1, l1⟩ := PySem.W.ks_newsPush (s := ⟨h₁, g, d, t + 2, os⟩) F0 N0 rfl e k
    refine PySem.W.kxs_method PySem.W.kxs_ValueError F1 X0 N1 (.head _) (PySem.W.InstAt.of_exc0 N1 (.tail _ (.head _))) hop SC.sup SC.val rfl (fun q h2 F2 N2 l2 => ?_)
    have sa : a ≠ h₁.objs.size := l1 (a, _) (.head _) |> Nat.ne_of_lt
    have qa : a ≠ q := l2 (a, _) (.tail _ (.head _)) |> Nat.ne_of_lt
    refine PySem.W.kxs_callWith1 N2 (.head _) (spliced_more (Calls.Constant_str (spliced_none ⟨PySem.W.kxs_at N2 (.head _), ?_⟩)))
    refine PySem.W.kxs_call F2 X0 N2 F.excBase_ValueError SC.ini (.head _) (.tail (Ne.symm qa) (.tail (Ne.symm sa) (.head (fun _ h => nomatch h)))) (by rw [sizeLine_eq]; exact (by decide : 1 ≤ 16777216)) (fun t2 h3 F3 N3 l3 => ?_)
    refine ks_wpAt_execs_cons (ks_wpAt_Assign_Attr (wpAt_of_wpAny (wpAny_Name (wpAny_loadName_local rfl hkp F3.ns lk1 (wpAny_Name (wpAny_loadName_local rfl hka F3.ns lk2 ?_) (by decide))) hpd)) (hs2 _))
    obtain ⟨nm, qn, NN, bs, bm, sn, sub, ab, col, dd, k0, k1, k2, k3, k5, hC, hbm⟩ := SC.oex.cls
    have hcl : PySem.W.clsIn K C = some { name := nm, bases := bs, mro := .ref C :: bm, ns := NN, qualname := qn, hasDict := true, slotNames := sn, subclasses := sub, abstract := ab, collection := col, hasDel := false } := by unfold PySem.W.clsIn; rw [hC] <;> rfl
    have X3 : K.In h3 := X0.keeps F3.keep
    have hx3 : h3.get? a = some (PySem.W.excObj C t2 none .none) := (N3 _ (.tail _ (.tail _ (.tail _ (.head _))))).1
    refine PySem.W.set_plain X3 (ox := PySem.W.excObj C t2 none .none) (od := none) ⟨hx3, rfl, rfl, trivial⟩ SC.oex.sa ?_
    refine PySem.HandSPX.exc_osa X3 hx3 hcl (show PySem.HandSPX.refsVE (.ref C :: bm) = true from hbm) rfl SC.no (fun h4 tk' dx k dn dne hx hn => ?_)
    have hLs : hh.objs.size < h3.objs.size := by
      obtain ⟨oL, es, ep, z, _⟩ := F3.ns
      exact Heap.lt_size z
    have dn' : hh.objs.size ≤ dx := Nat.le_trans (Nat.le_of_lt hLs) dn
    have hok := e0.hok
    have hnd : H dx = none := hok.fresh dn'
    have nd : ∀ {b : Addr} {o : Obj}, hh.get? b = some o → b ≠ dx := fun {b o} q => Nat.ne_of_lt (Nat.lt_of_lt_of_le (Heap.lt_size q) dn')
    have na : ∀ {b : Addr}, H b = none → b ≠ a := fun {b} n z => by
      rw [z, ha] at n
      cases n
    have k' : ∀ b o, b ≠ a → hh.get? b = some o → h4.get? b = some o := fun b o n z => k b o n (F3.keep b o (PySem.W.hideAll_get _ z (by simpa using n)))
    refine wpAt_of_wpAny (wpAny_execs_nil ⟨rfl, .non, upd (upd H dx (exd dx [(f, y)])) a (exo a C (some dx)), rfl, e0.bare, ?_, fun b o z => ?_, rfl, hq dx hnd dne⟩)
    · exact {
        keep := fun b o z n _ _ => k' b o (na n) z
        slot := fun b o z n _ _ => ⟨o.slots, k' b o (na n) z⟩
        free := fun b o z n _ => by rw [upd_ne (na n), upd_ne (nd z)]; exact n
        there := fun b o z _ => by
          by_cases hb : b = a
          · exact ⟨_, by rw [hb]; exact hx⟩
          · exact ⟨o, k' b o hb z⟩
        tups := fun b xs z => by rw [upd_ne (at_ne ha z exo_tup), upd_ne (ne_of_none z hnd)]; exact z
        frzs := fun b o v z => by rw [upd_ne (at_ne ha z exo_frz), upd_ne (ne_of_none z hnd)]; exact z
        tbls := fun b ps z => ⟨#[], by rw [upd_ne (at_ne ha z exo_tbl), upd_ne (ne_of_none z hnd), z]; simp⟩ }
    · by_cases hb : b = a
      · subst hb
        rw [upd_same] at z
        cases z
        exact exo_ok hx
      · rw [upd_ne hb] at z
        by_cases hd : b = dx
        · subst hd
          rw [upd_same] at z
          cases z
          exact exd_ok hn (relO_put (fs := []) ry fun g => True.intro)
        · rw [upd_ne hd] at z
          exact (hok b o z).stay (fun c v hc z => k' c v (by
              rcases hc with hc | hc
              · rw [hc]
                exact hb
              · exact at_ne ha hc exo_own) z)
            (fun c hc => by rw [upd_ne (at_ne ha hc exo_own), upd_ne (ne_of_none hc hnd)]; exact hc) (fun c xs hc => by rw [upd_ne (at_ne ha hc exo_tup), upd_ne (ne_of_none hc hnd)]; exact hc)
end
end DL

namespace DL
open PySem PySem.Spec PyProof.Rows L2
section
variable {C : Ctx} {m : Bool} {F F1 F' : FS} {H H1 H' : Hp} {p p1 p' q r : List Addr} {σ : St} {env : Env} {En : Ends} {pos : Pos}
/-! ### raise -/
def sraise (c : Str) : SF := fun env => some (.exc c [], env)
theorem s_raise {c x msg : Str} {bmB : List Value} {B newId initId : String} {j : Nat} {p0 p2 pos' : Pos} (O : CtxOk C) (Fb : ExcBaseFacts B newId initId bmB) (ex : PySem.W.excIn C.X.K (He.ga C.X.K c) bmB newId = true) (gC : C.X.mg x = some (.ref (He.ga C.X.K c)))
    (kC : PySem.W.keepIn C.X.K (.ref (He.ga C.X.K c)) = true) (h1 : PySem.W.subIn C.X.K (.ref (He.ga C.X.K c)) (.type "BaseException") = some true) (h2 : PySem.W.typeIn C.X.K (.ref (He.ga C.X.K c)) = some (.type "type")) (hg : Gl C.X x)
    (hdb : (x == ("__debug__" : Str)) = false := by decide) :
    PS C.X (.Raise (some (.Call (.Name x p0) [.Constant (.str msg) j p2] [] pos)) none pos') (TSx C (sraise c)) :=
  psImp (ps_raise O.calm O.tk (pmk_own Fb ex gC kC (raises_own h1 h2) hg hdb)) fun En σ H ⟨F, p, env, rel, fl, env', e, post⟩ => by
    cases e
    exact post none σ H F p Ext.refl rel (.inl ⟨rfl, rfl⟩)
/-- raise c(e), c's __init__ keeping e in the field f -/
def sraiseO (c f : Str) (g : AF) : SF := fun env => match g env with
  | some (.vals as, e1) => (match tmps as with
    | some [d] => some (.exc c [(f, fz d)], e1)
    | _ => none)
  | some (.exc c fs, e1) => some (.exc c fs, e1)
  | none => none
theorem tmk_o {c f : Str} {g : AF} {Dc : Addr} (SC : SupC C.X.K (He.ga C.X.K c) Dc f) (h : TSx C (sraiseO c f g) En σ H) :
    tMkO (He.ga C.X.K c) (spSup C.X.K Dc f) [] (TAX C true g) σ H fun cls d H' => C.W cls d H' := by
  obtain ⟨F, p, env, rel, fl, env', e, post⟩ := h
  refine ⟨F, p, env, rel, ?_⟩
  unfold sraiseO at e
  split at e
  · rename_i as e1 eg
    refine ⟨_, _, eg, fun vs H1 F1 p1 q1 x1 rel1 ar1 ap1 => ?_⟩
    split at e
    · rename_i d ed
      cases e
      have rp := arP_reps ed ar1
      obtain ⟨v, ws, q, r, rfl, rp1, ⟨rfl, rfl⟩, hq⟩ := rp
      rw [List.append_nil] at hq
      obtain rfl := hq
      refine ⟨by simp, fun a ha => ⟨a, _, v, rfl, SC, upd_same, fun dx hd na => ⟨rfl, dx, [(f, v)], upd_same, by rw [upd_ne na, upd_same], ?_, ?_⟩⟩⟩
      · rw [upd_ne na] at hd
        exact hd
      · rw [upd_ne na] at hd
        have eH : upd (del (upd (upd (upd H1 a (exo a (He.ga C.X.K c) none)) dx (exd dx [(f, v)])) a (exo a (He.ga C.X.K c) (some dx))) a) dx (.xd [(f, v)]) = upd H1 dx (.xd [(f, v)]) := by
          funext b
          by_cases hb : b = dx
          · rw [hb, upd_same, upd_same]
          · rw [upd_ne hb, upd_ne hb]
            by_cases hba : b = a
            · rw [hba, del_same, ha]
            · rw [del_ne hba, upd_ne hba, upd_ne hb, upd_ne hba]
        rw [eH]
        have th : ∀ b ∈ q1, H1 b ≠ none := fun b hb => ne_of_ow (rep_there rp1 b hb)
        have y1 : Ext true F1 H1 (q1 ++ p1) F1 (upd H1 dx (.xd [(f, v)])) (dx :: (q1 ++ p1)) := Ext.laid hd
        have y2 : Ext true F1 H1 (q1 ++ p1) (fun b => F1 b ∨ b ∈ dx :: q1) (upd H1 dx (.xd [(f, v)])) p1 := y1.trans (Ext.freeze (fun b hb => (List.mem_cons.mp hb).elim (fun z => .inl (by rw [z]; exact .head _)) fun z => .inl (List.mem_cons_of_mem _ (List.mem_append_left _ z))) fun b hb => List.mem_cons_of_mem _ (List.mem_append_right _ hb))
        have g1 : ∀ b o, H1 b = some o → upd H1 dx (.xd [(f, v)]) b = some o := fun b o z => by rw [upd_ne (ne_of_none z hd)]; exact z
        have rel2 := (rel1.grow g1).freeze (dx :: q1) (fun b hb hp => (List.mem_cons.mp hb).elim (fun z => rel1.there b hp (by rw [z]; exact hd)) fun z => ap1.dis b z hp) fun b hb => (List.mem_cons.mp hb).elim (fun z => by rw [z, upd_same]; intro w; cases w) fun z w => by
          cases eb : H1 b with
          | none => exact th b z eb
          | some o => rw [g1 b o eb] at w; cases w
        have rp2 : C.rep (fun b => F1 b ∨ b ∈ dx :: q1) (upd H1 dx (.xd [(f, v)])) (fz d) v [] := rep_fz (fun _ h => .inl h) (rep_mono rp1 ⟨fun _ h => h, fun b o z _ _ => g1 b o z⟩) fun b hb => .inr (List.mem_cons_of_mem _ hb)
        exact post (some dx) σ _ _ p1 (x1.trans y2) rel2 (.inr ⟨dx, [(f, v)], rfl, .inr (.head _), upd_same, v, [], [], [], rfl, rp2, ⟨rfl, rfl⟩, rfl⟩)
    · cases e
  · rename_i c fs e1 eg
    cases e
    exact ⟨_, _, eg, fun dx H' F' p' x => post dx σ H' F' p' x⟩
  · cases e
theorem s_raiseO {c f x p : Str} {g : AF} {Dc fI : Addr} {fd : FuncData} {ea : Expr} {es : List Expr} {p0 pos' : Pos} (O : CtxOk C) (SC : SupC C.X.K (He.ga C.X.K c) Dc f) (iC : PySem.W.findIn C.X.K (.ref (He.ga C.X.K c)) "__init__" = some (some (.ref fI))) (tI : PySem.W.typeIn C.X.K (.ref fI) = some (.type "function"))
    (F1 : FnOk C.X.prog C.X.w C.X.K C.X.mg C.X.base (L2.CX C.X.prog C.X.w) 1 fI fd ["self", p] (spSup C.X.K Dc f)) (hr : Room 2 C.X.A) (hb : Binds C.X.K fd ["self", p] []) (hg : Gl C.X x) (gC : C.X.mg x = some (.ref (He.ga C.X.K c))) (ha : PA C.X (ea :: es) (TAX C true g))
    (hdb : (x == ("__debug__" : Str)) = false := by decide) (he : starEach (ea :: es) C.X.env = (false, eval ea C.X.env) :: starEach es C.X.env := by rfl) (hpl : (backTo pos (starEach es C.X.env)).any (·.1) = false := by rfl) :
    PS C.X (.Raise (some (.Call (.Name x p0) (ea :: es) [] pos)) none pos') (TSx C (sraiseO c f g)) :=
  psImp (ps_raise O.calm O.tk (pmk_oex SC.oex iC tI F1 hr hb .nil (passes_call O.tk fun _ _ _ _ z => z.elim) hg gC ha hdb he hpl)) fun En σ H z => tmk_o SC z
end
end DL

namespace DL
open PySem PySem.Spec PyProof.Rows L2
/-! ### except .. as n, where what n names lives on (turned from the kit's ps_try_as) -/
def errV (cls : Value) (d : Option Addr) (a : Addr) : HO := .ext fun h => ∃ oe vs, h.get? a = some oe ∧ Zc cls d oe ∧ oe.data = .fields vs
section
variable {X : Cx} {pins : List (Addr × Obj)} {σ : St} {H : Hp} {s : Shared} {a : Addr} {cls : Value} {d : Option Addr} {oe : Obj} {vs : Array Value}
theorem Inv.first (I : Inv X pins σ H s) (n : s.heap.get? a = none) (hex : X.ex = []) : X.s_0.heap.get? a = none := by
  cases e : X.s_0.heap.get? a with
  | none => rfl
  | some o =>
    obtain ⟨o', z⟩ := I.base.there a o e (by rw [hex]; simp)
    rw [n] at z
    cases z
theorem Inv.adopt (I : Inv X pins σ H s) (hex : X.ex = []) (ha : s.heap.get? a = some oe) (hz : Zc cls d oe) (hd : oe.data = .fields vs) (na : H a = none) (n0 : X.ex = [] → X.s_0.heap.get? a = none) (nL : a ≠ X.env.locals) (np : ∀ p ∈ X.pn ++ pins, p.1 ≠ a) :
    Inv X pins σ (upd H a (errV cls d a)) s := by
  have nn : ∀ {b : Addr} {o : HO}, H b = some o → b ≠ a := fun {b o} e => ne_of_none e na
  refine ⟨I.ok, I.os, I.bare, ⟨I.base.keep, I.base.slot, fun b o e n hx => ?_, I.base.there, fun b xs e => ?_, fun b o u e => ?_, fun b ps e => ?_⟩, I.loc, I.cell, ?_, fun x c e => ?_, fun p hp => ?_, fun b u e => ?_, I.len⟩
  · rw [upd_ne (fun z => by rw [z, n0 hex] at e; cases e)]
    exact I.base.free b o e n hx
  · have z := I.base.tups b xs e
    rw [upd_ne (nn z)]
    exact z
  · have z := I.base.frzs b o u e
    rw [upd_ne (nn z)]
    exact z
  · obtain ⟨more, z⟩ := I.base.tbls b ps e
    exact ⟨more, by rw [upd_ne (nn z)]; exact z⟩
  · rw [upd_ne (Ne.symm nL)]
    exact I.free
  · rw [upd_ne (fun z => by
      obtain ⟨v, o, h1, h2⟩ := I.cell x c e
      rw [z, ha] at h1
      cases h1
      rw [hd] at h2
      cases h2)]
    exact I.freeC x c e
  · obtain ⟨h1, h2, h3⟩ := I.pin p hp
    exact ⟨h1, by rw [upd_ne (np p hp)]; exact h2, h3⟩
  · by_cases hb : b = a
    · subst hb
      rw [upd_same] at e
      cases e
      exact ⟨⟨oe, vs, ha, hz, hd⟩, ⟨_, ha⟩, fun h1 h2 z k => by
        obtain ⟨o, v, q1, q2, q3⟩ := z
        exact ⟨o, v, k _ q1, q2, q3⟩⟩
    · rw [upd_ne hb] at e
      exact (I.hok b u e).stay (fun c v hc z => z) (fun c q => by rw [upd_ne (nn q)]; exact q) fun c xs q => by rw [upd_ne (nn q)]; exact q
end
def wGot (K : PySem.W.Frag) (c : Value) (i : Nat) (ts : Addr → Value → Option Addr → TS) (Wout : WX) (D : Ends) : WX := fun cls d σ H =>
  ∃ b, PySem.W.exmOne K cls c = some b ∧ (b = true → ∀ a, H a = none → ts a cls d { nx := fun σ' H' => D.nx (σ'.set i none) (upd H' a (errV cls d a)), rt := fun v H' => D.rt v (upd H' a (errV cls d a)), bk := fun σ' H' => D.bk (σ'.set i none) (upd H' a (errV cls d a)), ct := fun σ' H' => D.ct (σ'.set i none) (upd H' a (errV cls d a)) } (σ.set i (some (.ref a))) H) ∧
    (b = false → Wout cls d σ H)
section
variable {X : Cx} {x n : Str} {c : Value} {i : Nat} {body suite : List Stmt} {b₀ : Stmt} {np pos pos' : Pos} {tb : WX → TS} {ts : Addr → Value → Option Addr → TS} {Wout : WX}
theorem ps_try_got (hex : X.ex = []) (hs : X.stack = X.env :: X.outer) (hf : X.env.frame = some X.env.locals) (hN : X.N.Nodup) (hi : X.N[i]? = some n) (hln : X.env.kindOf n = some .local) (hc : Names X x c) (tk : Takes X Wout)
    (hb : ∀ (W : WX) (pn : List (Addr × Obj)) (xe : Value → Shared → Prop), Takes (X.tr pn xe) W → PassesOwn (model X.prog X.w) X.A X.env xe → PSs (X.tr pn xe) body (tb W))
    (hsu : ∀ (a : Addr) (oe : Obj) (cls : Value) (d : Option Addr) (pn : List (Addr × Obj)), Zc cls d oe → (∃ vs, oe.data = .fields vs) → PSs (X.suite a ((a, oe) :: pn)) (b₀ :: suite) (ts a cls d)) :
    PS X (.Try body [.ExceptHandler (some (.Name x np)) (some n) (b₀ :: suite) pos'] [] [] pos) (fun D σ H => tb (wGot X.K c i ts Wout D) D σ H) := by
  refine ⟨fun pins s σ H D I h => ?_⟩
  have ok := I.ok
  have hfr : X.A.frames = some (X.env :: X.outer) := by rw [ok.frames, hs]
  have hloc : Loc X.env.scope n := .inl hln
  refine wpAny_Try_except ?_
  refine wpAny_mono ((hb (wGot X.K c i ts Wout D) (X.pn ++ pins) (fun e s₁ => wpAny (model X.prog X.w) X.A (noteFrame e X.env) (fun _ s₂ => wpAny (model X.prog X.w) X.A (setFlight e none) (fun _ s₃ =>
    wpAny (model X.prog X.w) X.A (handleBy e X.env [.ExceptHandler (some (.Name x np)) (some n) (b₀ :: suite) pos']) (SP X pins D) X.xe s₃) X.xe s₂) X.xe s₁) (fun u s' xx => ?_) PassesOwn.looking).run [] s σ H D (I.toTry _) h) (fun f s1 hsp => ?_) (fun e s1 he => he)
  · -- the catch
    obtain ⟨a, B, sI, pins', σ', H', cls, d, rfl, J', nb, up, sky, na, os, ag, b, hb1, hyes, hno⟩ := xx
    have J : Inv X pins σ' H' sI := J'.ofTry ok
    have sky' : Sky B (X.env :: X.outer) a (Zc cls d) X.env.locals s'.heap := by rw [← hs]; exact sky
    show wpAny (model X.prog X.w) X.A (noteFrame (.ref a) X.env) _ _ _
    refine Sky.land Zc.steady hfr hf sky' fun h3 fl3 up3 => ?_
    have J3 : Inv X pins σ' H' { s' with heap := h3 } := J.landed nb fl3.1 (up.trans up3) os ag
    obtain ⟨oe3, vs3, he3, hz3, hd3⟩ := fl3.there
    have notFr : ∀ {h : Heap} {o : Obj} {vs : Array Value}, h.FunFrames B (X.env :: X.outer) → h.get? a = some o → o.data = .fields vs → a ∉ frs (X.env :: X.outer) := fun {h o vs} ff e dd hm => by
      obtain ⟨_, o', e', hnf⟩ := ff.mem hm
      rw [e] at e'; cases e'
      exact hnf _ dd
    have nfr := notFr fl3.2.2.1 he3 hd3
    have nL : a ≠ X.env.locals := fun z => nfr (List.mem_filterMap.mpr ⟨X.env, List.mem_cons_self, by rw [hf, z]⟩)
    have nF : a ∉ X.fs := fun hm => by
      obtain ⟨e, he, q⟩ := List.mem_filterMap.mp hm
      exact nfr (List.mem_filterMap.mpr ⟨e, List.mem_cons_of_mem _ he, q⟩)
    have S3 := J3.suite he3 hd3 na nL nF
    refine wpAny_handleBy_cons (codeAny_handlers_test ?_) (by intro q; cases q)
    have LT : PySem.W.Looks (model X.prog X.w) h3 (typeOf (.ref a)) cls := fun A Q E s k q => wpAny_typeOf_ref (k _ _ he3) (by rw [hz3.1]; exact q)
    have LM := PySem.W.exm_one (M := model X.prog X.w) (J3.kIn) LT hb1
    have test : ∀ {Q : Value → Shared → Prop} {E : Value → Shared → Prop}, Q c { s' with heap := h3 } → wpAny (model X.prog X.w) (X.A.mark (some (.ref a))) (eval (.Name x np) X.env) Q E { s' with heap := h3 } := fun {Q E} q => by
      obtain ⟨hg, hdbg, hm | ⟨hm, hv, hnn⟩⟩ := hc
      · exact ld_glob (X := X.suite a ((a, oe3) :: (X.pn ++ pins))) S3 hg hm q hdbg
      · exact ld_blt (X := X.suite a ((a, oe3) :: (X.pn ++ pins))) S3 hg hm hv q hnn hdbg
    refine test (LM.here ?_)
    cases b with
    | true =>
      refine codeAny_handlers_suite_as ?_
      refine HandSPX.lands_againZ fl3 fun h4 fl4 up4 => ?_
      have J4 : Inv X pins σ' H' { s' with heap := h4 } := J.landed nb fl4.1 ((up.trans up3).trans up4) os ag
      obtain ⟨oe4, vs4, he4, hz4, hd4⟩ := fl4.there
      have S4 := J4.suite he4 hd4 na nL nF
      refine store_ok (X := X.suite a ((a, oe4) :: (X.pn ++ pins))) (v := .ref a) S4 hN hi hloc rfl (fun s5 S5 => ?_) (.inr hln)
      refine wpAny_mono ((hsu a oe4 cls d (X.pn ++ pins) hz4 ⟨_, hd4⟩).run [] s5 _ H' _ S5 (hyes rfl a na)) (fun f s6 hsp => ?_) (fun _ _ z => False.elim z)
      have n0 : sI.heap.get? a = none := by
        cases e : sI.heap.get? a with
        | none => rfl
        | some o =>
          have z := nb a o e (by rw [hs]; exact nfr)
          rw [fl3.2.1] at z
          cases z
      have end_ : ∀ {σ6 : St} {H6 : Hp} {Q : Shared → Prop}, Inv (X.suite a ((a, oe4) :: (X.pn ++ pins))) [] σ6 H6 s6 → (∀ s7, Inv X pins (σ6.set i none) (upd H6 a (errV cls d a)) s7 → Q s7) →
          wpAny (model X.prog X.w) X.A (do bindName X.env n .none; unbindBehindTheSuite X.env n pos') (fun _ s7 => Q s7) X.xe s6 := fun {σ6 H6 Q} S6 hq => by
        have pa := S6.pin (a, oe4) (by simp)
        exact gone_ok (Inv.adopt (S6.unsuite ok) hex pa.1 hz4 hd4 pa.2.1 (Inv.first J n0) nL (fun p hp z => by
          have w := (J'.pin p (List.mem_append_left _ hp)).1
          rw [z, n0] at w
          cases w)) hN hi hln hq
      cases f with
      | next =>
        obtain ⟨σ6, H6, S6, q6⟩ := hsp
        exact end_ S6 fun s7 J7 => ⟨_, _, J7, q6⟩
      | brk =>
        obtain ⟨σ6, H6, S6, q6⟩ := hsp
        exact end_ S6 fun s7 J7 => ⟨_, _, J7, q6⟩
      | cont =>
        obtain ⟨σ6, H6, S6, q6⟩ := hsp
        exact end_ S6 fun s7 J7 => ⟨_, _, J7, q6⟩
      | ret u =>
        obtain ⟨v6, σ6, H6, S6, r6, q6⟩ := hsp
        exact end_ S6 fun s7 J7 => ⟨_, _, _, J7, r6, q6⟩
    | false =>
      show wpAny _ X.A (handleBy (.ref a) X.env []) _ _ _
      refine wpAny_handleBy_nil ?_
      obtain ⟨k1, k2, k3, oe, vs, T, oT, ts', he, hz, hd, h1, hr⟩ := id fl3
      unfold PySem.passOn
      refine wpAny_bind (wpAny_field he hd h1 ?_)
      rw [if_neg (show ¬ ((Value.ref T == Value.none) = true) from by simp)]
      have fin : wpAny (model X.prog X.w) X.A (setFlight (.ref a) X.env.frame) (fun _ s4 => wpAny (model X.prog X.w) X.A (throw (.ref a) : Sem Flow) (SP X pins D) X.xe s4) X.xe { s' with heap := h3 } := by
        rw [hf]
        refine HandSPX.setFlight_upZ fl3 fun h4 hh4 up4 => wpAny_throw (tk _ _ ?_)
        exact ⟨a, B, sI, pins, σ', H', cls, d, rfl, J, nb, (up.trans up3).trans up4, .inr (.inr (by rw [hs]; exact hh4)), na, os, ag, hno rfl⟩
      first
        | exact wpAny_bind (wpAny_pure (wpAny_bind fin))
        | exact wpAny_bind fin
  · cases f with
    | next =>
      obtain ⟨σ', H', J', q⟩ := hsp
      exact wpAny_execs_nil ⟨σ', H', J'.ofTry ok, q⟩
    | brk =>
      obtain ⟨σ', H', J', q⟩ := hsp
      exact ⟨σ', H', J'.ofTry ok, q⟩
    | cont =>
      obtain ⟨σ', H', J', q⟩ := hsp
      exact ⟨σ', H', J'.ofTry ok, q⟩
    | ret u =>
      obtain ⟨v, σ', H', J', r, q⟩ := hsp
      exact ⟨v, σ', H', J'.ofTry ok, r, q⟩
end
end DL

namespace DL
open PySem PySem.Spec PyProof.Rows L2
section
variable {C : Ctx} {m : Bool} {F F1 F' : FS} {H H1 H' : Hp} {p p1 p' q r : List Addr} {σ : St} {env : Env} {En : Ends} {pos : Pos}
/-! ### try: .. except T as n: y = n -/
/-- the frame of a try's body -/
abbrev Ctx.tri (C : Ctx) (pn : List (Addr × Obj)) (xe : Value → Shared → Prop) (W : XK) : Ctx := { C with X := C.X.tr pn xe, W := W }
def stry (ct : Str → Option Bool) (k j : Nat) (f : SF) : SF := fun env => match f env with
  | some (.exc c fs, e1) => (match ct c with
    | some true => some (.nx, (List.replicate k none).set j (some (.err c fs)))
    | some false => some (.exc c fs, e1)
    | none => none)
  | r => r
theorem takes_len {X : Cx} {W : WX} (t : Takes X W) : Takes X fun c d _ H => ∀ σ : St, σ.length = X.N.length → W c d σ H := fun u s' ⟨a, B, sI, pins, σ, H, cls, d, e, I, nb, up, sky, na, os, ag, w⟩ =>
  t u s' ⟨a, B, sI, pins, σ, H, cls, d, e, I, nb, up, sky, na, os, ag, w σ I.len⟩
theorem repE_none {P : Program} {w : World} {K : PySem.W.Frag} : ∀ {k : Nat} {σ : St}, σ.length = k → repE P w K F H (List.replicate k none) σ []
  | 0, [], _ => ⟨rfl, rfl⟩
  | 0, _ :: _, e => nomatch e
  | k + 1, [], e => nomatch e
  | k + 1, x :: σ, e => ⟨x, σ, rfl, repE_none (by simpa using e)⟩
theorem repE_single {P : Program} {w : World} {K : PySem.W.Frag} {d : D} {v : V} (h : rep P w K F H d v []) : ∀ {k j : Nat} {σ : St}, σ.length = k → σ[j]? = some (some v) → repE P w K F H ((List.replicate k none).set j (some d)) σ []
  | 0, j, [], _, e => by simp at e
  | 0, _, _ :: _, e, _ => nomatch e
  | k + 1, _, [], e, _ => nomatch e
  | k + 1, 0, x :: σ, e, e2 => by
    have : x = some v := by simpa using e2
    subst this
    exact ⟨v, σ, [], [], rfl, h, repE_none (by simpa using e), rfl⟩
  | k + 1, j + 1, x :: σ, e, e2 => ⟨x, σ, rfl, repE_single h (by simpa using e) (by simpa using e2)⟩
end
section
variable {C : Ctx} {i j k : Nat} {x n y : Str} {cv : Value} {ct : Str → Option Bool} {f : SF} {body : List Stmt} {np yp np2 ap pos pos' : Pos}
theorem s_try (O : CtxOk C) (hex : C.X.ex = []) (hst : C.X.stack = C.X.env :: C.X.outer) (hfr : C.X.env.frame = some C.X.env.locals) (hN : C.X.N.Nodup) (hi : C.X.N[i]? = some n) (hj : C.X.N[j]? = some y) (hij : i ≠ j) (hln : C.X.env.scope.names.lookup n = some .local) (hly : C.X.env.scope.names.lookup y = some .local)
    (hc : Names C.X x cv) (hfx : C.fx = []) (hk : C.X.N.length = k) (hct : ∀ c b, ct c = some b → PySem.W.exmOne C.X.K (.ref (He.ga C.X.K c)) cv = some b)
    (hb : ∀ pn xe W, CtxOk (C.tri pn xe W) → PSs (C.X.tr pn xe) body (TSx (C.tri pn xe W) f))
    (hdn : (n == ("__debug__" : Str)) = false := by decide) (hcn : (n == ("__classdict__" : Str)) = false := by decide)
    (hsw : ∀ A : PySem.Env, swapsWith (.Name n np2) (some (.Name y yp)) ap.line A = pure false := by intro A; rfl) :
    PS C.X (.Try body [.ExceptHandler (some (.Name x np)) (some n) [.Assign [.Name y yp] (.Name n np2) ap] pos'] [] [] pos) (TSx C (stry ct k j f)) := by
  refine psImp (ps_try_got (i := i) (tb := fun W => TSx (C.tri C.X.pn C.X.xe fun c d H => ∀ σ : St, σ.length = C.X.N.length → W c d σ H) f) (ts := fun _ _ _ => tAsg (tVar i) (gName j)) hex hst hfr hN hi hln hc O.tk (fun W pn xe tk _ => ?_) fun a oe cls d pn hz hd => ?_) fun En σ H h => ?_
  · exact hb pn xe _ ⟨takes_len tk, O.calm⟩
  · exact pss_one (ps_set hN hj (.inl hly) (pe_var hi (.inl hln) hdn hcn) (hsw _) (.inr hly))
  · obtain ⟨F, p, env, rel, fl, env', e, post⟩ := h
    refine ⟨F, p, env, rel, ?_⟩
    have key : ∀ {c : Str} {fs : List (Str × D)} {e1 : Env}, f env = some (.exc c fs, e1) → stry ct k j f env = some (fl, env') → PostS (C.tri C.X.pn C.X.xe fun c d H => ∀ σ : St, σ.length = C.X.N.length → wGot C.X.K cv i (fun _ _ _ => tAsg (tVar i) (gName j)) (fun c d _ H => C.W c d H) En c d σ H) F H p En (.exc c fs) e1 := fun {c fs e1} ef e => by
      intro dx σ1 H1 F1 p1 x1 rel1 ed σ2 len2
      unfold stry at e
      rw [ef] at e
      dsimp only at e
      split at e
      · rename_i hcc
        cases e
        refine ⟨true, hct c true hcc, fun _ a na => ?_, (fun z => nomatch z)⟩
        have li : i < σ2.length := by
          rw [len2]
          exact (List.getElem?_eq_some_iff.mp hi).1
        have lj : j < σ2.length := by
          rw [len2]
          exact (List.getElem?_eq_some_iff.mp hj).1
        refine ⟨.ref a, List.getElem?_set_self li, ?_⟩
        have na' : H1 a = none := na
        have y1 : Ext true F1 H1 p1 F1 (upd H1 a (errV (.ref (He.ga C.X.K c)) dx a)) (a :: p1) := Ext.laid na'
        have y2 : Ext true F1 H1 p1 (fun b => F1 b ∨ b ∈ [a]) (upd H1 a (errV (.ref (He.ga C.X.K c)) dx a)) [] := y1.trans (Ext.freeze (fun b hb => .inl (by rw [List.mem_singleton.mp hb]; exact .head _)) fun b hb => absurd hb (by simp))
        have g1 : ∀ b o, H1 b = some o → upd H1 a (errV (.ref (He.ga C.X.K c)) dx a) b = some o := fun b o z => by rw [upd_ne (ne_of_none z na')]; exact z
        have rel2 := (rel1.grow g1).freeze [a] (fun b hb hp => rel1.there b hp (by rw [List.mem_singleton.mp hb]; exact na')) fun b hb => by rw [List.mem_singleton.mp hb, upd_same]; intro w; cases w
        have st1 : Stab F1 (fun b => F1 b ∨ b ∈ [a]) H1 (upd H1 a (errV (.ref (He.ga C.X.K c)) dx a)) [] := ⟨fun _ h => .inl h, fun b o z _ _ => g1 b o z⟩
        have rp : C.rep (fun b => F1 b ∨ b ∈ [a]) (upd H1 a (errV (.ref (He.ga C.X.K c)) dx a)) (.err c fs) (.ref a) [] := by
          refine ⟨a, dx, rfl, .inr (List.mem_singleton.mpr rfl), upd_same, rfl, ?_⟩
          rcases excD_mono ed st1 with z | ⟨d2, gs, q1, q2, q3, q4⟩
          · exact .inl z
          · exact .inr ⟨d2, gs, q1, q2, q3, q4⟩
        refine post (((σ2.set i (some (.ref a))).set j (some (.ref a))).set i none) _ _ [] (x1.trans y2) ⟨repE_single rp ?_ ?_, List.nodup_nil, fun b hb => absurd hb (by simp), rel2.trk, rel2.tabs, fun z hz => ?_⟩
        · simp only [List.length_set]
          rw [len2, hk]
        · rw [List.getElem?_set_ne hij, List.getElem?_set_self (by simpa using lj)]
        · rw [hfx] at hz
          cases hz
      · rename_i hcc
        cases e
        exact ⟨false, hct c false hcc, (fun z => nomatch z), fun _ => post dx σ1 H1 F1 p1 x1 rel1 ed⟩
      · cases e
    cases ef : f env with
    | none =>
      unfold stry at e
      rw [ef] at e
      cases e
    | some z =>
      obtain ⟨fl0, e0⟩ := z
      cases fl0 with
      | exc c fs => exact ⟨_, _, rfl, key ef e⟩
      | nx => unfold stry at e; rw [ef] at e; cases e; exact ⟨_, _, rfl, post⟩
      | bk => unfold stry at e; rw [ef] at e; cases e; exact ⟨_, _, rfl, post⟩
      | ct => unfold stry at e; rw [ef] at e; cases e; exact ⟨_, _, rfl, post⟩
      | ret d => unfold stry at e; rw [ef] at e; cases e; exact ⟨_, _, rfl, post⟩
end
end DL

namespace DL
open PySem PySem.Spec PyProof.Rows L2 LamX
/-! ### a lambda handed to a def: nothing that was tracked goes (turned from the kit's lam_make2, pe_lamcall) -/
section
variable {X : Cx} {pins : List (Addr × Obj)} {σ : L2.St} {H : Hp} {s : Shared}
theorem lam_make3 {T : List (Addr × Str)} {c P : Addr} {params : Arguments} {body : Expr} {scope : Scope} {pos : Pos} {E : Value → Shared → Prop} {Q : Value → Shared → Prop} (I : Inv X pins σ H s) (TB : TabB X.base X.mg c P) (hcode : X.env.code = .ref c)
    (hm : (P, X.env.qual ++ "<lambda>") ∈ T) (hu : ∀ p ∈ T, p.1 = P → p.2 = X.env.qual ++ "<lambda>") (hT : Tabs T H) (hdef : defaultsOf params X.env = ([], [])) (hfree : ∀ y ∈ scope.names, y.2 = .free → ∃ c, X.env.cells.lookup y.1 = some c)
    (h : ∀ (f c' : Addr) (pm ctv : Value) (H1 : Hp) (s' : Shared), Inv X pins σ H1 s' → ExtN H H1 → (∀ b, H b ≠ none → H1 b ≠ none) → Tabs T H1 →
      s'.heap.get? f = some (PySem.W.kla_obj "<lambda>" (X.env.qual ++ "<lambda>") params body scope (cloFrom X.env.cells scope.names []) pm c' ctv) → H1 f = none → f ∉ frs X.stack → H1 c' = some (CodeO c' (X.env.qual ++ "<lambda>")) → Q (.ref f) s') :
    wpAny (model X.prog X.w) X.A (eval (.Lambda params body scope pos) X.env) Q E s := by
  obtain ⟨ps, hP, ht, ha⟩ := hT _ hm
  refine PySem.W.kla_eval hdef ?_
  have bP : s.heap.BuiltinsAt X.mg P := TB.bm.keeps I.bk
  have hP' : s.heap.get? P = some { cls := .none, data := .fields ps } := I.hok P _ hP
  have nofr : ∀ f, s.heap.objs.size ≤ f → f ∉ frs X.stack := fun f hf z => by
    rcases List.mem_cons.mp (I.stkSub _ z) with e | e
    · have h1 := I.lt
      rw [← e] at h1
      exact Nat.lt_irrefl _ (Nat.lt_of_lt_of_le h1 hf)
    · exact I.nofs hf e
  cases hc : codeAmong pos ps.toList with
  | none =>
    refine PySem.W.kla_makeFunction (mg := X.mg) (c := c) (P := P) (ps := ps) (closure_ok hfree) I.ok.glob (I.mod.glob.keeps I.bk) hcode (TB.code.keeps I.bk) hP' ht hc TB.gP bP fun c' ctv h' tk hx hge hlt hrec htb => ?_
    obtain ⟨c2, oc, vs, t, e2, hoc, hd, hv⟩ := hrec
    cases e2
    have hsz : s.heap.objs.size ≤ h'.objs.size := Nat.le_trans hge (Nat.le_of_lt hlt)
    have nC : H c' = none := I.hok.fresh hge
    have I1 := inv_table (t' := tk) (more := #[rawInt pos.line, rawInt pos.col, .ref c']) (h' := h'.push (PySem.W.kla_obj "<lambda>" (X.env.qual ++ "<lambda>") params body scope (cloFrom X.env.cells scope.names []) ((X.mg "__name__").getD .none) c' ctv)) I hP
      (fun b o hb e => Heap.get?_push_of_some _ (hx b o hb e)) (Heap.get?_push_of_some _ htb) hge ⟨oc, vs, t, Heap.get?_push_of_some _ hoc, hd, hv⟩
    have hE : ExtN H (upd (upd H P (.tbl (ps ++ #[rawInt pos.line, rawInt pos.col, .ref c']))) c' (CodeO c' (X.env.qual ++ "<lambda>"))) := fun b o e n => by
      rw [upd_ne (ne_of_none e nC), upd_ne (fun z => n ps (Option.some.inj (e.symm.trans (by rw [z]; exact hP))))]
      exact e
    have hTh : ∀ b, H b ≠ none → upd (upd H P (.tbl (ps ++ #[rawInt pos.line, rawInt pos.col, .ref c']))) c' (CodeO c' (X.env.qual ++ "<lambda>")) b ≠ none := fun b z => by
      by_cases h1 : b = c'
      · rw [h1, upd_same]; intro w; cases w
      · rw [upd_ne h1]
        by_cases h2 : b = P
        · rw [h2, upd_same]; intro w; cases w
        · rw [upd_ne h2]; exact z
    have eL : (ps ++ #[rawInt pos.line, rawInt pos.col, .ref c']).toList = ps.toList ++ [rawInt pos.line, rawInt pos.col, .ref c'] := by simp
    refine h h'.objs.size c' ((X.mg "__name__").getD .none) ctv _ _ I1 hE hTh (fun p hp => ?_) (Heap.get?_push_size _ rfl) ?_ (nofr _ hsz) upd_same
    · by_cases hb : p.1 = P
      · rw [hu p hp hb, hb]
        refine ⟨_, by rw [upd_ne (ne_of_none hP nC), upd_same], by rw [eL]; exact PySem.TriplesOk_snoc _ _ _ _ ht, fun p' cv hcv => ?_⟩
        rw [eL] at hcv
        rcases among_app _ ht hcv with z | z
        · obtain ⟨c0, e1, e2⟩ := ha p' cv z
          exact ⟨c0, e1, hE _ _ e2 codeO_ne⟩
        · exact ⟨c', z, upd_same⟩
      · obtain ⟨ps', a1, a2, a3⟩ := hT p hp
        refine ⟨ps', by rw [upd_ne (ne_of_none a1 nC), upd_ne hb]; exact a1, a2, fun p' cv hcv => ?_⟩
        obtain ⟨c0, e1, e2⟩ := a3 p' cv hcv
        exact ⟨c0, e1, hE _ _ e2 codeO_ne⟩
    · have n1 : h'.objs.size ≠ c' := Nat.ne_of_gt hlt
      have n2 : h'.objs.size ≠ P := Nat.ne_of_gt (Nat.lt_of_lt_of_le (Heap.lt_size hP') hsz)
      rw [upd_ne n1, upd_ne n2]
      exact I.hok.fresh hsz
  | some cv =>
    obtain ⟨c', e, hco⟩ := ha pos cv hc
    subst e
    refine PySem.W.kla_makeFunctionHit (mg := X.mg) (c := c) (P := P) (ps := ps) (closure_ok hfree) I.ok.glob (I.mod.glob.keeps I.bk) hcode (TB.code.keeps I.bk) hP' ht hc bP fun ctv h' tk hx hsz => ?_
    have I1 : Inv X pins σ H { s with heap := h'.push (PySem.W.kla_obj "<lambda>" (X.env.qual ++ "<lambda>") params body scope (cloFrom X.env.cells scope.names []) ((X.mg "__name__").getD .none) c' ctv), toks := tk } := I.kept fun b o e => Heap.get?_push_of_some _ (hx b o e)
    exact h h'.objs.size c' ((X.mg "__name__").getD .none) ctv H _ I1 (ExtN.refl H) (fun _ z => z) hT (Heap.get?_push_size _ rfl) (I.hok.fresh hsz) (nofr _ hsz) hco
end
def tLamT (T : List (Addr × Str)) (TT : (XK → Hp → VK → Prop) → Hp → VK → Prop) (t : XK → TE) : TE := fun σ H Q => Tabs T H ∧ ∀ H1, ExtN H H1 → (∀ b, H b ≠ none → H1 b ≠ none) → Tabs T H1 → TT (fun E H' Q' => t E σ H' Q') H1 Q
section
variable {X : Cx}
/-- x(lambda: body) -/
theorem pe_lamcallT {T : List (Addr × Str)} {TT : (XK → Hp → VK → Prop) → Hp → VK → Prop} {x a : Str} {g c P : Addr} {k : Nat} {pg : Arguments} {bg : List Stmt} {sg : Scope} {dV kV doc pm cdv ct oc : Value} {an od : Option Addr} {osl : Array (Option Value)} {Ng : List Str}
    {params : Arguments} {body : Expr} {scope : Scope} {t : XK → TE} {p lpos pos : Pos} (hg : Gl X x) (hm : X.mg x = some (.ref g)) (hk : PySem.W.keepIn X.K (.ref g) = true)
    (lk : X.K.lookup g = some ⟨oc, od, .func (PySem.W.fnOf x x pg bg sg dV kV doc pm an cdv ct), osl⟩) (hcg : PySem.W.codeIn X.K cdv x = true) (hb : L2.Binds X.K (PySem.W.fnOf x x pg bg sg dV kV doc pm an cdv ct) [a] []) (Sg : FnScope Ng [a] sg) (hNg : Ng[0]? = some a) (hva : Vis sg a)
    (hG : GivesTo X Ng x sg g cdv bg a (X.env.qual ++ "<lambda>") TT)
    (TB : TabB X.base X.mg c P) (hcode : X.env.code = .ref c) (hmT : (P, X.env.qual ++ "<lambda>") ∈ T) (hu : ∀ p ∈ T, p.1 = P → p.2 = X.env.qual ++ "<lambda>") (hr : Room (k + 2) X.A) (L : LamS X.env.scope scope) (hdef : defaultsOf params X.env = ([], []))
    (hbind : ∀ (q : Str) (cl : List (Str × Addr)) (pm cv ctv : Value), bindArgs (PySem.W.kla_fn "<lambda>" q params body scope cl pm cv ctv) ⟨[], []⟩ = pure [])
    (hbody : ∀ (A : Around) (outer : List PySem.Env) (s : Shared) (H : Hp) (E : XK) (f c' : Addr), Room k (A.deeper (lamEnv X scope s.heap.objs.size f c')) → PE (lamCx X A outer s H E scope f c') body (t E))
    (hdb : (x == ("__debug__" : Str)) = false := by decide) (hd : (a == ("__debug__" : Str)) = false := by decide) (hcd : (a == ("__classdict__" : Str)) = false := by decide) :
    PE X (.Call (.Name x p) [.Lambda params body scope lpos] [] pos) (tLamT T TT t) := by
  refine ⟨fun pins s σ H Q I h => ?_⟩
  obtain ⟨hT, h⟩ := h
  refine wpAny_Call_Name_kw (ld_glob I hg hm ?_ hdb)
  refine PySem.W.callWith_K (h₀ := X.base) I.ok.mod.kin hk ?_ (by rfl) (by rfl)
  show wpAny _ _ (spliced ((false, eval (.Lambda params body scope lpos) X.env) :: backTo pos (starEach [] X.env))) _ _ s
  refine Calls.spliced_cons (lam_make3 I TB hcode hmT hu hT hdef (L.has I.ok) fun f c' pm' ctv H1 s' I1 eN tH T1 hf hfn hfr hco => ?_)
  refine Calls.spliced_nil ⟨I1.kIn, ?_⟩
  have rc : codeAny (model X.prog X.w) X.A (.call (.ref g) ⟨[.ref f], []⟩) (CR C8.CX0 X.stack X.prog X.w H1 s' Q C8.E0) s' := by
    refine run_ofS (N := Ng) (ps := [a]) (us := [.ref f]) (vs := [.ref f]) lk hcg Sg hr I1.env0 (hb s' [.ref f] I1.kIn rfl) (.cons rfl .nil) rfl fun hr' => ?_
    obtain ⟨t', ht', hq'⟩ := hG f c' s' H1 Q (fun E H' Q' => t E σ H' Q') (fun W pn xe E p1 p2 tk hW => pe_act (i := 0) I1 L hf hfn hfr (hbind _ _ _ _ _) tk hW hr' (fun A outer s H hr2 => hbody A outer s H E f c' hr2) hNg hva hd hcd) hco (h H1 eN tH T1)
    exact ⟨t', ht'.nox, hq'⟩
  refine wpAny_call (codeAny_mono rc fun r s2 hq => ?_)
  cases r with
  | error e => exact (show False from hq).elim
  | ok fl =>
    cases fl with
    | ret u => exact I1.after hq
    | next => exact False.elim hq
    | brk => exact False.elim hq
    | cont => exact False.elim hq
end
end DL

namespace DL
open PySem PySem.Spec PyProof.Rows L2 LamX
/-! ### y = None; try: a() except e as n: y = n; return y -/
def TTc (K : PySem.W.Frag) (cv : Value) : (XK → Hp → VK → Prop) → Hp → VK → Prop := fun tl H Q =>
  tl (fun cls d H' => ∃ b, PySem.W.exmOne K cls cv = some b ∧ (b = true → ∀ a, H' a = none → Q (.ref a) (upd H' a (errV cls d a))) ∧ (b = false → False)) H fun _ H' => Q .non H'
section
variable {X : Cx}
theorem caught_gives {Ng : List Str} {x a e n y q : Str} {sg : Scope} {g CS : Addr} {cdg : Value} {i j z : Nat} {p1 p2 p3 p4 p5 p6 p7 p8 p9 pa pb pc yp np2 : Pos} (hNd : Ng.Nodup) (hi : Ng[i]? = some n) (hj : Ng[j]? = some y) (hij : i ≠ j) (h0i : i ≠ 0) (h0j : j ≠ 0)
    (hln : sg.names.lookup n = some .local) (hly : sg.names.lookup y = some .local) (hge : sg.names.lookup e = some .globalImplicit) (hme : X.mg e = some (.ref CS)) (hde : (e == ("__debug__" : Str)) = false)
    (hdn : (n == ("__debug__" : Str)) = false) (hcn : (n == ("__classdict__" : Str)) = false) (hdy : (y == ("__debug__" : Str)) = false) (hcy : (y == ("__classdict__" : Str)) = false)
    (hs1 : ∀ A : PySem.Env, swapsWith (.Constant .none z p1) (some (.Name y p2)) p3.line A = pure false) (hs2 : ∀ A : PySem.Env, swapsWith (.Call (.Name a p4) [] [] p5) none p6.line A = pure false) (hs3 : ∀ A : PySem.Env, swapsWith (.Name n np2) (some (.Name y yp)) p7.line A = pure false)
    (h0 : ∀ f : Addr, (L2.start Ng [V.ref f])[0]? = some (some (V.ref f))) :
    GivesTo X Ng x sg g cdg [.Assign [.Name y p2] (.Constant .none z p1) p3, .Try [.Expr (.Call (.Name a p4) [] [] p5) p6] [.ExceptHandler (some (.Name e p8)) (some n) [.Assign [.Name y yp] (.Name n np2) p7] p9] [] [] pa, .Return (some (.Name y pb)) pc] a q (TTc X.K (.ref CS)) := by
  intro f c' s H Q tl act hc h
  have hgl : Gl (cxOf C8.CX0 X.prog X.w X.K X.mg X.base Ng x sg g cdg X.A X.stack s H C8.E0).nox e := hge
  refine ⟨_, pss_cons (ps_set (i := j) hNd hj (.inl hly) pe_non (hs1 _) (.inr hly)) (pss_cons (ps_try_got (X := (cxOf C8.CX0 X.prog X.w X.K X.mg X.base Ng x sg g cdg X.A X.stack s H C8.E0).nox) (c := .ref CS) (i := i) (ts := fun _ _ _ => tAsg (tVar i) (gName j))
      (tb := fun W D σ H => ∃ (Ech : XK) (Q0 : VK), (∀ cls d (σ' : L2.St) H', Ech cls d H' → σ'.length = Ng.length → W cls d σ' H') ∧ (∀ v H', Q0 v H' → D.nx σ H') ∧ σ[0]? = some (some (.ref f)) ∧ H c' = some (CodeO c' q) ∧ tl Ech H Q0)
      rfl rfl rfl hNd hi hln ⟨hgl, hde, .inl hme⟩ LamX.takes0 (fun W pn xe tk _ => ?_) (fun a oe cls d pn _ _ => pss_one (ps_set hNd hj (.inl hly) (pe_var hi (.inl hln) hdn hcn) (hs3 _) (.inr hly)))) (pss_one (ps_ret (pe_var hj (.inl hly) hdy hcy)))), ?_⟩
  · refine ⟨fun pins s' σ H' D I h' => ?_⟩
    obtain ⟨Ech, Q0, hW, hD, h1, h2, h3⟩ := h'
    have hp := act _ pn xe Ech p4 p5 (takes_len tk) fun cls d σ' H' e σ2 l2 => hW cls d σ2 H' e l2
    have hq : PE ((cxOf C8.CX0 X.prog X.w X.K X.mg X.base Ng x sg g cdg X.A X.stack s H C8.E0).nox.tr pn xe) (.Call (.Name a p4) [] [] p5) (fun σZ HZ Q => ∃ Q0 : VK, (∀ v H', Q0 v H' → Q v H') ∧ σZ[0]? = some (some (.ref f)) ∧ HZ c' = some (CodeO c' q) ∧ tl Ech HZ Q0) :=
      ⟨fun pins s σ H Q I ⟨Q0, i1, z⟩ => thn (hp.run pins s σ H Q0 I z) fun u s' ⟨v, H', I', r, w⟩ => ⟨v, H', I', r, i1 v H' w⟩⟩
    exact (pss_one (ps_expr (pos := p6) hq (hs2 _))).run pins s' σ H' D I ⟨Q0, fun v H' w => hD v H' w, h1, h2, h3⟩
  · have l0 : (L2.start Ng [V.ref f]).length = Ng.length := by
      have hlt : i < Ng.length := (List.getElem?_eq_some_iff.mp hi).1
      unfold L2.start
      simp
      omega
    have li : i < (L2.start Ng [V.ref f]).length := by rw [l0]; exact (List.getElem?_eq_some_iff.mp hi).1
    have lj : j < (L2.start Ng [V.ref f]).length := by rw [l0]; exact (List.getElem?_eq_some_iff.mp hj).1
    refine ⟨fun cls d H' => ∃ b, PySem.W.exmOne X.K cls (.ref CS) = some b ∧ (b = true → ∀ a, H' a = none → Q (.ref a) (upd H' a (errV cls d a))) ∧ (b = false → False), fun _ H' => Q .non H', fun cls d σ' H' ⟨b, e1, e2, e3⟩ len => ⟨b, e1, fun hb a na => ?_, fun hb => e3 hb⟩, fun v H' w => ?_, ?_, hc, h⟩
    · have hi' : i < σ'.length := by rw [len, ← l0]; exact li
      have hj' : j < σ'.length := by rw [len, ← l0]; exact lj
      refine ⟨.ref a, List.getElem?_set_self hi', ?_⟩
      refine ⟨.ref a, ?_, e2 hb a na⟩
      rw [List.getElem?_set_ne hij, List.getElem?_set_self (by simpa using hj')]
    · exact ⟨.non, List.getElem?_set_self lj, w⟩
    · rw [List.getElem?_set_ne h0j]
      exact h0 f
end
end DL

namespace DL
open PySem PySem.Spec PyProof.Rows L2
section
variable {C : Ctx} {m : Bool} {F F1 F' : FS} {H H1 H' : Hp} {p p1 p' q r : List Addr} {σ : St} {env : Env} {En : Ends} {pos : Pos}
/-! ### caught(lambda: e) -/
def xlam (ct : Str → Option Bool) (f : XF) : XF := fun env => match f env with
  | some (.val _, e1) => some (.val .non, e1)
  | some (.exc c fs, e1) => (match ct c with
    | some true => some (.val (.err c fs), e1)
    | _ => none)
  | none => none
/-- the frame of the lambda's body -/
abbrev Ctx.lam (C : Ctx) (A : Around) (outer : List PySem.Env) (s : Shared) (H : Hp) (E : XK) (scope : Scope) (f c' : Addr) : Ctx := { C with X := LamX.lamCx C.X A outer s H E scope f c', W := E }
theorem lam_ok (A : Around) (outer : List PySem.Env) (s : Shared) (H : Hp) (E : XK) (scope : Scope) (f c' : Addr) : CtxOk (C.lam A outer s H E scope f c') := ⟨takes_of rfl rfl rfl rfl, rfl⟩
theorem tx_lam {ct : Str → Option Bool} {f : XF} {cv : Value} {Q : VK} (hct : ∀ c b, ct c = some b → PySem.W.exmOne C.X.K (.ref (He.ga C.X.K c)) cv = some b) (h : TX C true (xlam ct f) σ H Q) :
    tLamT C.T (TTc C.X.K cv) (fun E => TX { C with W := E } true f) σ H Q := by
  obtain ⟨F, p, env, rel, r, env', e, post⟩ := h
  refine ⟨rel.tabs, fun H1 eN tH T1 => ?_⟩
  have rel1 : Rel C env σ F H1 p := ⟨repE_mono rel.slots ⟨fun _ h => h, fun a o e nt _ => eN a o e nt⟩, rel.nd, rel.dis, fun a h => tH a (rel.trk a h), T1, rel.fx⟩
  have x0 : Ext true F H p F H1 p := ⟨fun _ h => h, fun a o e nt _ => eN a o e nt, tH, fun _ h => .inl h, fun _ h => .inl h⟩
  refine ⟨F, p, env, rel1, ?_⟩
  unfold xlam at e
  split at e
  · rename_i d e1 ef
    cases e
    exact ⟨_, _, ef, fun v H' F' p' q x2 rel2 rp2 ap2 => post .non H' F' p' [] (x0.trans (x2.sub fun a h => List.mem_append_right _ h)) rel2 ⟨rfl, rfl⟩ Apart.nil⟩
  · rename_i c fs e1 ef
    split at e
    · rename_i hcc
      cases e
      refine ⟨_, _, ef, fun dx H' F' p' x2 rel2 ed => ⟨true, hct c true hcc, fun _ a na => ?_, (fun z => nomatch z)⟩⟩
      have y1 : Ext true F' H' p' F' (upd H' a (errV (.ref (He.ga C.X.K c)) dx a)) (a :: p') := Ext.laid na
      have y2 : Ext true F' H' p' (fun b => F' b ∨ b ∈ [a]) (upd H' a (errV (.ref (He.ga C.X.K c)) dx a)) ([] ++ p') := y1.trans (Ext.freeze (fun b hb => .inl (by rw [List.mem_singleton.mp hb]; exact .head _)) fun b hb => List.mem_cons_of_mem _ hb)
      have g1 : ∀ b o, H' b = some o → upd H' a (errV (.ref (He.ga C.X.K c)) dx a) b = some o := fun b o z => by rw [upd_ne (ne_of_none z na)]; exact z
      have rel3 := (rel2.grow g1).freeze [a] (fun b hb hp => rel2.there b hp (by rw [List.mem_singleton.mp hb]; exact na)) fun b hb => by rw [List.mem_singleton.mp hb, upd_same]; intro w; cases w
      have st1 : Stab F' (fun b => F' b ∨ b ∈ [a]) H' (upd H' a (errV (.ref (He.ga C.X.K c)) dx a)) [] := ⟨fun _ h => .inl h, fun b o z _ _ => g1 b o z⟩
      refine post (.ref a) _ _ p' [] ((x0.trans x2).trans y2) rel3 ⟨a, dx, rfl, .inr (List.mem_singleton.mpr rfl), upd_same, rfl, ?_⟩ Apart.nil
      rcases excD_mono ed st1 with z | ⟨d2, gs, q1, q2, q3, q4⟩
      · exact .inl z
      · exact .inr ⟨d2, gs, q1, q2, q3, q4⟩
    · cases e
  · cases e
theorem x_lam {ct : Str → Option Bool} {f : XF} {cv : Value} {x a : Str} {g c P : Addr} {k : Nat} {pg : Arguments} {bg : List Stmt} {sg : Scope} {dV kV doc pm cdv ctv oc : Value} {an od : Option Addr} {osl : Array (Option Value)} {Ng : List Str}
    {params : Arguments} {body : Expr} {scope : Scope} {p0 lpos : Pos} (hct : ∀ c b, ct c = some b → PySem.W.exmOne C.X.K (.ref (He.ga C.X.K c)) cv = some b)
    (hg : Gl C.X x) (hm : C.X.mg x = some (.ref g)) (hk : PySem.W.keepIn C.X.K (.ref g) = true)
    (lk : C.X.K.lookup g = some ⟨oc, od, .func (PySem.W.fnOf x x pg bg sg dV kV doc pm an cdv ctv), osl⟩) (hcg : PySem.W.codeIn C.X.K cdv x = true) (hb : L2.Binds C.X.K (PySem.W.fnOf x x pg bg sg dV kV doc pm an cdv ctv) [a] []) (Sg : FnScope Ng [a] sg) (hNg : Ng[0]? = some a) (hva : Vis sg a)
    (hG : LamX.GivesTo C.X Ng x sg g cdv bg a (C.X.env.qual ++ "<lambda>") (TTc C.X.K cv))
    (TB : LamX.TabB C.X.base C.X.mg c P) (hcode : C.X.env.code = .ref c) (hmT : (P, C.X.env.qual ++ "<lambda>") ∈ C.T) (hu : ∀ p ∈ C.T, p.1 = P → p.2 = C.X.env.qual ++ "<lambda>") (hr : Room (k + 2) C.X.A) (L : LamX.LamS C.X.env.scope scope) (hdef : defaultsOf params C.X.env = ([], []))
    (hbind : ∀ (q : Str) (cl : List (Str × Addr)) (pm cv ctv : Value), bindArgs (PySem.W.kla_fn "<lambda>" q params body scope cl pm cv ctv) ⟨[], []⟩ = pure [])
    (hbody : ∀ (A : Around) (outer : List PySem.Env) (s : Shared) (H : Hp) (E : XK) (f0 c' : Addr), Room k (A.deeper (LamX.lamEnv C.X scope s.heap.objs.size f0 c')) → PE (C.lam A outer s H E scope f0 c').X body (TX (C.lam A outer s H E scope f0 c') true f))
    (hdb : (x == ("__debug__" : Str)) = false := by decide) (hd : (a == ("__debug__" : Str)) = false := by decide) (hcd : (a == ("__classdict__" : Str)) = false := by decide) :
    PE C.X (.Call (.Name x p0) [.Lambda params body scope lpos] [] pos) (TX C true (xlam ct f)) :=
  peImp (pe_lamcallT hg hm hk lk hcg hb Sg hNg hva hG TB hcode hmT hu hr L hdef hbind (fun A outer s H E f0 c' hr2 => hbody A outer s H E f0 c' hr2) hdb hd hcd) fun _ _ _ h => tx_lam hct h
end
end DL

namespace DL
open PySem PySem.Spec PyProof.Rows L2
/-! ### f(k = e, ..): by keywords alone -/
def permL {α : Type} (π : List Nat) (l : List α) : List α := π.filterMap fun i => l[i]?
theorem pair_at {α β : Type} {R : α → β → Prop} : ∀ {l : List α} {l' : List β}, Paired R l l' → ∀ i : Nat, (∃ a b, l[i]? = some a ∧ l'[i]? = some b ∧ R a b) ∨ (l[i]? = none ∧ l'[i]? = none)
  | [], _, .nil, i => .inr ⟨by simp, by simp⟩
  | a :: l, b :: l', .cons r rs, 0 => .inl ⟨a, b, by simp, by simp, r⟩
  | a :: l, b :: l', .cons r rs, i + 1 => by simpa using pair_at rs i
theorem perm_pair {α β : Type} {R : α → β → Prop} {l : List α} {l' : List β} (h : Paired R l l') : ∀ π : List Nat, Paired R (permL π l) (permL π l')
  | [] => .nil
  | i :: π => by
    unfold permL
    rcases pair_at h i with ⟨a, b, e1, e2, r⟩ | ⟨e1, e2⟩
    · rw [List.filterMap_cons_some e1, List.filterMap_cons_some e2]
      exact .cons r (perm_pair h π)
    · rw [List.filterMap_cons_none e1, List.filterMap_cons_none e2]
      exact perm_pair h π
section
variable {X : Cx} {CX : CXT} {k : Nat} {f : Addr} {fd : FuncData} {ps ks : List Str} {sp : Sp} {E : XK} {x : Str} {p pos : Pos} {kws : List Keyword} {tk : TA} {g : List Value → List Value → List Value} {gV : List V → List V → List V}
/-- bound by the keywords ks alone, in the order π -/
structure KPerm (K : PySem.W.Frag) (fd : FuncData) (ps ks : List Str) (π : List Nat) : Prop where
  to : ∀ (s : Shared) (ws : List Value), ks.length ≤ ws.length → BindsTo s fd ⟨[], ks.zip ws⟩ (ps.zip (permL π ws))
  ge : ∀ ws : List Value, (permL π ws).length = ps.length → ks.length ≤ ws.length
theorem pe_callK0 {π : List Nat} (F : FnOk X.prog X.w X.K X.mg X.base CX k f fd ps sp) (hr : Room k X.A) (hg : Gl X x) (hm : X.mg x = some (.ref f)) (hk : PySem.W.keepIn X.K (.ref f) = true) (hb : KPerm X.K fd ps ks π) (hx : Passes CX X E)
    (hkw : PK X kws tk) (hall : (backToKw pos (keywordEach kws X.env)).all (·.1.isSome) = true := by rfl) (hks : (backToKw pos (keywordEach kws X.env)).filterMap (·.1) = ks := by rfl) (hdb : (x == ("__debug__" : Str)) = false := by decide)
    (hpl : ((backTo pos (starEach [] X.env)).any (·.1) || (backToKw pos (keywordEach kws X.env)).any (·.1.isNone)) = false := by rfl) :
    PE X (.Call (.Name x p) [] kws pos) (fun σ H Q => tk σ H fun zs H2 => sp (permL π zs) H2 Q E) := by
  refine ⟨fun pins s σ H Q I h => wpAny_Call_Name_kw (ld_glob I hg hm (PySem.W.callWith_KW0 (h₀ := X.base) I.ok.mod.kin hk hall (thn (hkw.run pos pins s σ H _ I h) fun ws s2 ⟨zs, H2, I2, rz, q2⟩ => ⟨I2.kIn, ?_⟩) hpl) hdb)⟩
  rw [hks]
  have r2 : Vals (permL π zs) (permL π ws) := perm_pair rz π
  have hl : (permL π ws).length = ps.length := by rw [← r2.length]; exact F.len _ _ _ _ q2
  refine wpAny_call (codeAny_mono (F.run X.A X.stack s2 H2 ⟨[], ks.zip ws⟩ (permL π ws) (permL π zs) Q E hr I2.env0 (hb.to s2 ws (hb.ge ws hl)) r2 q2) fun r s' hq => ?_)
  cases r with
  | error e => exact hx pins σ H2 s2 e s' I2 hq
  | ok fl =>
    cases fl with
    | ret u => exact I2.after hq
    | next => cases hq
    | brk => cases hq
    | cont => cases hq
end
/-- the def x called by the keywords ks, its parameters being π of them -/
structure FnK (P : Program) (w : World) (K : PySem.W.Frag) (mg : Str → Option Value) (base : Heap) (T : List (Addr × Str)) (k : Nat) (x : Str) (n : Nat) (ks : List Str) (π : List Nat) (m : MF) : Prop where
  ex : ∃ (fd : FuncData) (ps : List Str), FnOk P w K mg base (L2.CX P w) k (He.ga K x) fd ps (spD P w K T n false m) ∧ mg x = some (.ref (He.ga K x)) ∧ PySem.W.keepIn K (.ref (He.ga K x)) = true ∧ KPerm K fd ps ks π
section
variable {C : Ctx} {m : Bool} {F F1 F' : FS} {H H1 H' : Hp} {p p1 p' q r : List Addr} {σ : St} {env : Env} {En : Ends} {pos : Pos}
theorem reps_ix : ∀ {ds : List D} {vs : List V}, C.reps F H ds vs [] → ∀ i : Nat, (∃ d v, ds[i]? = some d ∧ vs[i]? = some v ∧ C.rep F H d v []) ∨ (ds[i]? = none ∧ vs[i]? = none)
  | [], vs, x, i => by
    obtain ⟨rfl, _⟩ := x
    exact .inr ⟨by simp, by simp⟩
  | d :: ds, vs, ⟨v, ws, q, r, e, x1, x2, h⟩, i => by
    obtain ⟨rfl, rfl⟩ := List.append_eq_nil_iff.mp h.symm
    subst e
    cases i with
    | zero => exact .inl ⟨d, v, by simp, by simp, x1⟩
    | succ i => simpa using reps_ix x2 i
theorem reps_perm {ds : List D} {vs : List V} (x : C.reps F H ds vs []) : ∀ π : List Nat, C.reps F H (permL π ds) (permL π vs) []
  | [] => ⟨rfl, rfl⟩
  | i :: π => by
    unfold permL
    rcases reps_ix x i with ⟨d, v, e1, e2, r⟩ | ⟨e1, e2⟩
    · rw [List.filterMap_cons_some e1, List.filterMap_cons_some e2]
      exact ⟨v, _, [], [], rfl, r, reps_perm x π, rfl⟩
    · rw [List.filterMap_cons_none e1, List.filterMap_cons_none e2]
      exact reps_perm x π
def xcallK (π : List Nat) (f : MF) (g : AF) : XF := fun env => match g env with
  | some (.vals as, e1) => (match tmps as with
    | some ds => (match f (permL π (fzs ds)) with
      | some (r, []) => some (r, e1)
      | _ => none)
    | none => none)
  | some (.exc c fs, e1) => some (.exc c fs, e1)
  | none => none
theorem tx_callK {π : List Nat} {f : MF} {g : AF} {n : Nat} {Q : VK} (hn : ∀ ds r o, f ds = some (r, o) → ds.length = n) (h : TX C true (xcallK π f g) σ H Q) :
    TAX C true g σ H fun zs H2 => spD C.X.prog C.X.w C.X.K C.T n false f (permL π zs) H2 Q C.W := by
  obtain ⟨F, p, env, rel, r, env', e, post⟩ := h
  refine ⟨F, p, env, rel, ?_⟩
  unfold xcallK at e
  split at e
  · rename_i as e1 eg
    refine ⟨_, _, eg, fun vs H1 F1 p1 q1 x1 rel1 ar1 ap1 => ?_⟩
    split at e
    · rename_i ds ed
      split at e
      · rename_i r' em
        cases e
        have rp := arP_reps ed ar1
        have th : ∀ a ∈ q1, H1 a ≠ none := fun a ha => ne_of_ow (reps_there rp a ha)
        have rel2 := rel1.freeze q1 ap1.dis th
        have y1 : Ext true F H p (fun b => F1 b ∨ b ∈ q1) H1 p1 := x1.trans (Ext.freeze (fun a h => .inl (List.mem_append_left _ h)) fun a h => List.mem_append_right _ h)
        have rp2 := reps_perm (reps_fz (F' := fun b => F1 b ∨ b ∈ q1) (fun _ h => .inl h) rp fun a h => .inr h) π
        refine ⟨_, [], _, by rw [← reps_len rp2]; exact hn _ _ _ em, rp2, List.nodup_nil, (fun a h => absurd h (by simp)), rel2.trk, rel2.tabs, _, _, em, ?_⟩
        cases r with
        | val d =>
          intro v H2 F2 q2 qo x2 tabs trk rp3 ro nd nF
          obtain ⟨_, rfl⟩ := ro
          rw [List.append_nil] at x2 nd nF
          have rel3 := rel2.after x2 (fun a ha h => absurd h (by simp)) (fun a h => absurd h (by simp)) (fun a h => absurd h (by simp)) tabs trk
          refine post v H2 F2 p1 q2 (y1.trans ?_) rel3 rp3 ⟨nd, fun a ha hp => ?_, nF⟩
          · have z := x2.beside [] p1
            exact z
          · exact (x2.own a ha).elim (fun h => absurd h (by simp)) (rel2.there a hp)
        | exc c fs =>
          intro dx H2 F2 qo x2 tabs trk ro nd nF ed
          obtain ⟨_, rfl⟩ := ro
          have rel3 := rel2.after x2 (fun a ha h => absurd h (by simp)) (fun a h => absurd h (by simp)) (fun a h => absurd h (by simp)) tabs trk
          exact post dx H2 F2 p1 (y1.trans (x2.beside [] p1)) rel3 ed
      · cases e
    · cases e
  · rename_i c fs e1 eg
    cases e
    exact ⟨_, _, eg, post⟩
  · cases e
/-- the keywords' values -/
theorem pk_nilD : PK C.X [] (TAX C m nilA) := ⟨fun pos pins s σ H Q I h => pk_nil.run pos pins s σ H Q I (tax_nil h)⟩
theorem pk_consD {nm : Option Str} {e : Expr} {kpos : Pos} {kws : List Keyword} {f : XF} {g : AF} (ha : PE C.X e (TX C m f)) (hr : PK C.X kws (TAX C m g)) : PK C.X (⟨nm, e, kpos⟩ :: kws) (TAX C m (consA f g)) :=
  ⟨fun pos pins s σ H Q I h => (pk_cons ha hr).run pos pins s σ H Q I (tax_cons h)⟩
theorem x_callK {x : Str} {k n : Nat} {ks : List Str} {π : List Nat} {f : MF} {px : Pos} {kws : List Keyword} {g : AF} (O : CtxOk C) (G : FnK C.X.prog C.X.w C.X.K C.X.mg C.X.base C.T k x n ks π f) (hn : ∀ ds r o, f ds = some (r, o) → ds.length = n) (hr : Room k C.X.A) (hg : Gl C.X x)
    (ha : PK C.X kws (TAX C true g)) (hall : (backToKw pos (keywordEach kws C.X.env)).all (·.1.isSome) = true := by rfl) (hks : (backToKw pos (keywordEach kws C.X.env)).filterMap (·.1) = ks := by rfl) (hdb : (x == ("__debug__" : Str)) = false := by decide)
    (hpl : ((backTo pos (starEach [] C.X.env)).any (·.1) || (backToKw pos (keywordEach kws C.X.env)).any (·.1.isNone)) = false := by rfl) :
    PE C.X (.Call (.Name x px) [] kws pos) (TX C true (xcallK π f g)) := by
  obtain ⟨fd, ps, F, hm, hk, hb⟩ := G.ex
  exact peImp (pe_callK0 F hr hg hm hk hb O.pass ha hall hks hdb hpl) fun σ H Q h => tx_callK hn h
end
end DL

namespace DL
open PySem PySem.Spec PyProof.Rows L2
/-! ### own classes: made, methods -/
/-- the def at f (a method) does what m does -/
structure FnM (P : Program) (w : World) (K : PySem.W.Frag) (mg : Str → Option Value) (base : Heap) (T : List (Addr × Str)) (k : Nat) (f : Addr) (n : Nat) (refs : Bool) (dfl : List D) (m : MF) : Prop where
  ex : ∃ (fd : FuncData) (ps : List Str) (dvs : List V) (ds : List Value), FnOk P w K mg base (L2.CX P w) k f fd ps (spD P w K T n refs m) ∧ Binds K fd ps ds ∧ Vals dvs ds ∧ ∀ F H, reps P w K F H dfl dvs []
section
variable {C : Ctx} {m : Bool} {F F1 F' : FS} {H H1 H' : Hp} {p p1 p' q r : List Addr} {σ : St} {env : Env} {En : Ends} {pos : Pos}
def xmake (c : Str) (f : MF) (dfl : List D) (g : AF) : XF := fun env => match g env with
  | some (.vals as, e1) => (match tmps as with
    | some ds => (match f (.ins true c [] :: (ds ++ dfl)) with
      | some (.val .non, [o]) => some (.val o, e1)
      | some (.exc c fs, [_]) => some (.exc c fs, e1)
      | _ => none)
    | none => none)
  | some (.exc c fs, e1) => some (.exc c fs, e1)
  | none => none
theorem tx_make {c : Str} {f : MF} {dfl : List D} {g : AF} {n : Nat} {dvs : List V} {Q : VK} (hd : ∀ F H, C.reps F H dfl dvs []) (hn : ∀ ds r o, f ds = some (r, o) → ds.length = n) (h : TX C true (xmake c f dfl g) σ H Q) :
    tMake (He.ga C.X.K c) (spD C.X.prog C.X.w C.X.K C.T n true f) dvs C.W (TAX C true g) σ H Q := by
  obtain ⟨F, p, env, rel, r, env', e, post⟩ := h
  refine ⟨F, p, env, rel, ?_⟩
  unfold xmake at e
  split at e
  · rename_i as e1 eg
    refine ⟨_, _, eg, fun vs H1 F1 p1 q1 x1 rel1 ar1 ap1 => ?_⟩
    split at e
    · rename_i ds ed
      intro x dx hx hdx hne
      have rp := reps_snoc (arP_reps ed ar1) (hd F1 H1)
      have g1 : ∀ b o, H1 b = some o → upd (upd H1 dx (.own x)) x (.ins (He.ga C.X.K c) dx []) b = some o := fun b o z => by rw [upd_ne (ne_of_none z hx), upd_ne (ne_of_none z hdx)]; exact z
      have hx1 : upd H1 dx (.own x) x = none := by rw [upd_ne (Ne.symm hne)]; exact hx
      have y1 : Ext true F1 H1 (q1 ++ p1) F1 (upd (upd H1 dx (.own x)) x (.ins (He.ga C.X.K c) dx [])) (x :: (q1 ++ p1)) := (Ext.laid0 hdx).trans (Ext.laid hx1)
      have rel2 := rel1.grow g1
      have th : ∀ a ∈ q1, H1 a ≠ none := fun a ha => ne_of_ow (reps_there rp a ha)
      have rs : C.reps F1 (upd (upd H1 dx (.own x)) x (.ins (He.ga C.X.K c) dx [])) (.ins true c [] :: (ds ++ dfl)) (.ref x :: (vs ++ dvs)) (x :: q1) :=
        ⟨.ref x, vs ++ dvs, [x], q1, rfl, ⟨x, dx, [], [], rfl, ⟨rfl, rfl⟩, upd_same, rfl⟩, reps_mono rp ⟨fun _ h => h, fun b o z _ _ => g1 b o z⟩, rfl⟩
      have nx : ¬ F1 x := fun z => rel1.trk x z hx
      have nd : (x :: q1).Nodup := List.nodup_cons.mpr ⟨fun z => th x z hx, ap1.nd⟩
      have nF0 : ∀ a ∈ x :: q1, ¬ F1 a := fun a ha => (List.mem_cons.mp ha).elim (fun z => by rw [z]; exact nx) (ap1.fr a)
      have sep : ∀ a ∈ p1, a ∉ x :: q1 := fun a ha z => (List.mem_cons.mp z).elim (fun z => rel1.there a ha (by rw [z]; exact hx)) fun z => ap1.dis a z ha
      split at e
      · rename_i o em
        cases e
        refine ⟨F1, x :: q1, _, by rw [← reps_len rs]; exact hn _ _ _ em, rs, nd, nF0, rel2.trk, rel2.tabs, _, _, em, fun v H2 F2 q2 qo x2 tabs trk rp3 ro nd2 nF => ?_⟩
        obtain ⟨rfl, rfl⟩ := rp3
        obtain ⟨v3, ws, qa, qb, e3, ro3, ⟨rfl, rfl⟩, hq⟩ := ro
        rw [List.append_nil] at hq
        obtain rfl := hq
        obtain rfl : v3 = .ref x := by
          have z : [V.ref x] = [v3] := e3
          cases z
          rfl
        have x2' : Ext true F1 _ (x :: q1) F2 H2 qo := x2
        have rel3 := rel2.after x2' sep (reps_there rs) nF0 tabs trk
        refine ⟨rfl, post (.ref x) H2 F2 p1 qo ((x1.trans y1).trans ?_) rel3 ro3 ⟨nd2, fun a ha hp => (x2'.own a ha).elim (sep a hp) (rel2.there a hp), nF⟩⟩
        have z := x2'.beside [] p1
        exact z
      · rename_i c2 fs o em
        cases e
        refine ⟨F1, x :: q1, _, by rw [← reps_len rs]; exact hn _ _ _ em, rs, nd, nF0, rel2.trk, rel2.tabs, _, _, em, fun dx2 H2 F2 qo x2 tabs trk ro nd2 nF ed => ?_⟩
        have rel3 := rel2.after x2 sep (reps_there rs) nF0 tabs trk
        refine post dx2 H2 F2 p1 (((x1.trans y1).trans (x2.beside [] p1)).sub fun a h => List.mem_append_right _ h) rel3 ed
      · cases e
    · cases e
  · rename_i c fs e1 eg
    cases e
    exact ⟨_, _, eg, post⟩
  · cases e
theorem x_make {c x : Str} {f0 : Addr} {k n : Nat} {dfl : List D} {f : MF} {px : Pos} {e : Expr} {es : List Expr} {g : AF} (O : CtxOk C) (M : Mk C.X.K (He.ga C.X.K c) f0) (G : FnM C.X.prog C.X.w C.X.K C.X.mg C.X.base C.T k f0 n true dfl f) (hn : ∀ ds r o, f ds = some (r, o) → ds.length = n) (hr : Room (k + 1) C.X.A)
    (hg : Gl C.X x) (hm : C.X.mg x = some (.ref (He.ga C.X.K c)))
    (ha : PA C.X (e :: es) (TAX C true g)) (hdb : (x == ("__debug__" : Str)) = false := by decide) (he : starEach (e :: es) C.X.env = (false, eval e C.X.env) :: starEach es C.X.env := by rfl) (hpl : (backTo pos (starEach es C.X.env)).any (·.1) = false := by rfl) :
    PE C.X (.Call (.Name x px) (e :: es) [] pos) (TX C true (xmake c f dfl g)) := by
  obtain ⟨fd, ps, dvs, ds, F, hb, hd, hv⟩ := G.ex
  exact peImp (pe_make M F hr hg hm hb hd O.pass ha hdb he hpl) fun σ H Q h => tx_make hv hn h
end
end DL

namespace DL
open PySem PySem.Spec PyProof.Rows L2
section
variable {C : Ctx} {m : Bool} {F F1 F' : FS} {H H1 H' : Hp} {p p1 p' q r : List Addr} {σ : St} {env : Env} {En : Ends} {pos : Pos}
/-! ### e.f a property, e.m(..) a method, the object frozen by the look -/
def xprop (c : Str) (f : MF) (g0 : XF) : XF := fun env => match g0 env with
  | some (.val (.ins o c' fs), e1) => if c' = c then (match f [fz (.ins o c' fs)] with
      | some (.val d, []) => some (.val d, e1)
      | _ => none) else none
  | some (.exc c fs, e1) => some (.exc c fs, e1)
  | _ => none
theorem repF_none {x : Str} : ∀ {fs : List (Str × D)} {gs : List (Str × V)} {q : List Addr}, C.repF F H fs gs q → fs.lookup x = none → gs.lookup x = none
  | [], gs, q, ⟨e, _⟩, _ => by rw [e]; rfl
  | (y, d) :: fs, gs, q, ⟨v, ws, q1, r, e, _, h, _⟩, z => by
    subst e
    rw [List.lookup_cons] at z ⊢
    split at z
    · cases z
    · exact repF_none h z
theorem tx_prop {c : Str} {f : MF} {g0 : XF} {n : Nat} {Q : VK} (hn : ∀ ds r o, f ds = some (r, o) → ds.length = n) (h : TX C true (xprop c f g0) σ H Q) :
    tProp (He.ga C.X.K c) (spD C.X.prog C.X.w C.X.K C.T n false f) [] (fun _ _ _ => False) (TX C true g0) σ H Q := by
  obtain ⟨F, p, env, rel, r, env', e, post⟩ := h
  refine ⟨F, p, env, rel, ?_⟩
  unfold xprop at e
  split at e
  · rename_i o c' fs e1 eg
    refine ⟨_, _, eg, fun v H1 F1 p1 q1 x1 rel1 rp1 ap1 => ?_⟩
    split at e
    · rename_i hc
      subst hc
      split at e
      · rename_i d em
        cases e
        have th : ∀ a ∈ q1, H1 a ≠ none := fun a ha => ne_of_ow (rep_there rp1 a ha)
        have rel2 := rel1.freeze q1 ap1.dis th
        have y1 : Ext true F H p (fun b => F1 b ∨ b ∈ q1) H1 p1 := x1.trans (Ext.freeze (fun a h => .inl (List.mem_append_left _ h)) fun a h => List.mem_append_right _ h)
        have rp2 := rep_fz (F' := fun b => F1 b ∨ b ∈ q1) (fun _ h => .inl h) rp1 fun a h => .inr h
        obtain ⟨a, dx, gs, q, rfl, rf, ow⟩ := rp1
        refine ⟨a, dx, gs, rfl, own_at ow, ?_⟩
        refine ⟨fun b => F1 b ∨ b ∈ q1, [], [fz (.ins o c' fs)], by rw [← hn _ _ _ em]; rfl, ⟨.ref a, [], [], [], rfl, rp2, ⟨rfl, rfl⟩, rfl⟩, List.nodup_nil, (fun a h => absurd h (by simp)), rel2.trk, rel2.tabs, _, _, em, ?_⟩
        intro v H2 F2 q2 qo x2 tabs trk rp3 ro nd nF
        obtain ⟨_, rfl⟩ := ro
        rw [List.append_nil] at x2 nd nF
        have rel3 := rel2.after x2 (fun a ha h => absurd h (by simp)) (fun a h => absurd h (by simp)) (fun a h => absurd h (by simp)) tabs trk
        refine post v H2 F2 p1 q2 (y1.trans ?_) rel3 rp3 ⟨nd, fun a ha hp => (x2.own a ha).elim (fun h => absurd h (by simp)) (rel2.there a hp), nF⟩
        have z := x2.beside [] p1
        exact z
      · cases e
    · cases e
  · rename_i c fs e1 eg
    cases e
    exact ⟨_, _, eg, post⟩
  · cases e
theorem x_prop {c x : Str} {pa ga : Addr} {k n : Nat} {f : MF} {e : Expr} {g0 : XF} (cl : Cls C.X.K (He.ga C.X.K c)) (hp : PropOf C.X.K (He.ga C.X.K c) x pa ga) (G : FnM C.X.prog C.X.w C.X.K C.X.mg C.X.base C.T k ga n false [] f) (hn : ∀ ds r o, f ds = some (r, o) → ds.length = n)
    (hr : Room (k + 1) C.X.A) (he : PE C.X e (TX C true g0)) (hab : attributeBase e x C.X.env (eval e C.X.env) = eval e C.X.env := by rfl) : PE C.X (.Attribute e x pos) (TX C true (xprop c f g0)) := by
  obtain ⟨fd, ps, dvs, ds, Fk, hb, hd, hv⟩ := G.ex
  obtain ⟨rfl, _⟩ : dvs = [] ∧ ([] : List Addr) = [] := hv (fun _ => False) fun _ => none
  exact peImp (pe_prop he cl hp Fk hr hb hd (passes_call LamX.takes0 fun _ _ _ _ z => z) hab) fun σ H Q h => tx_prop hn h
def xmeth (c mn : Str) (f : MF) (dfl : List D) (g0 : XF) (g : AF) : XF := fun env => match g0 env with
  | some (.val (.ins o c' fs), e1) => if c' = c ∧ fs.lookup mn = none then (match g e1 with
      | some (.vals as, e2) => (match tmps as with
        | some ds => (match f (fz (.ins o c' fs) :: (fzs ds ++ dfl)) with
          | some (r, []) => some (r, e2)
          | _ => none)
        | none => none)
      | some (.exc c fs, e2) => some (.exc c fs, e2)
      | none => none) else none
  | some (.exc c fs, e1) => some (.exc c fs, e1)
  | _ => none
theorem tx_meth {c mn : Str} {f : MF} {dfl : List D} {g0 : XF} {g : AF} {n : Nat} {dvs : List V} {Q : VK} (hd : ∀ F H, C.reps F H dfl dvs []) (hn : ∀ ds r o, f ds = some (r, o) → ds.length = n) (h : TX C true (xmeth c mn f dfl g0 g) σ H Q) :
    tMeth (He.ga C.X.K c) mn (spD C.X.prog C.X.w C.X.K C.T n false f) dvs C.W (TX C true g0) (TAX C true g) σ H Q := by
  obtain ⟨F, p, env, rel, r, env', e, post⟩ := h
  refine ⟨F, p, env, rel, ?_⟩
  unfold xmeth at e
  split at e
  · rename_i o c' fs e1 eg0
    refine ⟨_, _, eg0, fun v H1 F1 p1 q1 x1 rel1 rp1 ap1 => ?_⟩
    split at e
    · rename_i hc
      obtain ⟨rfl, hlk⟩ := hc
      have th : ∀ a ∈ q1, H1 a ≠ none := fun a ha => ne_of_ow (rep_there rp1 a ha)
      have rel2 := rel1.freeze q1 ap1.dis th
      have y1 : Ext true F H p (fun b => F1 b ∨ b ∈ q1) H1 p1 := x1.trans (Ext.freeze (fun a h => .inl (List.mem_append_left _ h)) fun a h => List.mem_append_right _ h)
      have rp2 := rep_fz (F' := fun b => F1 b ∨ b ∈ q1) (fun _ h => .inl h) rp1 fun a h => .inr h
      obtain ⟨a, dx, gs, q, rfl, rf, ow⟩ := rp1
      refine ⟨a, dx, gs, rfl, own_at ow, repF_none rf hlk, ?_⟩
      refine ⟨fun b => F1 b ∨ b ∈ q1, p1, e1, rel2, ?_⟩
      split at e
      · rename_i as e2 eg
        refine ⟨_, _, eg, fun vs H2 F2 p2 q2 x2 rel3 ar2 ap2 => ?_⟩
        split at e
        · rename_i ds ed
          split at e
          · rename_i r' em
            cases e
            have rs := arP_reps ed ar2
            have th2 : ∀ a ∈ q2, H2 a ≠ none := fun a ha => ne_of_ow (reps_there rs a ha)
            have rel4 := rel3.freeze q2 ap2.dis th2
            have y2 : Ext true F H p (fun b => F2 b ∨ b ∈ q2) H2 p2 := (y1.trans x2).trans (Ext.freeze (fun a h => .inl (List.mem_append_left _ h)) fun a h => List.mem_append_right _ h)
            have rs2 := reps_snoc (reps_fz (F' := fun b => F2 b ∨ b ∈ q2) (fun _ h => .inl h) rs fun a h => .inr h) (hd _ H2)
            have st : Stab (fun b => F1 b ∨ b ∈ q1) (fun b => F2 b ∨ b ∈ q2) H1 H2 [] := by
              have z := x2.stab (q := []) rel2.dis rel2.ow (fun _ a h => absurd h (by simp))
              exact ⟨fun b h => .inl (z.mono b h), z.keep⟩
            have rp4 := rep_mono rp2 st
            have rsA : C.reps (fun b => F2 b ∨ b ∈ q2) H2 (fz (.ins o c' fs) :: (fzs ds ++ dfl)) (.ref a :: (vs ++ dvs)) [] := ⟨.ref a, _, [], [], rfl, rp4, rs2, rfl⟩
            refine ⟨_, [], _, by rw [← reps_len rsA]; exact hn _ _ _ em, rsA, List.nodup_nil, (fun a h => absurd h (by simp)), rel4.trk, rel4.tabs, _, _, em, ?_⟩
            cases r with
            | val d =>
              intro v H3 F3 q3 qo x3 tabs trk rp3 ro nd nF
              obtain ⟨_, rfl⟩ := ro
              rw [List.append_nil] at x3 nd nF
              have rel5 := rel4.after x3 (fun a ha h => absurd h (by simp)) (fun a h => absurd h (by simp)) (fun a h => absurd h (by simp)) tabs trk
              refine post v H3 F3 p2 q3 (y2.trans ?_) rel5 rp3 ⟨nd, fun a ha hp => (x3.own a ha).elim (fun h => absurd h (by simp)) (rel4.there a hp), nF⟩
              have z := x3.beside [] p2
              exact z
            | exc c fs =>
              intro dx H3 F3 qo x3 tabs trk ro nd nF ed
              obtain ⟨_, rfl⟩ := ro
              have rel5 := rel4.after x3 (fun a ha h => absurd h (by simp)) (fun a h => absurd h (by simp)) (fun a h => absurd h (by simp)) tabs trk
              exact post dx H3 F3 p2 (y2.trans (x3.beside [] p2)) rel5 ed
          · cases e
        · cases e
      · rename_i c2 fs2 e2 eg
        cases e
        exact ⟨_, _, eg, fun dx H' F' p' x => post dx H' F' p' (y1.trans x)⟩
      · cases e
    · cases e
  · rename_i c fs e1 eg
    cases e
    exact ⟨_, _, eg, post⟩
  · cases e
theorem x_meth {c mn : Str} {fa : Addr} {k n : Nat} {dfl : List D} {f : MF} {o e : Expr} {es : List Expr} {apos : Pos} {pl : Sem Bool} {g0 : XF} {g : AF} (O : CtxOk C) (cl : Cls C.X.K (He.ga C.X.K c)) (hm : Meth C.X.K (He.ga C.X.K c) mn fa) (G : FnM C.X.prog C.X.w C.X.K C.X.mg C.X.base C.T k fa n false dfl f)
    (hn : ∀ ds r o, f ds = some (r, o) → ds.length = n) (hr : Room k C.X.A) (ho : PE C.X o (TX C true g0)) (ha : PA C.X (e :: es) (TAX C true g))
    (hst : starEach (e :: es) C.X.env = (false, eval e C.X.env) :: starEach es C.X.env := by rfl) (hpl : (backTo pos (starEach es C.X.env)).any (·.1) = false := by rfl)
    (ht : eval (.Call (.Attribute o mn apos) (e :: es) [] pos) C.X.env = (do
      let ov ← eval o C.X.env
      standAt apos.atName
      let (f, first) ← holding [ov] (getMethod ov mn pl)
      callWith pos f first (backTo pos (starEach (e :: es) C.X.env)) (backToKw pos (keywordEach [] C.X.env))) := by rfl) :
    PE C.X (.Call (.Attribute o mn apos) (e :: es) [] pos) (TX C true (xmeth c mn f dfl g0 g)) := by
  obtain ⟨fd, ps, dvs, ds, Fk, hb, hd, hv⟩ := G.ex
  exact peImp (pe_meth ho cl hm Fk hr hb hd O.pass ha hst hpl ht) fun σ H Q h => tx_meth hv hn h
theorem x_meth0 {c mn : Str} {fa : Addr} {k n : Nat} {dfl : List D} {f : MF} {o : Expr} {apos : Pos} {pl : Sem Bool} {g0 : XF} (O : CtxOk C) (cl : Cls C.X.K (He.ga C.X.K c)) (hm : Meth C.X.K (He.ga C.X.K c) mn fa) (G : FnM C.X.prog C.X.w C.X.K C.X.mg C.X.base C.T k fa n false dfl f)
    (hn : ∀ ds r o, f ds = some (r, o) → ds.length = n) (hr : Room k C.X.A) (ho : PE C.X o (TX C true g0))
    (ht : eval (.Call (.Attribute o mn apos) [] [] pos) C.X.env = (do
      let ov ← eval o C.X.env
      standAt apos.atName
      let (f, first) ← holding [ov] (getMethod ov mn pl)
      callWith pos f first (backTo pos (starEach [] C.X.env)) (backToKw pos (keywordEach [] C.X.env))) := by rfl) :
    PE C.X (.Call (.Attribute o mn apos) [] [] pos) (TX C true (xmeth c mn f dfl g0 nilA)) := by
  obtain ⟨fd, ps, dvs, ds, Fk, hb, hd, hv⟩ := G.ex
  exact peImp (pe_meth0 ho cl hm Fk hr hb hd O.pass ht) fun σ H Q h => tx_imp (tx_meth hv hn h) fun v H' ⟨a, dx, fs, e1, e2, e3, z⟩ => ⟨a, dx, fs, e1, e2, e3, tax_nil z⟩
end
end DL

namespace DL
open PySem PySem.Spec PyProof.Rows L2
/-! ### from a def's text to its promise -/
section
variable {P : Program} {w : World} {K : PySem.W.Frag} {mg : Str → Option Value} {base : Heap} {T : List (Addr × Str)} {x qual : Str} {params : Arguments} {body : List Stmt} {scope : Scope} {dvs : List V} {kws : List (Str × V)} {f : Addr} {fd : FuncData} {N ps : List Str} {k n extra : Nat} {refs : Bool} {g : SF}
/-- the body read in its own frame -/
abbrev BodyRd (P : Program) (w : World) (K : PySem.W.Frag) (mg : Str → Option Value) (base : Heap) (T : List (Addr × Str)) (N : List Str) (qual : Str) (scope : Scope) (f : Addr) (k : Nat) (refs : Bool) (body : List Stmt) (g : SF) : Prop :=
  ∀ (cdv : Value) (A : Around) (outer : List PySem.Env) (s : Shared) (H : Hp) (E : XK) (vs : List V), Room k (bodyC P w K mg base T N qual scope f cdv A outer s H E refs vs).X.A →
    PSs (bodyC P w K mg base T N qual scope f cdv A outer s H E refs vs).X body (TSx (bodyC P w K mg base T N qual scope f cdv A outer s H E refs vs) g)
theorem ok_def (F : FunD K x qual params body scope dvs kws f fd) (S : FnScope N ps scope) (hps : ps.length = n) (hN : N.length = n + extra) (hn : refs = true → 0 < n) (hb : BodyRd P w K mg base T N qual scope f k refs body g) :
    FnOk P w K mg base (L2.CX P w) (k + 1) f fd ps (spD P w K T n refs (defn n extra refs g)) := by
  refine F.ok S (fun vs H Q E h => ?_) fun cdv A outer s H vs Q E hr h => ⟨_, hb cdv A outer s H E vs hr, body_keeps hN hn h⟩
  obtain ⟨_, _, _, hl, _⟩ := h
  rw [hl, hps]
theorem fnD_of (F : FunD K x qual params body scope [] [] (He.ga K x) fd) (hm : mg x = some (.ref (He.ga K x))) (S : FnScope N ps scope) (hps : ps.length = n) (hN : N.length = n + extra) (hn : refs = true → 0 < n) (hbi : Binds K fd ps []) (hb : BodyRd P w K mg base T N qual scope (He.ga K x) k refs body g) :
    FnD P w K mg base T (k + 1) x n refs [] (defn n extra refs g) := ⟨fd, ps, [], [], ok_def F S hps hN hn hb, hm, F.kp, hbi, .nil, fun _ _ => ⟨rfl, rfl⟩⟩
theorem fnM_of (F : FunD K x qual params body scope [] [] f fd) (S : FnScope N ps scope) (hps : ps.length = n) (hN : N.length = n + extra) (hn : refs = true → 0 < n) (hbi : Binds K fd ps []) (hb : BodyRd P w K mg base T N qual scope f k refs body g) :
    FnM P w K mg base T (k + 1) f n refs [] (defn n extra refs g) := ⟨fd, ps, [], [], ok_def F S hps hN hn hb, hbi, .nil, fun _ _ => ⟨rfl, rfl⟩⟩
end
end DL

namespace DL
open PySem PySem.Spec PyProof.Rows L2
theorem ru {k n : Nat} {A : Around} (r : Room k A) (h : n ≤ 200) : A.units + n < cLine := by
  have := r.un
  omega
def φLt := φI fun i j => some (.bl (decide (i < j)))
def φLe := φI fun i j => some (.bl (decide (i ≤ j)))
def φGt := φI fun i j => some (.bl (decide (i > j)))
def φGe := φI fun i j => some (.bl (decide (i ≥ j)))
section
variable {C : Ctx} {m : Bool} {pos : Pos}
theorem ok_lt : RdOK C φLt (R2' (rI0 fun i j => .bl (decide (i < j)))) := ok_intB
theorem ok_le : RdOK C φLe (R2' (rI0 fun i j => .bl (decide (i ≤ j)))) := ok_intB
theorem ok_gt : RdOK C φGt (R2' (rI0 fun i j => .bl (decide (i > j)))) := ok_intB
theorem ok_ge : RdOK C φGe (R2' (rI0 fun i j => .bl (decide (i ≥ j)))) := ok_intB
theorem x_chain {op op' : CmpOp} {r1 r2 : R2} {φ1 φ2 : List D → Option D} {a b c : Expr} {oa ob oc : Opd} (ho : OpR C.X (compareOp op) r1) (k1 : RdOK C φ1 (R2' r1)) (ho' : OpR C.X (compareOp op') r2) (k2 : RdOK C φ2 (R2' r2)) (ha : PE C.X a (tO C m oa)) (hb : PE C.X b (tO C m ob)) (hc : PE C.X c (tO C m oc))
    (hm : lastMarks [op, op'] [b, c] = false := by with_unfolding_all rfl) : PE C.X (.Compare a [op, op'] [b, c] pos) (TX C m (xchain oa ob oc φ1 φ2)) :=
  peImp (pe_chain ho ho' ha hb hc hm) fun _ _ _ h => chain_ok k1 k2 h
end
end DL

namespace DL
open PySem PySem.Spec PyProof.Rows L2
/-! ### facts of errors, in one -/
/-- the error class c of the program, without an own __init__ -/
structure ExP (K : PySem.W.Frag) (mg : Str → Option Value) (c : Str) : Prop where
  ex : PySem.W.excIn K (He.ga K c) [.type "ValueError", .type "Exception", .type "BaseException", .type "object"] "ValueError.__new__" = true
  g : mg c = some (.ref (He.ga K c))
  k : PySem.W.keepIn K (.ref (He.ga K c)) = true
  h1 : PySem.W.subIn K (.ref (He.ga K c)) (.type "BaseException") = some true
  h2 : PySem.W.typeIn K (.ref (He.ga K c)) = some (.type "type")
/-- the error class c of the program, its __init__ keeping what it is given in the field f -/
structure ExO (P : Program) (w : World) (K : PySem.W.Frag) (mg : Str → Option Value) (base : Heap) (c f : Str) : Prop where
  ex : ∃ (Dc fI : Addr) (fd : FuncData) (p : Str), SupC K (He.ga K c) Dc f ∧ PySem.W.findIn K (.ref (He.ga K c)) "__init__" = some (some (.ref fI)) ∧ PySem.W.typeIn K (.ref fI) = some (.type "function") ∧
    FnOk P w K mg base (L2.CX P w) 1 fI fd ["self", p] (spSup K Dc f) ∧ Binds K fd ["self", p] []
  g : mg c = some (.ref (He.ga K c))
/-- a name that is seen here: its own, a cell, a captured one -/
theorem vis {sc : Scope} {x : Str} (h : Vis sc x := by first | exact .inl rfl | exact .inr (.inl rfl) | exact .inr (.inr rfl)) : Vis sc x := h
section
variable {C : Ctx} {pos : Pos}
theorem s_raiseP {c msg : Str} {j : Nat} {p0 p2 pos' : Pos} (O : CtxOk C) (E : ExP C.X.K C.X.mg c) (hg : Gl C.X c) (hdb : (c == ("__debug__" : Str)) = false := by decide) :
    PS C.X (.Raise (some (.Call (.Name c p0) [.Constant (.str msg) j p2] [] pos)) none pos') (TSx C (sraise c)) := s_raise O F.excBase_ValueError E.ex E.g E.k E.h1 E.h2 hg hdb
theorem s_raiseX {c f : Str} {g : AF} {ea : Expr} {es : List Expr} {p0 pos' : Pos} {k : Nat} (O : CtxOk C) (E : ExO C.X.prog C.X.w C.X.K C.X.mg C.X.base c f) (hr : Room (k + 2) C.X.A) (hg : Gl C.X c) (ha : PA C.X (ea :: es) (TAX C true g))
    (hdb : (c == ("__debug__" : Str)) = false := by decide) (he : starEach (ea :: es) C.X.env = (false, eval ea C.X.env) :: starEach es C.X.env := by rfl) (hpl : (backTo pos (starEach es C.X.env)).any (·.1) = false := by rfl) :
    PS C.X (.Raise (some (.Call (.Name c p0) (ea :: es) [] pos)) none pos') (TSx C (sraiseO c f g)) := by
  obtain ⟨Dc, fI, fd, p, S, iC, tI, F1, hb⟩ := E.ex
  exact s_raiseO O S iC tI F1 (hr.mono (by omega)) hb hg E.g ha hdb he hpl
end
end DL

namespace DL
open PySem PySem.Spec PyProof.Rows L2
/-! ### facts of classes, in one -/
/-- the property x of the class c -/
structure PropD (P : Program) (w : World) (K : PySem.W.Frag) (mg : Str → Option Value) (base : Heap) (T : List (Addr × Str)) (k : Nat) (c x : Str) (m : MF) : Prop where
  cl : Cls K (He.ga K c)
  ex : ∃ pa ga : Addr, PropOf K (He.ga K c) x pa ga ∧ FnM P w K mg base T k ga 1 false [] m
/-- the method x of the class c; n: its parameters, self among them -/
structure MethD (P : Program) (w : World) (K : PySem.W.Frag) (mg : Str → Option Value) (base : Heap) (T : List (Addr × Str)) (k : Nat) (c x : Str) (n : Nat) (dfl : List D) (m : MF) : Prop where
  cl : Cls K (He.ga K c)
  ex : ∃ fa : Addr, Meth K (He.ga K c) x fa ∧ FnM P w K mg base T k fa n false dfl m
/-- the class c is made by its own __init__ -/
structure MakeD (P : Program) (w : World) (K : PySem.W.Frag) (mg : Str → Option Value) (base : Heap) (T : List (Addr × Str)) (k : Nat) (c : Str) (n : Nat) (dfl : List D) (m : MF) : Prop where
  g : mg c = some (.ref (He.ga K c))
  ex : ∃ fa : Addr, Mk K (He.ga K c) fa ∧ FnM P w K mg base T k fa n true dfl m
section
variable {C : Ctx} {pos : Pos}
/-- an operand that is computed -/
theorem x_e {m : Bool} {e : Expr} {f : XF} (h : PE C.X e (TX C m f)) : PE C.X e (tO C m (.e f)) := h
theorem x_propD {c x : Str} {k : Nat} {f : MF} {e : Expr} {g0 : XF} (E : PropD C.X.prog C.X.w C.X.K C.X.mg C.X.base C.T k c x f) (hn : ∀ ds r o, f ds = some (r, o) → ds.length = 1) (hr : Room (k + 1) C.X.A) (he : PE C.X e (TX C true g0))
    (hab : attributeBase e x C.X.env (eval e C.X.env) = eval e C.X.env := by rfl) : PE C.X (.Attribute e x pos) (TX C true (xprop c f g0)) := by
  obtain ⟨pa, ga, hp, G⟩ := E.ex
  exact x_prop E.cl hp G hn hr he hab
theorem x_methD {c mn : Str} {k n : Nat} {dfl : List D} {f : MF} {o e : Expr} {es : List Expr} {apos : Pos} {pl : Sem Bool} {g0 : XF} {g : AF} (O : CtxOk C) (E : MethD C.X.prog C.X.w C.X.K C.X.mg C.X.base C.T k c mn n dfl f) (hn : ∀ ds r o, f ds = some (r, o) → ds.length = n) (hr : Room k C.X.A)
    (ho : PE C.X o (TX C true g0)) (ha : PA C.X (e :: es) (TAX C true g))
    (hst : starEach (e :: es) C.X.env = (false, eval e C.X.env) :: starEach es C.X.env := by rfl) (hpl : (backTo pos (starEach es C.X.env)).any (·.1) = false := by rfl)
    (ht : eval (.Call (.Attribute o mn apos) (e :: es) [] pos) C.X.env = (do
      let ov ← eval o C.X.env
      standAt apos.atName
      let (f, first) ← holding [ov] (getMethod ov mn pl)
      callWith pos f first (backTo pos (starEach (e :: es) C.X.env)) (backToKw pos (keywordEach [] C.X.env))) := by rfl) :
    PE C.X (.Call (.Attribute o mn apos) (e :: es) [] pos) (TX C true (xmeth c mn f dfl g0 g)) := by
  obtain ⟨fa, hm, G⟩ := E.ex
  exact x_meth O E.cl hm G hn hr ho ha hst hpl ht
theorem x_methD0 {c mn : Str} {k n : Nat} {dfl : List D} {f : MF} {o : Expr} {apos : Pos} {pl : Sem Bool} {g0 : XF} (O : CtxOk C) (E : MethD C.X.prog C.X.w C.X.K C.X.mg C.X.base C.T k c mn n dfl f) (hn : ∀ ds r o, f ds = some (r, o) → ds.length = n) (hr : Room k C.X.A) (ho : PE C.X o (TX C true g0))
    (ht : eval (.Call (.Attribute o mn apos) [] [] pos) C.X.env = (do
      let ov ← eval o C.X.env
      standAt apos.atName
      let (f, first) ← holding [ov] (getMethod ov mn pl)
      callWith pos f first (backTo pos (starEach [] C.X.env)) (backToKw pos (keywordEach [] C.X.env))) := by rfl) :
    PE C.X (.Call (.Attribute o mn apos) [] [] pos) (TX C true (xmeth c mn f dfl g0 nilA)) := by
  obtain ⟨fa, hm, G⟩ := E.ex
  exact x_meth0 O E.cl hm G hn hr ho ht
theorem x_makeD {c : Str} {k n : Nat} {dfl : List D} {f : MF} {px : Pos} {e : Expr} {es : List Expr} {g : AF} (O : CtxOk C) (E : MakeD C.X.prog C.X.w C.X.K C.X.mg C.X.base C.T k c n dfl f) (hn : ∀ ds r o, f ds = some (r, o) → ds.length = n) (hr : Room (k + 1) C.X.A) (hg : Gl C.X c)
    (ha : PA C.X (e :: es) (TAX C true g)) (hdb : (c == ("__debug__" : Str)) = false := by decide) (he : starEach (e :: es) C.X.env = (false, eval e C.X.env) :: starEach es C.X.env := by rfl) (hpl : (backTo pos (starEach es C.X.env)).any (·.1) = false := by rfl) :
    PE C.X (.Call (.Name c px) (e :: es) [] pos) (TX C true (xmake c f dfl g)) := by
  obtain ⟨fa, M, G⟩ := E.ex
  exact x_make O M G hn hr hg E.g ha hdb he hpl
end
end DL

namespace DL
open PySem PySem.Spec PyProof.Rows L2
/-! ### defs that make lambdas: their code object is known -/
section
variable {P : Program} {w : World} {K : PySem.W.Frag} {mg : Str → Option Value} {base : Heap} {T : List (Addr × Str)} {x qual : Str} {params : Arguments} {body : List Stmt} {scope : Scope} {dvs : List V} {kws : List (Str × V)} {f : Addr} {fd : FuncData} {N ps : List Str} {k n extra : Nat} {refs : Bool} {g : SF}
abbrev BodyRdC (P : Program) (w : World) (K : PySem.W.Frag) (mg : Str → Option Value) (base : Heap) (T : List (Addr × Str)) (N : List Str) (qual : Str) (scope : Scope) (f : Addr) (c : Addr) (k : Nat) (refs : Bool) (body : List Stmt) (g : SF) : Prop :=
  ∀ (A : Around) (outer : List PySem.Env) (s : Shared) (H : Hp) (E : XK) (vs : List V), Room k (bodyC P w K mg base T N qual scope f (.ref c) A outer s H E refs vs).X.A →
    PSs (bodyC P w K mg base T N qual scope f (.ref c) A outer s H E refs vs).X body (TSx (bodyC P w K mg base T N qual scope f (.ref c) A outer s H E refs vs) g)
theorem ok_defC {p : Str × Option Str} (F : FunD K x qual params body scope dvs kws f fd) (hp : He.fAd K p = f) (S : FnScope N ps scope) (hps : ps.length = n) (hN : N.length = n + extra) (hn : refs = true → 0 < n) (hb : BodyRdC P w K mg base T N qual scope f (He.codeOf K p) k refs body g) :
    FnOk P w K mg base (L2.CX P w) (k + 1) f fd ps (spD P w K T n refs (defn n extra refs g)) := by
  obtain ⟨oc, od, dV, kV, doc, pm, an, cdv, ct, osl, rfl, lk, hcd, z1, z2⟩ := F.ex
  obtain ⟨c, rfl⟩ := He.codeIn_ref hcd
  have ec : He.codeOf K p = c := He.codeOf_eq (by rw [hp]; exact lk) rfl
  rw [ec] at hb
  refine fn_of lk hcd S (fun vs H Q E h => ?_) fun A outer s H vs Q E hr h => ⟨_, hb A outer s H E vs hr, body_keeps hN hn h⟩
  obtain ⟨_, _, _, hl, _⟩ := h
  rw [hl, hps]
end
/-- the def x(a): y = None; try: a() except e as n: y = n; return y -/
structure CaughtD (K : PySem.W.Frag) (mg : Str → Option Value) (x : Str) (cv : Value) : Prop where
  g : mg x = some (.ref (He.ga K x))
  k : PySem.W.keepIn K (.ref (He.ga K x)) = true
  ex : ∃ (pg : Arguments) (bg : List Stmt) (sg : Scope) (dV kV doc pm cdv ctv oc : Value) (an od : Option Addr) (osl : Array (Option Value)) (Ng : List Str) (a : Str),
    K.lookup (He.ga K x) = some ⟨oc, od, .func (PySem.W.fnOf x x pg bg sg dV kV doc pm an cdv ctv), osl⟩ ∧ PySem.W.codeIn K cdv x = true ∧ L2.Binds K (PySem.W.fnOf x x pg bg sg dV kV doc pm an cdv ctv) [a] [] ∧ FnScope Ng [a] sg ∧ Ng[0]? = some a ∧ Vis sg a ∧
    (∀ (X : Cx) (q : Str), X.K = K → X.mg = mg → LamX.GivesTo X Ng x sg (He.ga K x) cdv bg a q (TTc X.K cv)) ∧ (a == ("__debug__" : Str)) = false ∧ (a == ("__classdict__" : Str)) = false
section
variable {C : Ctx} {pos : Pos}
theorem x_lamD {ct : Str → Option Bool} {f : XF} {cv : Value} {x : Str} {c P : Addr} {k : Nat} {params : Arguments} {body : Expr} {scope : Scope} {p0 lpos : Pos} (hct : ∀ c b, ct c = some b → PySem.W.exmOne C.X.K (.ref (He.ga C.X.K c)) cv = some b)
    (G : CaughtD C.X.K C.X.mg x cv) (hg : Gl C.X x) (TB : LamX.TabB C.X.base C.X.mg c P) (hcode : C.X.env.code = .ref c) (hmT : (P, C.X.env.qual ++ "<lambda>") ∈ C.T) (hu : ∀ p ∈ C.T, p.1 = P → p.2 = C.X.env.qual ++ "<lambda>") (hr : Room (k + 2) C.X.A) (L : LamX.LamS C.X.env.scope scope)
    (hbody : ∀ (A : Around) (outer : List PySem.Env) (s : Shared) (H : Hp) (E : XK) (f0 c' : Addr), Room k (A.deeper (LamX.lamEnv C.X scope s.heap.objs.size f0 c')) → PE (C.lam A outer s H E scope f0 c').X body (TX (C.lam A outer s H E scope f0 c') true f))
    (hdef : defaultsOf params C.X.env = ([], []) := by rfl)
    (hbind : ∀ (q : Str) (cl : List (Str × Addr)) (pm cv ctv : Value), bindArgs (PySem.W.kla_fn "<lambda>" q params body scope cl pm cv ctv) ⟨[], []⟩ = pure [] := by intros; rfl)
    (hdb : (x == ("__debug__" : Str)) = false := by decide) :
    PE C.X (.Call (.Name x p0) [.Lambda params body scope lpos] [] pos) (TX C true (xlam ct f)) := by
  obtain ⟨pg, bg, sg, dV, kV, doc, pm, cdv, ctv, oc, an, od, osl, Ng, a, lk, hcg, hb, Sg, hNg, hva, hG, hd, hcd⟩ := G.ex
  exact x_lam hct hg G.g G.k lk hcg hb Sg hNg hva (hG C.X _ rfl rfl) TB hcode hmT hu hr L hdef hbind hbody hdb hd hcd
end
section
variable {C : Ctx}
theorem t_up {m : Bool} {e : Expr} {f : XF} (h : PT C.X e (TTX C m f)) : PT C.X e (TTX C true f) := ptImp h fun _ _ _ z => tx_dn z
end
end DL

namespace DL
open PySem PySem.Spec PyProof.Rows L2
/-! ### the head: defs found by any path, closures told by names -/
structure DefZ where
  ad : PySem.W.Frag → Addr
  name : Str
  qual : Str
  params : Arguments
  body : List Stmt
  scope : Scope
  dfl : List He.Dv := []
  clo : List Str := []
abbrev FnZ : Type := Option ((Str × Str × Arguments × FuncBody) × Scope × Addr × List Str × Addr)
def fnZ (K : PySem.W.Frag) (d : DefZ) : FnZ := match K.lookup (d.ad K) with
  | some ⟨_, _, .func u, _⟩ => some ((u.name, u.qualname, u.params, u.body), u.scope, u.globals, u.closure.map (·.1), u.builtins)
  | _ => none
def DefZ.val (d : DefZ) : FnZ := some ((d.name, d.qual, d.params, .stmts d.body), d.scope, mainGlobals, d.clo, builtinsNs)
def DefZ.dvs (K : PySem.W.Frag) (d : DefZ) : List V := d.dfl.map (He.Dv.v K)
def DefZ.ok (K : PySem.W.Frag) (d : DefZ) : Bool := match K.lookup (d.ad K) with
  | some ⟨_, _, .func u, _⟩ => PySem.W.keepIn K (.ref (d.ad K)) && (PySem.W.codeIn K u.code d.qual && He.dflB K u.defaults (d.dvs K))
  | _ => false
structure FunZ (K : PySem.W.Frag) (d : DefZ) : Prop where
  kp : PySem.W.keepIn K (.ref (d.ad K)) = true
  ex : ∃ (oc : Value) (od : Option Addr) (dV kV doc pm : Value) (an : Option Addr) (cdv ct : Value) (cl : List (Str × Addr)) (osl : Array (Option Value)),
    K.lookup (d.ad K) = some ⟨oc, od, .func (PySem.W.fnX d.name d.qual d.params d.body d.scope cl dV kV doc pm an cdv ct), osl⟩ ∧ PySem.W.codeIn K cdv d.qual = true ∧ DflV K dV (d.dvs K) ∧ cl.map (·.1) = d.clo
theorem funZ_of {K : PySem.W.Frag} {d : DefZ} (e : fnZ K d = d.val) (c : d.ok K = true) : FunZ K d := by
  unfold DefZ.ok at c
  unfold fnZ at e
  split at c
  · rename_i oc od u osl q
    rw [q] at e
    obtain ⟨kp, c2⟩ := He.ba c
    obtain ⟨k1, k2⟩ := He.ba c2
    obtain ⟨n1, n2, n3, n4, n5, n6, n7, n8, n9, n10, n11, n12, n13, n14, n15⟩ := u
    have e2 : (some ((n1, n2, n3, n4), n5, n6, n7.map (·.1), n15) : FnZ) = some ((d.name, d.qual, d.params, .stmts d.body), d.scope, mainGlobals, d.clo, builtinsNs) := e
    simp only [Option.some.injEq, Prod.mk.injEq] at e2
    obtain ⟨⟨h1, h2, h3, h4⟩, h5, h6, h7, h8⟩ := e2
    subst h1 h2 h3 h4 h5 h6 h8
    exact ⟨kp, oc, od, n8, n9, n10, n11, n12, n13, n14, n7, osl, q, k1, He.dflB_ok k2, h7⟩
  · cases c
theorem FunZ.funD {K : PySem.W.Frag} {d : DefZ} (F : FunZ K d) (h : d.clo = []) : ∃ fd, FunD K d.name d.qual d.params d.body d.scope (d.dvs K) [] (d.ad K) fd := by
  obtain ⟨oc, od, dV, kV, doc, pm, an, cdv, ct, cl, osl, lk, h1, h2, h3⟩ := F.ex
  rw [h] at h3
  cases cl with
  | nil => exact ⟨_, ⟨oc, od, dV, kV, doc, pm, an, cdv, ct, osl, rfl, lk, h1, h2, .inl rfl⟩, F.kp⟩
  | cons z r => cases h3
/-- what is told of the part K of the heap h -/
structure SaysZ (fa : List He.Fa) (zs : List DefZ) (tf : List He.Defn) (ex : PySem.W.Frag → Bool) (h : Heap) (K : PySem.W.Frag) : Prop where
  fa : ∀ f ∈ fa, f.ok K = true
  fn : ∀ d ∈ zs, FunZ K d
  more : ex K = true
  hd : ∀ p ∈ tf, PySem.W.codeHdIn K (He.cT K p).1 (He.cT K p).2 = true
  out : ∀ p ∈ tf, K.lookup (He.cT K p).2 = none
  empty : ∀ p ∈ tf, h.get? (He.cT K p).2 = some { cls := .none, data := .fields #[] }
abbrev AlZ : Type := Bool × List FnZ
def asZ (g : Addr → Option Obj) (n : Nat) : List Addr := cStatics :: He.asD g n
def frZ (g : Addr → Option Obj) (n : Nat) : PySem.W.Frag := He.frT g (asZ g n)
def obsZ (n : Nat) (fa : List He.Fa) (zs : List DefZ) (tf : List He.Defn) (ex : PySem.W.Frag → Bool) (g : Addr → Option Obj) : AlZ :=
  (((fa.all fun f => f.ok (frZ g n)) && zs.all fun d => d.ok (frZ g n)) && (ex (frZ g n) && He.tabsB g tf (frZ g n)), zs.map (fnZ (frZ g n)))
theorem saysZ_of {n : Nat} {fa : List He.Fa} {zs : List DefZ} {tf : List He.Defn} {ex : PySem.W.Frag → Bool} {h : Heap} (e : obsZ n fa zs tf ex h.get? = (true, zs.map DefZ.val)) : SaysZ fa zs tf ex h (frZ h.get? n) := by
  obtain ⟨e1, e2⟩ := Prod.mk.inj e
  obtain ⟨e3, e4⟩ := He.ba e1
  obtain ⟨e5, e6⟩ := He.ba e3
  obtain ⟨e7, e8⟩ := He.ba e4
  have key : ∀ p ∈ tf, PySem.W.codeHdIn (frZ h.get? n) (He.cT (frZ h.get? n) p).1 (He.cT (frZ h.get? n) p).2 = true ∧ ∃ o, h.get? (He.cT (frZ h.get? n) p).2 = some o ∧ He.emptyTab o = true := fun p hp => by
    obtain ⟨z1, z2⟩ := He.ba (List.all_eq_true.mp e8 p hp)
    refine ⟨z1, ?_⟩
    split at z2
    · rename_i o q
      exact ⟨o, q, z2⟩
    · cases z2
  refine ⟨List.all_eq_true.mp e5, fun d hd => ?_, e7, fun p hp => (key p hp).1, fun p hp => ?_, fun p hp => ?_⟩
  · obtain ⟨i, hi, q⟩ := List.mem_iff_getElem.mp hd
    have a1 : (zs.map (fnZ (frZ h.get? n)))[i]? = (zs.map DefZ.val)[i]? := by rw [e2]
    rw [List.getElem?_map, List.getElem?_map, List.getElem?_eq_getElem hi, q] at a1
    exact funZ_of (Option.some.inj a1) (List.all_eq_true.mp e6 d hd)
  · obtain ⟨_, o, q, z⟩ := key p hp
    exact He.frT_none q z
  · obtain ⟨_, o, q, z⟩ := key p hp
    rw [q, He.emptyTab_eq z]
def hookZ (n : Nat) (fa : List He.Fa) (zs : List DefZ) (tf : List He.Defn) (ex : PySem.W.Frag → Bool) : PySem.W.Hook where
  α := AlZ
  obs := fun s => obsZ n fa zs tf ex s.heap.get?
  val := fun _ => (true, zs.map DefZ.val)
  says := fun _ h => ∃ K : PySem.W.Frag, K.In h ∧ SaysZ fa zs tf ex h K
  of := fun _ _ e => ⟨_, He.frT_in, saysZ_of e⟩
  keeps := fun _ _ _ ⟨K, hK, c⟩ k => ⟨K, PySem.W.Frag.In.keeps hK k, c.fa, c.fn, c.more, c.hd, c.out, fun p hp => k _ _ (c.empty p hp)⟩
theorem obsZ_eq {n : Nat} {fa : List He.Fa} {zs : List DefZ} {tf : List He.Defn} {ex : PySem.W.Frag → Bool} {g : Addr → Option Obj} {s : Shared} (h : ∀ a, g a = s.heap.get? a) : obsZ n fa zs tf ex g = (hookZ n fa zs tf ex).obs s := by
  rw [show g = s.heap.get? from funext h]
  rfl
/-! ### facts of classes -/
def gAd (K : PySem.W.Frag) (c x : Str) : Addr := match PySem.W.recIn K (He.ma K (He.ga K c) x) "property" with
  | some (.ref g :: _) => g
  | _ => 0
def propB (K : PySem.W.Frag) (c x : Str) : Bool := He.eqO (PySem.W.findIn K (.ref (He.ga K c)) x) (some (some (.ref (He.ma K (He.ga K c) x)))) &&
  (He.eqO (PySem.W.specialIn K (.ref (He.ma K (He.ga K c) x)) "__get__") (some (some (.builtin "property.__get__"))) && (decide (PySem.W.takesIn K (.ref (He.ma K (He.ga K c) x)) = some true) &&
    (match PySem.W.recIn K (He.ma K (He.ga K c) x) "property" with
      | some (.ref _ :: _) => true
      | _ => false)))
theorem propB_ok {K : PySem.W.Frag} {c x : Str} (h : propB K c x = true) : PropOf K (He.ga K c) x (He.ma K (He.ga K c) x) (gAd K c x) := by
  obtain ⟨h1, h⟩ := He.ba h
  obtain ⟨h2, h⟩ := He.ba h
  obtain ⟨h3, h4⟩ := He.ba h
  refine ⟨He.eqO_ok h1, He.eqO_ok h2, of_decide_eq_true h3, ?_⟩
  unfold gAd
  split at h4
  · rename_i g r q
    rw [q]
    exact ⟨r, rfl⟩
  · cases h4
def insB (K : PySem.W.Frag) (c : Str) : Bool := He.eqO (PySem.W.findIn K (.ref (He.ga K c)) "__class__") (some (some (.builtin "object.__class__"))) &&
  (He.eqO (PySem.W.specialIn K (.builtin "object.__class__") "__get__") (some (some (.builtin "getset_descriptor.__get__"))) && (decide (PySem.W.takesIn K (.builtin "object.__class__") = some true) &&
    decide (PySem.W.mroIn K (He.ga K c) (.type "object") = some true)))
theorem insB_ok {K : PySem.W.Frag} {c : Str} (hc : Cls K (He.ga K c)) (h : insB K c = true) : InsI K (He.ga K c) := by
  obtain ⟨h1, h⟩ := He.ba h
  obtain ⟨h2, h⟩ := He.ba h
  obtain ⟨h3, h4⟩ := He.ba h
  exact ⟨hc, He.eqO_ok h1, He.eqO_ok h2, of_decide_eq_true h3, of_decide_eq_true h4⟩
def excB (K : PySem.W.Frag) (c : Str) : Bool := (He.eqO (PySem.W.findIn K (.ref (He.ga K c)) "__getattribute__") (some (some (.builtin "BaseException.__getattribute__"))) && (He.eqO (PySem.W.findIn K (.ref (He.ga K c)) "__getattr__") (some none) &&
  (decide (PySem.W.subIn K (.ref (He.ga K c)) (.type "BaseException") = some true) && PySem.W.hasDictIn K (He.ga K c)))) && insB K c
theorem excB_ok {K : PySem.W.Frag} {c : Str} (h : excB K c = true) : ExcC K (He.ga K c) := by
  obtain ⟨h, h5⟩ := He.ba h
  obtain ⟨h1, h⟩ := He.ba h
  obtain ⟨h2, h⟩ := He.ba h
  obtain ⟨h3, h4⟩ := He.ba h
  obtain ⟨k1, k⟩ := He.ba h5
  obtain ⟨k2, k⟩ := He.ba k
  obtain ⟨k3, k4⟩ := He.ba k
  exact ⟨He.eqO_ok h1, He.eqO_ok h2, of_decide_eq_true h3, h4, He.eqO_ok k1, He.eqO_ok k2, of_decide_eq_true k3, of_decide_eq_true k4⟩
def kitB (K : PySem.W.Frag) (tb : List (Ty × Ty × Bool)) : Bool := tb.all fun x => decide (PySem.W.kitOne K (x.1.val K) (x.2.1.val K) = some x.2.2)
theorem kitB_ok {K : PySem.W.Frag} {tb : List (Ty × Ty × Bool)} (h : kitB K tb = true) : ∀ x ∈ tb, PySem.W.kitOne K (x.1.val K) (x.2.1.val K) = some x.2.2 := fun x hx => of_decide_eq_true (List.all_eq_true.mp h x hx)
/-! ### own errors -/
def oexB (K : PySem.W.Frag) (C : Addr) : Bool := match K.lookup C with
  | some ⟨.type t, _, .cls cd, sl⟩ => (match cd.mro, sl.toList with
    | .ref C' :: bm, [_, _, _, _, some (.builtin n), _] => (decide (t = "type") && decide (C' = C)) && ((decide (n = "ValueError.__new__") && !cd.hasDel) && (cd.hasDict && PySem.HandSPX.refsVE bm))
    | _, _ => false)
  | _ => false
theorem oexB_ok {K : PySem.W.Frag} {C : Addr} (h : oexB K C = true) : ∃ nm q N bs bm sn sub ab col dd k0 k1 k2 k3 k5, K.lookup C = some (excClassObj nm q C N bs bm true sn sub ab col dd k0 k1 k2 k3 k5 "ValueError.__new__") ∧ PySem.HandSPX.refsVE bm = true := by
  unfold oexB at h
  split at h
  · rename_i t dd cd sl lk
    split at h
    · rename_i C' bm k0 k1 k2 k3 n k5 em es
      obtain ⟨h1, h2⟩ := He.ba h
      obtain ⟨h3, h4⟩ := He.ba h1
      obtain ⟨h5, h6⟩ := He.ba h2
      obtain ⟨h7, h8⟩ := He.ba h5
      obtain ⟨h9, h10⟩ := He.ba h6
      have e1 := of_decide_eq_true h3
      have e2 := of_decide_eq_true h4
      have e3 := of_decide_eq_true h7
      have e4 : cd.hasDel = false := by simpa using h8
      obtain ⟨nm, bs, mro, ns, qn, hd, sn, sub, ab, col, del⟩ := cd
      have em' : mro = .ref C' :: bm := em
      have e4' : del = false := e4
      have e9 : hd = true := h9
      have e5 : sl = #[k0, k1, k2, k3, some (.builtin n), k5] := by
        obtain ⟨l⟩ := sl
        have z : l = [k0, k1, k2, k3, some (.builtin n), k5] := es
        rw [z]
      rw [em', e4', e9, e5, e1, e2, e3] at lk
      exact ⟨nm, qn, ns, bs, bm, sn, sub, ab, col, dd, k0, k1, k2, k3, k5, lk, h10⟩
    · cases h
  · cases h
def supB (K : PySem.W.Frag) (c d f : Str) : Bool := (((oexB K (He.ga K c) && He.eqO (PySem.W.findIn K (.ref (He.ga K c)) "__setattr__") (some (some (.builtin "object.__setattr__")))) && (decide (PySem.W.subIn K (.ref (He.ga K c)) (.type "BaseException") = some true) &&
  (decide (PySem.W.typeIn K (.ref (He.ga K c)) = some (.type "type")) && PySem.W.keepIn K (.ref (He.ga K c))))) && ((PySem.W.excInitIn K (He.ga K c) [.type "ValueError", .type "Exception", .type "BaseException", .type "object"] "ValueError.__new__" &&
    decide (PySem.W.subIn K (.ref (He.ga K c)) (.type "ValueError") = some true)) && (decide (PySem.W.mroIn K (He.ga K c) (.ref (He.ga K d)) = some true) &&
      (He.eqO (PySem.W.ks_superIn K (He.ga K c) (He.ga K d) "__init__") (some (some (.builtin "ValueError.__init__"))) && He.eqO (PySem.W.findIn K (.ref (He.ga K c)) f) (some none))))) &&
        (He.eqO (PySem.W.findIn K (.ref (He.ga K c)) "__init__") (some (some (.ref (He.ma K (He.ga K d) "__init__")))) && decide (PySem.W.typeIn K (.ref (He.ma K (He.ga K d) "__init__")) = some (.type "function")))
theorem supB_ok {K : PySem.W.Frag} {c d f : Str} (h : supB K c d f = true) : SupC K (He.ga K c) (He.ga K d) f ∧ PySem.W.findIn K (.ref (He.ga K c)) "__init__" = some (some (.ref (He.ma K (He.ga K d) "__init__"))) ∧ PySem.W.typeIn K (.ref (He.ma K (He.ga K d) "__init__")) = some (.type "function") := by
  obtain ⟨h, k⟩ := He.ba h
  obtain ⟨k1, k2⟩ := He.ba k
  obtain ⟨h, g⟩ := He.ba h
  obtain ⟨h1, h2⟩ := He.ba h
  obtain ⟨h3, h4⟩ := He.ba h1
  obtain ⟨h5, h6⟩ := He.ba h2
  obtain ⟨h7, h8⟩ := He.ba h6
  obtain ⟨g1, g2⟩ := He.ba g
  obtain ⟨g3, g4⟩ := He.ba g1
  obtain ⟨g5, g6⟩ := He.ba g2
  obtain ⟨g7, g8⟩ := He.ba g6
  exact ⟨⟨⟨oexB_ok h3, He.eqO_ok h4, of_decide_eq_true h5, of_decide_eq_true h7, h8⟩, g3, of_decide_eq_true g4, of_decide_eq_true g5, He.eqO_ok g7, He.eqO_ok g8⟩, He.eqO_ok k1, of_decide_eq_true k2⟩
/-- the __init__ of the class d says super() -/
def iniB (file : Str) (K : PySem.W.Frag) (d : Str) : Bool := (match K.lookup (He.ma K (He.ga K d) "__init__") with
  | some ⟨_, _, .func u, _⟩ => (match u.code, u.closure with
    | .ref cda, [(_, cc)] => (match K.lookup cda with
      | some ⟨_, _, .fields vs, _⟩ => (match (vs[2]? : Option Value) with
        | some (.str y _) => file == y
        | _ => false)
      | _ => false) && (match K.lookup cc with
      | some ⟨_, _, .cell (some (.ref D)), _⟩ => decide (D = He.ga K d)
      | _ => false)
    | _, _ => false)
  | _ => false) && ((PySem.W.clsIn K (He.ga K d)).isSome && He.eqO (PySem.W.nsIn K cStatics "thirdparty.any") (some none))
structure IniZ (file : Str) (K : PySem.W.Frag) (d : Str) (fI : Addr) (cdv : Value) (cl : List (Str × Addr)) : Prop where
  code : ∃ cda ccl cdd vs ccs y tf, cdv = .ref cda ∧ K.lookup cda = some ⟨ccl, cdd, .fields vs, ccs⟩ ∧ vs[2]? = some (.str y tf) ∧ (file == y) = true
  cell : ∃ n cc ccl cdd csl, cl = [(n, cc)] ∧ K.lookup cc = some ⟨ccl, cdd, .cell (some (.ref (He.ga K d))), csl⟩
theorem iniB_ok {file : Str} {K : PySem.W.Frag} {d : Str} (h : iniB file K d = true) : (∀ oc od u osl, K.lookup (He.ma K (He.ga K d) "__init__") = some ⟨oc, od, .func u, osl⟩ → IniZ file K d (He.ma K (He.ga K d) "__init__") u.code u.closure) ∧ (∃ cd, PySem.W.clsIn K (He.ga K d) = some cd) ∧ PySem.W.nsIn K cStatics "thirdparty.any" = some none := by
  obtain ⟨h1, h2⟩ := He.ba h
  obtain ⟨h3, h4⟩ := He.ba h2
  refine ⟨fun oc od u osl lk => ?_, Option.isSome_iff_exists.mp h3, He.eqO_ok h4⟩
  rw [lk] at h1
  have h1' : (match u.code, u.closure with
    | .ref cda, [(_, cc)] => (match K.lookup cda with
      | some ⟨_, _, .fields vs, _⟩ => (match (vs[2]? : Option Value) with
        | some (.str y _) => file == y
        | _ => false)
      | _ => false) && (match K.lookup cc with
      | some ⟨_, _, .cell (some (.ref D)), _⟩ => decide (D = He.ga K d)
      | _ => false)
    | _, _ => false) = true := h1
  split at h1'
  · rename_i cda n cc e1 e2
    obtain ⟨a1, a2⟩ := He.ba h1'
    refine ⟨?_, ?_⟩
    · split at a1
      · rename_i z1 z2 vs z3 q
        split at a1
        · rename_i y tf q2
          exact ⟨cda, _, _, vs, _, y, tf, e1, q, q2, a1⟩
        · cases a1
      · cases a1
    · split at a2
      · rename_i z1 z2 D z3 q
        have e := of_decide_eq_true a2
        subst e
        exact ⟨n, cc, _, _, _, e2, q⟩
      · cases a2
  · cases h1'
end DL

namespace DL
open PySem PySem.Spec PyProof.Rows L2
/-! ### a def of the head, its promise -/
section
variable {P : Program} {w : World} {K : PySem.W.Frag} {mg : Str → Option Value} {base : Heap} {T : List (Addr × Str)} {d : DefZ} {x : Str} {N ps : List Str} {k n extra : Nat} {refs : Bool} {g : SF} {f : Addr}
/-- how arguments by place are bound, none lacking -/
abbrev BindN (d : DefZ) (ps : List Str) : Prop := ∀ (kV doc pm : Value) (an : Option Addr) (cdv ct : Value) (us : List Value), us.length = ps.length → bindArgs (PySem.W.fnOf d.name d.qual d.params d.body d.scope .none kV doc pm an cdv ct) ⟨us, []⟩ = pure (ps.zip us)
theorem plain_z (F : FunZ K d) (hq : d.clo = []) (hd : d.dfl = []) : ∃ fd, FunD K d.name d.qual d.params d.body d.scope [] [] (d.ad K) fd := by
  obtain ⟨fd, F⟩ := F.funD hq
  refine ⟨fd, ?_⟩
  have e : d.dvs K = [] := by
    unfold DefZ.dvs
    rw [hd]
    rfl
  rw [e] at F
  exact F
theorem fnD_z (F : FunZ K d) (hx : d.ad K = He.ga K x) (hm : mg x = some (.ref (He.ga K x))) (hbd : BindN d ps) (S : FnScope N ps d.scope) (hb : BodyRd P w K mg base T N d.qual d.scope (He.ga K x) k refs d.body g)
    (hps : ps.length = n) (hN : N.length = n + extra) (hr : refs = true → 0 < n) (hnm : d.name = x := by rfl) (hq : d.clo = [] := by rfl) (hd : d.dfl = [] := by rfl) : FnD P w K mg base T (k + 1) x n refs [] (defn n extra refs g) := by
  obtain ⟨fd, F⟩ := plain_z F hq hd
  have hbi : Binds K fd ps [] := FunD.bindsN F hbd
  rw [hx, hnm] at F
  exact fnD_of F hm S hps hN hr hbi hb
theorem fnM_z (F : FunZ K d) (hx : d.ad K = f) (hbd : BindN d ps) (S : FnScope N ps d.scope) (hb : BodyRd P w K mg base T N d.qual d.scope f k refs d.body g)
    (hps : ps.length = n) (hN : N.length = n + extra) (hr : refs = true → 0 < n) (hq : d.clo = [] := by rfl) (hd : d.dfl = [] := by rfl) : FnM P w K mg base T (k + 1) f n refs [] (defn n extra refs g) := by
  obtain ⟨fd, F⟩ := plain_z F hq hd
  have hbi : Binds K fd ps [] := FunD.bindsN F hbd
  rw [hx] at F
  exact fnM_of F S hps hN hr hbi hb
/-- one default, the last parameter's: left out -/
theorem fnD_z1 {dv : D} {v : He.Dv} (F : FunZ K d) (hx : d.ad K = He.ga K x) (hm : mg x = some (.ref (He.ga K x)))
    (hbd : ∀ (Tp : Addr) (kV doc pm : Value) (an : Option Addr) (cdv ct : Value) (us its : List Value), us.length + 1 = ps.length → its.length = 1 → ∃ k, bindArgs (PySem.W.fnOf d.name d.qual d.params d.body d.scope (.ref Tp) kV doc pm an cdv ct) ⟨us, []⟩ = seqItems? (.ref Tp) >>= k ∧ k (some its.toArray) = pure (ps.zip (us ++ its)))
    (S : FnScope N ps d.scope) (hb : BodyRd P w K mg base T N d.qual d.scope (He.ga K x) k refs d.body g) (hps : ps.length = n) (hN : N.length = n + extra) (hr : refs = true → 0 < n)
    (hv : ∀ F H, reps P w K F H [dv] [v.v K] []) (hnm : d.name = x := by rfl) (hq : d.clo = [] := by rfl) (hd : d.dfl = [v] := by rfl) (h0 : 0 < n := by decide) : FnD P w K mg base T (k + 1) x n refs [dv] (defn n extra refs g) := by
  obtain ⟨fd, F⟩ := F.funD hq
  have e : d.dvs K = [v.v K] := by
    unfold DefZ.dvs
    rw [hd]
    rfl
  rw [e] at F
  obtain ⟨ds, hds, hbi⟩ := FunD.binds1 (ps := ps) F (n - 1) 0 (List.cons_ne_nil _ _) (by rw [hps]; show n - 1 + 1 = n; omega) fun Tp kV doc pm an cdv ct us its l1 l2 => by
    obtain ⟨k, q1, q2⟩ := hbd Tp kV doc pm an cdv ct us its (by rw [l1, hps]; omega) l2
    exact ⟨k, q1, q2⟩
  have e2 : ([v.v K] : List V).drop 0 = [v.v K] := rfl
  rw [e2] at hds
  rw [hx, hnm] at F
  exact ⟨fd, ps, [v.v K], ds, ok_def F S hps hN hr hb, hm, F.kp, hbi, hds, hv⟩
/-- by keywords alone -/
theorem fnK_z {ks : List Str} {π : List Nat} (F : FunZ K d) (hx : d.ad K = He.ga K x) (hm : mg x = some (.ref (He.ga K x)))
    (hbd : ∀ (kV doc pm : Value) (an : Option Addr) (cdv ct : Value) (ws : List Value), ks.length ≤ ws.length → bindArgs (PySem.W.fnOf d.name d.qual d.params d.body d.scope .none kV doc pm an cdv ct) ⟨[], ks.zip ws⟩ = pure (ps.zip (permL π ws)))
    (hge : ∀ ws : List Value, (permL π ws).length = ps.length → ks.length ≤ ws.length)
    (S : FnScope N ps d.scope) (hb : BodyRd P w K mg base T N d.qual d.scope (He.ga K x) k false d.body g)
    (hps : ps.length = n) (hN : N.length = n + extra) (hnm : d.name = x := by rfl) (hq : d.clo = [] := by rfl) (hd : d.dfl = [] := by rfl) : FnK P w K mg base T (k + 1) x n ks π (defn n extra false g) := by
  obtain ⟨fd, F⟩ := plain_z F hq hd
  have hbi : ∀ ws : List Value, ks.length ≤ ws.length → ∀ s : Shared, BindsTo s fd ⟨[], ks.zip ws⟩ (ps.zip (permL π ws)) := fun ws hl s => by
    obtain ⟨oc, od, dV, kV, doc, pm, an, cdv, ct, osl, rfl, lk, hcd, hD, hK⟩ := F.ex
    rcases hD with ⟨_, rfl⟩ | ⟨e, _⟩
    · exact .of_eq (hbd kV doc pm an cdv ct ws hl)
    · exact absurd rfl e
  rw [hx, hnm] at F
  exact ⟨fd, ps, ok_def F S hps hN (fun z => by cases z) hb, hm, F.kp, ⟨fun s ws hl => hbi ws hl s, hge⟩⟩
/-- the same of the def that makes lambdas (the law) -/
theorem law_z (F : FunZ K d) (hx : d.ad K = He.fAd K (x, none)) (hbd : BindN d ps) (S : FnScope N ps d.scope) (hb : BodyRdC P w K mg base T N d.qual d.scope (He.fAd K (x, none)) (He.codeOf K (x, none)) k refs d.body g)
    (hps : ps.length = n) (hN : N.length = n + extra) (hr : refs = true → 0 < n) (hq : d.clo = [] := by rfl) (hd : d.dfl = [] := by rfl) : ∃ fd, FnOk P w K mg base (L2.CX P w) (k + 1) (He.fAd K (x, none)) fd ps (spD P w K T n refs (defn n extra refs g)) ∧ ∀ (s : Shared) (us : List Value), us.length = ps.length → BindsTo s fd ⟨us, []⟩ (ps.zip us) := by
  obtain ⟨fd, F⟩ := plain_z F hq hd
  have hbi : ∀ (s : Shared) (us : List Value), us.length = ps.length → BindsTo s fd ⟨us, []⟩ (ps.zip us) := FunD.bindsA F hbd
  rw [hx] at F
  exact ⟨fd, ok_defC F rfl S hps hN hr hb, hbi⟩
end
/-! ### own errors -/
section
variable {P : Program} {w : World} {K : PySem.W.Frag} {mg : Str → Option Value} {base : Heap} {c : Str}
theorem exP_z (h : (He.Fa.exc c).ok K = true) (hm : mg c = some (.ref (He.ga K c))) : ExP K mg c := by
  obtain ⟨h1, h2, h3, h4⟩ := He.exc_ok h
  exact ⟨h1, hm, h2, h3, h4⟩
end
end DL

namespace DL
open PySem PySem.Spec PyProof.Rows L2
/-! ### the end of a law's row -/
theorem intsRep {P : Program} {w : World} {K : PySem.W.Frag} {H : Hp} {a : Addr} {ns : List Int} (h : SqL K H a (ns.map V.int)) : ∃ F : FS, (∀ b, F b → H b ≠ none) ∧ reps P w K F H [.scr ns] [.ref a] [] := by
  rcases h with h | h
  · refine ⟨fun b => b = a, fun b e => ?_, .ref a, [], [], [], rfl, ⟨a, rfl, .inl rfl, .inl h, rfl⟩, ⟨rfl, rfl⟩, rfl⟩
    rw [e]
    rcases h with h | ⟨o, h⟩ <;> rw [h] <;> intro z <;> cases z
  · exact ⟨fun _ => False, fun b e => e.elim, .ref a, [], [], [], rfl, ⟨a, rfl, .inr fun H' => .inr h, .inr h, rfl⟩, ⟨rfl, rfl⟩, rfl⟩
/-- the law's def makes lambdas -/
theorem law_atC {l : PySem.W.OpenLaw} {w : World} {K : PySem.W.Frag} {mg : Str → Option Value} {h : Heap} {d : DefZ} {x py q : Str} {N : List Str} {k n extra : Nat} {g : SF} {fa : List He.Fa} {zs : List DefZ} {tf : List He.Defn} {ex : PySem.W.Frag → Bool} {ad : Addr}
    (X : K.In h) (c : SaysZ fa zs tf ex h K) (hd : d ∈ zs) (ht : tf = [(x, none)]) (hx : d.ad K = He.fAd K (x, none)) (hfa : ad = He.fAd K (x, none)) (hbd : BindN d [py]) (S : FnScope N [py] d.scope) (hN : N.length = 1 + extra)
    (hb : ∀ (base : Heap) (T : List (Addr × Str)) (Pt : Addr), LamX.TabB base mg (He.codeOf K (x, none)) Pt → (Pt, q) ∈ T → (∀ p ∈ T, p.1 = Pt → p.2 = q) → BodyRdC l.prog w K mg base T N d.qual d.scope (He.fAd K (x, none)) (He.codeOf K (x, none)) k false d.body g)
    (hm : ∀ ns : List Int, ns.length ≤ n → (∀ z ∈ ns, Builtin.Int.intBits z ≤ 1048576) → defn 1 extra false g [.scr ns] = some (.val (.bl true), []))
    (hq : d.clo = [] := by rfl) (hdf : d.dfl = [] := by rfl) : LamX.LawAtS l w K (L2.CX l.prog w) (k + 1) n py mg ad h := by
  subst ht hfa
  obtain ⟨fd, F⟩ := plain_z (c.fn d hd) hq hdf
  have hbi : ∀ (s : Shared) (us : List Value), us.length = [py].length → BindsTo s fd ⟨us, []⟩ ([py].zip us) := FunD.bindsA F hbd
  rw [hx] at F
  have one : ∀ {p : Addr × Addr}, p ∈ [He.cT K (x, none)] → p = He.cT K (x, none) := fun h => List.mem_singleton.mp h
  refine ⟨fd, [He.cT K (x, none)], spD l.prog w K [((He.cT K (x, none)).2, q)] 1 false (defn 1 extra false g), fun p hp => ?_, fun p hp => ?_, fun p hp => ?_, fun s u => hbi s [u] rfl, fun H a ns hl hbits hT hS => ?_, fun base hK hNs hTB => ?_⟩
  · rw [one hp]
    exact c.empty _ (List.mem_singleton.mpr rfl)
  · rw [one hp]
    exact c.out _ (List.mem_singleton.mpr rfl)
  · rw [one hp]
    exact PySem.W.codeHd_of_K X (c.hd _ (List.mem_singleton.mpr rfl))
  · obtain ⟨F0, trk, rp⟩ := intsRep (P := l.prog) (w := w) hS
    refine ⟨F0, [], [.scr ns], rfl, rp, List.nodup_nil, (fun a h => absurd h (by simp)), trk, fun p hp => ?_, _, _, hm ns hl hbits, fun v H' F' q' qo _ _ _ rv _ _ _ => rv.1⟩
    rw [List.mem_singleton.mp hp]
    exact ⟨#[], hT _ (List.mem_singleton.mpr rfl), trivial, fun p' cv hcv => by cases hcv⟩
  · exact ok_defC F rfl S rfl hN (fun z => by cases z) (hb base _ _ (hTB _ (List.mem_singleton.mpr rfl)) (List.mem_singleton.mpr rfl) fun p hp _ => by rw [List.mem_singleton.mp hp])
theorem cx_false {P : Program} {w : World} {H : Hp} {s : Shared} {e : Value} {s' : Shared} (h : L2.CX P w [] H s (fun _ _ _ => False) e s') : False := by
  obtain ⟨_, _, _, _, _, _, _, _, _, _, _, _, z⟩ := h
  exact z
end DL

namespace DL
open PySem PySem.Spec PyProof.Rows L2
/-! ### a def of two parameters, both handed by reference -/
section
variable (P : Program) (w : World) (K : PySem.W.Frag) (T : List (Addr × Str))
def PostB (vs : List V) (F : FS) (H : Hp) (p : List Addr) (Q : VK) (E : XK) (r : Res) (outs : List D) : Prop :=
  match r with
  | .val d => ∀ v H' F' q qo, Ext true F H p F' H' (q ++ qo) → LamX.Tabs T H' → (∀ a, F' a → H' a ≠ none) → rep P w K F' H' d v q → reps P w K F' H' outs vs qo → (q ++ qo).Nodup → (∀ a ∈ q ++ qo, ¬ F' a) → Q v H'
  | .exc c fs => ∀ dx H' F' qo, Ext true F H p F' H' qo → LamX.Tabs T H' → (∀ a, F' a → H' a ≠ none) → reps P w K F' H' outs vs qo → qo.Nodup → (∀ a ∈ qo, ¬ F' a) →
      ((dx = none ∧ fs = []) ∨ ∃ d gs, dx = some d ∧ F' d ∧ H' d = some (.xd gs) ∧ repF P w K F' H' fs gs []) → E (.ref (He.ga K c)) dx H'
def spB (m : MF) : Sp := fun vs H Q E => ∃ F p ds, vs.length = 2 ∧ reps P w K F H ds vs p ∧ p.Nodup ∧ (∀ a ∈ p, ¬ F a) ∧ (∀ a, F a → H a ≠ none) ∧ LamX.Tabs T H ∧ ∃ r outs, m ds = some (r, outs) ∧ PostB P w K T vs F H p Q E r outs
end
structure FnB (P : Program) (w : World) (K : PySem.W.Frag) (mg : Str → Option Value) (base : Heap) (T : List (Addr × Str)) (k : Nat) (x : Str) (m : MF) : Prop where
  ex : ∃ (fd : FuncData) (ps : List Str), FnOk P w K mg base (L2.CX P w) k (He.ga K x) fd ps (spB P w K T m) ∧ mg x = some (.ref (He.ga K x)) ∧ PySem.W.keepIn K (.ref (He.ga K x)) = true ∧ Binds K fd ps []
def defnB (extra : Nat) (g : SF) : MF := fun ds => match ds with
  | [a, b] => (match g (some a :: some b :: List.replicate extra none) with
    | some (.nx, some o :: some u :: _) => some (.val .non, [o, u])
    | some (.ret d, some o :: some u :: _) => some (.val d, [o, u])
    | some (.exc c fs, some o :: some u :: _) => some (.exc c fs, [o, u])
    | _ => none)
  | _ => none
abbrev bodyB (P : Program) (w : World) (K : PySem.W.Frag) (mg : Str → Option Value) (base : Heap) (T : List (Addr × Str)) (N : List Str) (qual : Str) (scope : Scope) (f : Addr) (cdv : Value) (A : Around) (outer : List PySem.Env) (s : Shared) (H : Hp) (E : XK) (vs : List V) : Ctx where
  X := cxOf (L2.CX P w) P w K mg base N qual scope f cdv A outer s H E
  T := T
  fx := [0, 1]
  fv := fun i => vs.getD i .non
  W := E
section
variable {P : Program} {w : World} {K : PySem.W.Frag} {mg : Str → Option Value} {base : Heap} {T : List (Addr × Str)} {N : List Str} {qual : Str} {scope : Scope} {f : Addr} {cdv : Value} {A : Around} {outer : List PySem.Env} {s : Shared} {H : Hp} {E : XK} {vs : List V} {g : SF} {extra : Nat} {Q : VK}
theorem bodyOkB : CtxOk (bodyB P w K mg base T N qual scope f cdv A outer s H E vs) := ⟨takes_of rfl rfl rfl rfl, rfl⟩
theorem bodyPassB : PassesOwn (model P w) (bodyB P w K mg base T N qual scope f cdv A outer s H E vs).X.A (bodyB P w K mg base T N qual scope f cdv A outer s H E vs).X.env (bodyB P w K mg base T N qual scope f cdv A outer s H E vs).X.xe := passes_of rfl
theorem bodyB_keeps (hN : N.length = 2 + extra) (h : spB P w K T (defnB extra g) vs H Q E) :
    TSx (bodyB P w K mg base T N qual scope f cdv A outer s H E vs) g { nx := fun _ H' => Q .non H', rt := Q } (L2.start N vs) H := by
  obtain ⟨F, p, ds, hl, rp, nd, nF, trk, tabs, r, outs, em, post⟩ := h
  have est : L2.start N vs = vs.map some ++ List.replicate extra none := by
    unfold L2.start
    rw [show N.length - vs.length = extra by omega]
  obtain ⟨v0, v1, ev⟩ : ∃ v0 v1, vs = [v0, v1] := match vs, hl with
    | [a, b], _ => ⟨a, b, rfl⟩
  unfold defnB at em
  split at em
  case h_2 => cases em
  rename_i a b
  have rel0 : Rel (bodyB P w K mg base T N qual scope f cdv A outer s H E vs) (some a :: some b :: List.replicate extra none) (L2.start N vs) F H p := by
    refine ⟨by rw [est]; exact repE_start (C := bodyB P w K mg base T N qual scope f cdv A outer s H E vs) extra rp, nd, nF, trk, tabs, fun i hi => ?_⟩
    rw [est, ev]
    have hi : i ∈ [0, 1] := hi
    rcases List.mem_cons.mp hi with e | hi
    · subst e; rfl
    · have e := List.mem_singleton.mp hi
      subst e; rfl
  refine ⟨F, p, _, rel0, ?_⟩
  have outs_ok : ∀ {o u : D} {rest : DL.Env} {σ' : St} {H' : Hp} {F' : FS} {p' : List Addr}, Rel (bodyB P w K mg base T N qual scope f cdv A outer s H E vs) (some o :: some u :: rest) σ' F' H' p' → ∃ qo, reps P w K F' H' [o, u] vs qo ∧ qo.Nodup ∧ (∀ a ∈ qo, a ∈ p') := fun {o u rest σ' H' F' p'} rel => by
    obtain ⟨x0, σ1, q0, r0, e1, z1, ⟨x1, σ2, q1, r1, e2, z2, z3, hp1⟩, hp0⟩ := rel.slots
    have f0 := rel.fx 0 (by simp)
    have f1 := rel.fx 1 (by simp)
    rw [e1, e2] at f0 f1
    rw [ev] at f0 f1
    have g0 : x0 = v0 := by simpa using f0
    have g1 : x1 = v1 := by simpa using f1
    subst g0 g1
    have n := rel.nd
    rw [hp0, hp1] at n
    refine ⟨q0 ++ q1, by rw [ev]; exact ⟨x0, [x1], q0, q1, rfl, z1, ⟨x1, [], q1, [], rfl, z2, ⟨rfl, rfl⟩, (List.append_nil _).symm⟩, rfl⟩, ?_, fun a ha => ?_⟩
    · rw [← List.append_assoc] at n
      exact (List.nodup_append.mp n).1
    · rw [hp0, hp1, ← List.append_assoc]
      exact List.mem_append_left _ ha
  split at em
  · rename_i o u rest eg
    cases em
    refine ⟨_, _, eg, ?_⟩
    intro σ' H' F' p' x rel
    obtain ⟨qo, ro, n1, n2⟩ := outs_ok rel
    exact post .non H' F' [] qo (x.sub fun a h => n2 a h) rel.tabs rel.trk ⟨rfl, rfl⟩ ro n1 fun a h => rel.dis a (n2 a h)
  · rename_i d o u rest eg
    cases em
    refine ⟨_, _, eg, ?_⟩
    intro v σ' H' F' p' q x rel rp' ap
    obtain ⟨qo, ro, n1, n2⟩ := outs_ok rel
    refine post v H' F' q qo (x.sub fun a h => (List.mem_append.mp h).elim (fun h => List.mem_append_left _ h) fun h => List.mem_append_right _ (n2 a h)) rel.tabs rel.trk rp' ro (List.nodup_append.mpr ⟨ap.nd, n1, fun a ha b hb e => ap.dis a ha (by rw [e]; exact n2 b hb)⟩) fun a h => (List.mem_append.mp h).elim (ap.fr a) fun h => rel.dis a (n2 a h)
  · rename_i c fs o u rest eg
    cases em
    refine ⟨_, _, eg, ?_⟩
    intro dx σ' H' F' p' x rel ed
    obtain ⟨qo, ro, n1, n2⟩ := outs_ok rel
    exact post dx H' F' qo (x.sub n2) rel.tabs rel.trk ro n1 (fun a h => rel.dis a (n2 a h)) ed
  · cases em
end
abbrev BodyRdB (P : Program) (w : World) (K : PySem.W.Frag) (mg : Str → Option Value) (base : Heap) (T : List (Addr × Str)) (N : List Str) (qual : Str) (scope : Scope) (f : Addr) (k : Nat) (body : List Stmt) (g : SF) : Prop :=
  ∀ (cdv : Value) (A : Around) (outer : List PySem.Env) (s : Shared) (H : Hp) (E : XK) (vs : List V), Room k (bodyB P w K mg base T N qual scope f cdv A outer s H E vs).X.A →
    PSs (bodyB P w K mg base T N qual scope f cdv A outer s H E vs).X body (TSx (bodyB P w K mg base T N qual scope f cdv A outer s H E vs) g)
theorem fnB_z {P : Program} {w : World} {K : PySem.W.Frag} {mg : Str → Option Value} {base : Heap} {T : List (Addr × Str)} {d : DefZ} {x : Str} {N ps : List Str} {k extra : Nat} {g : SF} (F : FunZ K d) (hx : d.ad K = He.ga K x) (hm : mg x = some (.ref (He.ga K x))) (hbd : BindN d ps) (S : FnScope N ps d.scope)
    (hb : BodyRdB P w K mg base T N d.qual d.scope (He.ga K x) k d.body g) (hps : ps.length = 2) (hN : N.length = 2 + extra) (hnm : d.name = x := by rfl) (hq : d.clo = [] := by rfl) (hd : d.dfl = [] := by rfl) : FnB P w K mg base T (k + 1) x (defnB extra g) := by
  obtain ⟨fd, F⟩ := plain_z F hq hd
  have hbi : Binds K fd ps [] := FunD.bindsN F hbd
  rw [hx, hnm] at F
  refine ⟨fd, ps, ?_, hm, F.kp, hbi⟩
  refine F.ok S (fun vs H Q E h => ?_) fun cdv A outer s H vs Q E hr h => ⟨_, hb cdv A outer s H E vs hr, bodyB_keeps hN h⟩
  obtain ⟨_, _, _, hl, _⟩ := h
  rw [hl, hps]
section
variable {C : Ctx} {F F1 F' : FS} {H H1 H' : Hp} {p p1 p' q r : List Addr} {σ : St} {env : Env} {pos : Pos}
def xcallB (f : MF) (i j : Nat) : XF := fun env => match env[i]?, env[j]? with
  | some (some a), some (some b) => (match f [a, b] with
    | some (r, [o, u]) => some (r, (env.set i (some o)).set j (some u))
    | _ => none)
  | _, _ => none
theorem tx_callB {f : MF} {i j : Nat} {Q : VK} (hij : i ≠ j) (hj : j ∉ C.fx) (h : TX C true (xcallB f i j) σ H Q) : tCall (spB C.X.prog C.X.w C.X.K C.T f) [] C.W (tCons (tVar i) (tCons (tVar j) tNil)) σ H Q := by
  obtain ⟨F, p, env, rel, res, env', e, post⟩ := h
  unfold xcallB at e
  split at e
  case h_2 => cases e
  rename_i a b ea eb
  split at e
  case h_2 => cases e
  rename_i r' o u em
  cases e
  obtain ⟨v1, l1, q1, r1, h1, h2, h3, h4, _⟩ := repE_at rel.slots eb
  have nd := rel.nd
  rw [h3] at nd
  obtain ⟨n1, n2, n3⟩ := List.nodup_append.mp nd
  obtain ⟨n4, n5, n6⟩ := List.nodup_append.mp n2
  have sub : ∀ a ∈ l1 ++ r1, a ∈ p := fun a h => by
    rw [h3]
    exact (List.mem_append.mp h).elim (fun h => List.mem_append_left _ h) fun h => List.mem_append_right _ (List.mem_append_right _ h)
  have subq : ∀ a ∈ q1, a ∈ p := fun a h => by rw [h3]; exact List.mem_append_right _ (List.mem_append_left _ h)
  have rel1 : Rel C (env.set j none) σ F H (l1 ++ r1) := ⟨h4, List.nodup_append.mpr ⟨n1, n5, fun a ha b hb => n3 a ha b (List.mem_append_right _ hb)⟩, fun a ha => rel.dis a (sub a ha), rel.trk, rel.tabs, rel.fx⟩
  have ap1 : Apart F q1 (l1 ++ r1) := ⟨n4, fun a ha h => by
    rcases List.mem_append.mp h with h | h
    · exact n3 a h a (List.mem_append_left _ ha) rfl
    · exact n6 a ha a h rfl, fun a ha => rel.dis a (subq a ha)⟩
  have ea' : (env.set j none)[i]? = some (some a) := by rw [List.getElem?_set_ne (Ne.symm hij)]; exact ea
  obtain ⟨v0, l0, q0, r0, g1, g2, g3, _, g5⟩ := repE_at rel1.slots ea'
  have y1 : Ext true F H p F H (q1 ++ (l1 ++ r1)) := Ext.refl.sub fun a h => (List.mem_append.mp h).elim (subq a) (sub a)
  have subq0 : ∀ a ∈ q0, a ∈ l1 ++ r1 := fun a h => by rw [g3]; exact List.mem_append_right _ (List.mem_append_left _ h)
  have nd1 := rel1.nd
  rw [g3] at nd1
  have ndq0 := (List.nodup_append.mp (List.nodup_append.mp nd1).2.1).1
  refine ⟨v0, g1, v1, h1, ?_⟩
  have rpa : C.reps F H [a, b] [v0, v1] (q0 ++ q1) := ⟨v0, [v1], q0, q1, rfl, g2, ⟨v1, [], q1, [], rfl, h2, ⟨rfl, rfl⟩, (List.append_nil _).symm⟩, rfl⟩
  have ow1 : ∀ a ∈ q0 ++ q1, ∃ o, H a = some o ∧ Ow o := fun a ha => (List.mem_append.mp ha).elim (rep_there g2 a) (rep_there h2 a)
  refine ⟨F, q0 ++ q1, [a, b], rfl, rpa, List.nodup_append.mpr ⟨ndq0, n4, fun a ha b hb eb => ap1.dis b hb (by rw [← eb]; exact subq0 a ha)⟩,
    fun a h => (List.mem_append.mp h).elim (fun h => rel1.dis a (subq0 a h)) (ap1.fr a), rel.trk, rel.tabs, _, _, em, ?_⟩
  have jl : j < ((env.set j none).set i (some o)).length := by
    rw [List.length_set, List.length_set]
    exact (List.getElem?_eq_some_iff.mp eb).1
  have ee : ((env.set j none).set i (some o)).set j (some u) = (env.set i (some o)).set j (some u) := by
    rw [List.set_comm _ _ (Ne.symm hij), List.set_set]
  cases res with
  | val d =>
    intro v' H2 F2 qr qo x2 tabs trk rp3 ro nd nF
    obtain ⟨w0, ws, qa, qb, e1, ra, rb, hq⟩ := ro
    obtain ⟨w1, e2, rb⟩ := reps_one rb
    have e1 : [v0, v1] = w0 :: ws := e1
    rw [e2] at e1
    cases e1
    subst hq
    obtain ⟨m1, m2, m3⟩ := List.nodup_append.mp nd
    obtain ⟨m4, m5, m6⟩ := List.nodup_append.mp m2
    have x2' : Ext true F H (q0 ++ q1) F2 H2 ((qr ++ qb) ++ qa) := x2.sub fun a h => by
      rcases List.mem_append.mp h with h | h
      · rcases List.mem_append.mp h with h | h
        · exact List.mem_append_left _ h
        · exact List.mem_append_right _ (List.mem_append_right _ h)
      · exact List.mem_append_right _ (List.mem_append_left _ h)
    have nd' : ((qr ++ qb) ++ qa).Nodup := List.nodup_append.mpr ⟨List.nodup_append.mpr ⟨m1, m5, fun a ha b hb => m3 a ha b (List.mem_append_right _ hb)⟩, m4, fun a ha b hb e => by
      rcases List.mem_append.mp ha with ha | ha
      · exact m3 a ha b (List.mem_append_left _ hb) e
      · exact m6 b hb a ha e.symm⟩
    have nF' : ∀ a ∈ (qr ++ qb) ++ qa, ¬ F2 a := fun a h => by
      rcases List.mem_append.mp h with h | h
      · rcases List.mem_append.mp h with h | h
        · exact nF a (List.mem_append_left _ h)
        · exact nF a (List.mem_append_right _ (List.mem_append_right _ h))
      · exact nF a (List.mem_append_right _ (List.mem_append_left _ h))
    obtain ⟨z1, z2, z3⟩ := rel1.lent g1 g3 g5 ap1 x2' ow1 tabs trk ra nd' nF'
    obtain ⟨p4, z4, z5⟩ := z2.put (i := j) (d := u) (v := v1) (q := qb) jl hj rb ⟨m5, fun a ha => z3 a (List.mem_append_right _ ha), fun a ha => nF' a (List.mem_append_left _ (List.mem_append_right _ ha))⟩
    rw [ee, set_same h1] at z4
    refine post v' H2 F2 p4 qr ((y1.trans z1).sub fun a h => ?_) z4 rp3 ⟨m1, fun a ha hp => ?_, fun a ha => nF a (List.mem_append_left _ ha)⟩
    · rcases List.mem_append.mp h with h | h
      · exact List.mem_append_left _ (List.mem_append_left _ h)
      · rcases List.mem_append.mp (z5 a h) with h | h
        · exact List.mem_append_left _ (List.mem_append_right _ h)
        · exact List.mem_append_right _ h
    · rcases List.mem_append.mp (z5 a hp) with h | h
      · exact m3 a ha a (List.mem_append_right _ h) rfl
      · exact z3 a (List.mem_append_left _ ha) h
  | exc c fs =>
    intro dx H2 F2 qo x2 tabs trk ro nd nF ed
    obtain ⟨w0, ws, qa, qb, e1, ra, rb, hq⟩ := ro
    obtain ⟨w1, e2, rb⟩ := reps_one rb
    have e1 : [v0, v1] = w0 :: ws := e1
    rw [e2] at e1
    cases e1
    subst hq
    obtain ⟨m4, m5, m6⟩ := List.nodup_append.mp nd
    have x2' : Ext true F H (q0 ++ q1) F2 H2 (qb ++ qa) := x2.sub fun a h => (List.mem_append.mp h).elim (fun h => List.mem_append_right _ h) fun h => List.mem_append_left _ h
    have nd' : (qb ++ qa).Nodup := List.nodup_append.mpr ⟨m5, m4, fun a ha b hb e => m6 b hb a ha e.symm⟩
    have nF' : ∀ a ∈ qb ++ qa, ¬ F2 a := fun a h => (List.mem_append.mp h).elim (fun h => nF a (List.mem_append_right _ h)) fun h => nF a (List.mem_append_left _ h)
    obtain ⟨z1, z2, z3⟩ := rel1.lent g1 g3 g5 ap1 x2' ow1 tabs trk ra nd' nF'
    obtain ⟨p4, z4, z5⟩ := z2.put (i := j) (d := u) (v := v1) (q := qb) jl hj rb ⟨m5, fun a ha => z3 a ha, fun a ha => nF' a (List.mem_append_left _ ha)⟩
    rw [ee, set_same h1] at z4
    refine post dx H2 F2 p4 ((y1.trans z1).sub fun a h => ?_) z4 ed
    rcases List.mem_append.mp (z5 a h) with h | h
    · exact List.mem_append_left _ h
    · exact List.mem_append_right _ h
theorem x_callB2 {x : Str} {k i j : Nat} {f : MF} {px pe pe2 : Pos} {y z : Str} (O : CtxOk C) (G : FnB C.X.prog C.X.w C.X.K C.X.mg C.X.base C.T k x f) (hr : Room k C.X.A) (hg : Gl C.X x) (hij : i ≠ j) (hj : j ∉ C.fx)
    (hN : C.X.N[i]? = some y) (hv : Vis C.X.env.scope y) (hN2 : C.X.N[j]? = some z) (hv2 : Vis C.X.env.scope z) (hdb : (x == ("__debug__" : Str)) = false := by decide) (hd2 : (y == ("__debug__" : Str)) = false := by decide) (hcd : (y == ("__classdict__" : Str)) = false := by decide) (hd3 : (z == ("__debug__" : Str)) = false := by decide) (hcd3 : (z == ("__classdict__" : Str)) = false := by decide)
    (he : starEach [.Name y pe, .Name z pe2] C.X.env = (false, eval (.Name y pe) C.X.env) :: starEach [.Name z pe2] C.X.env := by rfl) (he2 : starEach [.Name z pe2] C.X.env = (false, eval (.Name z pe2) C.X.env) :: starEach [] C.X.env := by rfl) (hpl : (backTo pos (starEach [.Name z pe2] C.X.env)).any (·.1) = false := by rfl) :
    PE C.X (.Call (.Name x px) [.Name y pe, .Name z pe2] [] pos) (TX C true (xcallB f i j)) := by
  obtain ⟨fd, ps, F, hm, hk, hb⟩ := G.ex
  exact peImp (pe_call (pos := pos) F hr hg hm hk hb .nil O.pass (pa_cons (pe_var (pos := pe) hN hv hd2 hcd) (pa_cons (pe_var (pos := pe2) hN2 hv2 hd3 hcd3) pa_nil he2) he) hdb he hpl) fun σ H Q h => tx_callB hij hj h
end
end DL

namespace DL
open PySem PySem.Spec PyProof.Rows L2
/-! ### a tuple once, no times -/
theorem mulW1 (l : Addr) (items : Array Value) (n : Nat) (dd : Option Addr) (sl : Array (Option Value)) (u : Tok) :
    Meets (Builtin.«tuple.__mul__» ⟨[.ref l, .int 1 u], []⟩) (fun _ R s => s.heap.get? l = some { cls := .type "tuple", dict := dd, data := .seq items n, slots := sl } ∧ R (.ok (.ret (.ref l))) s) :=
  .of_wp fun prog w A R s h => by
    obtain ⟨hp, g, d, tk, os⟩ := s
    obtain ⟨hl, h⟩ := h
    have f1 := AutoSeq1.idx_int
    have c : (items.isEmpty || (1 : Int) == 1) = true := by simp
    wp_walk using wpAny_loadPart' hl
    repeat (first
      | (refine wpAny_ite_true (decide_eq_true c) ?_; wp_walk using wpAny_loadPart' hl)
      | (refine wpAny_ite_true c ?_; wp_walk using wpAny_loadPart' hl))
    exact ⟨_, rfl, h⟩
theorem mulW0 (l : Addr) (items : Array Value) (n : Nat) (dd : Option Addr) (sl : Array (Option Value)) (x : Int) (u : Tok) (b0 : (decide (x < -(2 ^ 63)) || decide (x ≥ 2 ^ 63)) = false) (b1 : (items.isEmpty || x == 1) = false) (b2 : (decide (x ≤ 0) || items.isEmpty) = true) :
    Meets (Builtin.«tuple.__mul__» ⟨[.ref l, .int x u], []⟩) (fun _ R s => s.heap.get? l = some { cls := .type "tuple", dict := dd, data := .seq items n, slots := sl } ∧
      R (.ok (.ret (Value.ref s.heap.objs.size))) { s with heap := s.heap.push { cls := Value.type "tuple", data := Data.seq #[] }, toks := s.toks }) :=
  .of_wp fun prog w A R s h => by
    obtain ⟨hp, g, d, tk, os⟩ := s
    obtain ⟨hl, h⟩ := h
    have f1 := AutoSeq1.idx_int
    wp_walk using wpAny_loadPart' hl
    repeat (first
      | (refine wpAny_ite_false (decide_eq_false (by rw [b0]; simp)) ?_; wp_walk using wpAny_loadPart' hl)
      | (refine wpAny_ite_false (decide_eq_false (by rw [b1]; simp)) ?_; wp_walk using wpAny_loadPart' hl)
      | (refine wpAny_ite_true (decide_eq_true b2) ?_; wp_walk using wpAny_loadPart' hl)
      | (refine wpAny_ite_true b2 ?_; wp_walk using wpAny_loadPart' hl))
    exact ⟨_, rfl, h⟩
def rRepF (K : PySem.W.Frag) : R2 := fun x y H Q => ∃ l k xs, x = .ref l ∧ y = .int k ∧ SqT K H l xs ∧ xs ≠ [] ∧ ((k = 1 ∧ Q (.ref l) H) ∨ (k ≤ 0 ∧ -1000 ≤ k ∧ ∀ p, H p = none → Q (.ref p) (upd H p (.tup []))))
section
variable {X : Cx}
theorem op_repF : OpR X (binaryOp .Mult) (rRepF X.K) := by
  intro pins s σ H x y v u Q I rx ry h
  obtain ⟨l, k, xs, rfl, rfl, hT, hne, q⟩ := h
  cases rx
  obtain ⟨t, rfl⟩ := ry
  obtain ⟨its, r, ⟨⟨cls, dd, data, sl⟩, ho, hc, n, hd⟩, hs⟩ := I.tuple hT
  simp only at hc hd
  subst hc hd
  have hi : its.toArray.isEmpty = false := by
    cases its with
    | nil => exact absurd (List.eq_nil_of_length_eq_zero r.length) hne
    | cons a b => rfl
  rcases q with ⟨rfl, q⟩ | ⟨k0, k1, q⟩
  · exact wpAny_binaryOp_repeat_ref (T := "tuple") (U := "int") (by decide) ⟨_, ho, rfl⟩ (fun s' => typeIs_int s' 1 t) noFill_tuple_mul F.fills_int_mul F.slot_int_rmul repeat_tuple F.slot_int_index.lookup
      (call_meets F.slot_int_rmul (typeIs_int s 1 t) F.entry_int_rmul (F.args_int_rmul_2 _ _) (int_rmul_tuple 1 t l its.toArray n dd sl)
        ⟨ho, rfl, ⟨_, ho, rfl⟩, call_meets F.slot_tuple_mul ⟨_, ho, rfl⟩ F.entry_tuple_mul (F.args_tuple_mul_2 _ _) (mulW1 l its.toArray n dd sl t) ⟨ho, .ref l, H, I, rfl, q⟩⟩)
  · have b0 : (decide (k < -(2 ^ 63)) || decide (k ≥ 2 ^ 63)) = false := by
      rw [decide_eq_false (by omega), decide_eq_false (by omega)]
      rfl
    have b1 : (its.toArray.isEmpty || k == 1) = false := by
      rw [hi, Bool.false_or]
      exact beq_eq_false_iff_ne.mpr (by omega)
    have b2 : (decide (k ≤ 0) || its.toArray.isEmpty) = true := by
      rw [decide_eq_true k0]
      rfl
    refine wpAny_binaryOp_repeat_ref (T := "tuple") (U := "int") (by decide) ⟨_, ho, rfl⟩ (fun s' => typeIs_int s' k t) noFill_tuple_mul F.fills_int_mul F.slot_int_rmul repeat_tuple F.slot_int_index.lookup
      (call_meets F.slot_int_rmul (typeIs_int s k t) F.entry_int_rmul (F.args_int_rmul_2 _ _) (int_rmul_tuple k t l its.toArray n dd sl)
        ⟨ho, rfl, ⟨_, ho, rfl⟩, call_meets F.slot_tuple_mul ⟨_, ho, rfl⟩ F.entry_tuple_mul (F.args_tuple_mul_2 _ _) (mulW0 l its.toArray n dd sl k t b0 b1 b2) ⟨ho, ?_⟩⟩)
    refine ⟨.ref s.heap.objs.size, _, I.laid (t' := s.toks) (o := .tup []) (fun b ob q => Heap.get?_push_of_some _ q) (Nat.le_refl _) ?_, rfl, q _ (I.hok.fresh (Nat.le_refl _))⟩
    exact ⟨Nat.zero_le _, [], .nil, IsTup.new _ _⟩
end
section
variable {C : Ctx}
def φRepF : List D → Option D
  | [.tup xs, .int k] => if xs ≠ [] then (if k = 1 then some (.tup xs) else if k ≤ 0 ∧ -1000 ≤ k then some (.tup []) else none) else none
  | _ => none
theorem ok_repF : RdOK C φRepF (R2' (rRepF C.X.K)) := by
  intro F H ds vs d Q hs trk e h
  unfold φRepF at e
  split at e
  case h_2 => cases e
  rename_i xs k
  split at e
  case isFalse => cases e
  rename_i hx
  obtain ⟨x, y, rfl, h1, h2⟩ := iss2 hs
  obtain ⟨a, us, rfl, ha, ra⟩ := is_tup h1
  cases is_int h2
  have l1 := reps_len ra
  have hu : us ≠ [] := fun z => hx (List.length_eq_zero_iff.mp (by rw [l1, z]; rfl))
  split at e
  · rename_i hk
    cases e
    exact ⟨_, _, rfl, a, k, us, rfl, rfl, SqT.of ha, hu, .inl ⟨hk, flat h ⟨a, us, rfl, ha, ra, rfl⟩⟩⟩
  · split at e
    · rename_i hk
      cases e
      refine ⟨_, _, rfl, a, k, us, rfl, rfl, SqT.of ha, hu, .inr ⟨hk.1, hk.2, fun p hp => ?_⟩⟩
      exact h _ _ [] (grow_upd hp) (fun _ h => by cases h) List.nodup_nil (new_tup ⟨rfl, rfl⟩ hp)
    · cases e
def φMulB : List D → Option D := fun ds => match φMul ds with
  | some d => some d
  | none => φRepF ds
theorem op_mulB : OpR C.X (binaryOp .Mult) (fun x y H Q => (rMulI x y H Q ∨ (rRep x y H Q ∨ rRepT C.X.K x y H Q)) ∨ rRepF C.X.K x y H Q) := op_mulA.or op_repF
theorem ok_mulB : RdOK C φMulB (R2' fun x y H Q => (rMulI x y H Q ∨ (rRep x y H Q ∨ rRepT C.X.K x y H Q)) ∨ rRepF C.X.K x y H Q) := ok_mul.or ok_repF
end
end DL

namespace DL
open PySem PySem.Spec PyProof.Rows L2
section
variable {C : Ctx} {F F1 F' : FS} {H H1 H' : Hp} {p p1 p' q r : List Addr} {σ : St} {env : Env} {pos : Pos}
/-! ### text that is never reached -/
def sdead : SF := fun _ => none
theorem s_dead {sts : List Stmt} : PSs C.X sts (TSx C sdead) := ⟨fun _ _ _ _ _ _ h => by
  obtain ⟨_, _, _, _, _, _, e, _⟩ := h
  cases e⟩
/-! ### f(e, ..), f a name that holds a def of the program -/
def xcallV (fs : List (Str × MF × List D)) (i : Nat) (g : AF) : XF := fun env => match env[i]? with
  | some (some (.glob c)) => (match fs.lookup c with
    | some (m, dfl) => xcall m dfl g env
    | none => none)
  | _ => none
theorem lookup_in {α : Type} {c : Str} {y : α} : ∀ {l : List (Str × α)}, l.lookup c = some y → (c, y) ∈ l
  | [], h => by cases h
  | (a, b) :: l, h => by
    rw [List.lookup_cons] at h
    split at h
    · rename_i ha
      cases h
      rw [eq_of_beq ha]
      exact List.mem_cons_self
    · exact List.mem_cons_of_mem _ (lookup_in h)
theorem x_callV {x : Str} {i k : Nat} {fs : List (Str × MF × List D)} {px : Pos} {e : Expr} {es : List Expr} {g : AF} (O : CtxOk C) (hG : ∀ z ∈ fs, ∃ n, FnD C.X.prog C.X.w C.X.K C.X.mg C.X.base C.T k z.1 n false z.2.2 z.2.1 ∧ ∀ ds r o, z.2.1 ds = some (r, o) → ds.length = n) (hr : Room k C.X.A) (hN : C.X.N[i]? = some x) (hv : Vis C.X.env.scope x)
    (ha : PA C.X (e :: es) (TAX C true g)) (hdb : (x == ("__debug__" : Str)) = false := by decide) (hcd : (x == ("__classdict__" : Str)) = false := by decide) (he : starEach (e :: es) C.X.env = (false, eval e C.X.env) :: starEach es C.X.env := by rfl) (hpl : (backTo pos (starEach es C.X.env)).any (·.1) = false := by rfl) :
    PE C.X (.Call (.Name x px) (e :: es) [] pos) (TX C true (xcallV fs i g)) := by
  refine ⟨fun pins s σ H Q I h => ?_⟩
  obtain ⟨F, p, env, rel, r, env', ee, post⟩ := h
  unfold xcallV at ee
  split at ee
  case h_2 => cases ee
  rename_i c ec
  split at ee
  case h_2 => cases ee
  rename_i m dfl el
  obtain ⟨v0, _, ev0, rp0, _⟩ := rel.slot ec
  have ev : v0 = .ref (He.ga C.X.K c) := rp0.1
  subst ev
  obtain ⟨n, G, hn⟩ := hG _ (lookup_in el)
  obtain ⟨fd, ps, dvs, ds, F1, hm, hk, hb, hd, hvl⟩ := G.ex
  have z := tx_call hvl hn (⟨F, p, env, rel, r, env', ee, post⟩ : TX C true (xcall m dfl g) σ H Q)
  refine wpAny_Call_Name_kw (thn ((pe_var (pos := px) hN hv hdb hcd).run pins s σ H (fun v H1 => v = .ref (He.ga C.X.K c) ∧ H1 = H) I ⟨_, ev0, rfl, rfl⟩) fun u s1 ⟨v, H1, I1, r1, e1, e2⟩ => ?_)
  rw [e2] at I1
  rw [e1] at r1
  cases r1
  refine PySem.W.callWith_K (h₀ := C.X.base) I1.ok.mod.kin hk (thn (ha.run pos pins s1 σ H _ I1 z) fun us s2 ⟨vs, H2, I2, r2, q2⟩ => ⟨I2.kIn, ?_⟩) he hpl
  exact run_fn F1 hr hb hd O.pass I2 r2 q2
end
theorem fnD_mono {P : Program} {w : World} {K : PySem.W.Frag} {mg : Str → Option Value} {base : Heap} {T : List (Addr × Str)} {k k' n : Nat} {x : Str} {refs : Bool} {dfl : List D} {m : MF} (h : FnD P w K mg base T k x n refs dfl m) (hk : k ≤ k') : FnD P w K mg base T k' x n refs dfl m := by
  obtain ⟨fd, ps, dvs, ds, F, h1, h2, h3, h4, h5⟩ := h.ex
  exact ⟨fd, ps, dvs, ds, ⟨F.len, fun A outer s H args us vs Q E hr => F.run A outer s H args us vs Q E (hr.mono hk)⟩, h1, h2, h3, h4, h5⟩
theorem fnD_zC {P : Program} {w : World} {K : PySem.W.Frag} {mg : Str → Option Value} {base : Heap} {T : List (Addr × Str)} {d : DefZ} {x : Str} {N ps : List Str} {k n extra : Nat} {refs : Bool} {g : SF}
    (F : FunZ K d) (hx : d.ad K = He.ga K x) (hm : mg x = some (.ref (He.ga K x))) (hbd : BindN d ps) (S : FnScope N ps d.scope) (hb : BodyRdC P w K mg base T N d.qual d.scope (He.ga K x) (He.codeOf K (x, none)) k refs d.body g)
    (hps : ps.length = n) (hN : N.length = n + extra) (hr : refs = true → 0 < n) (hnm : d.name = x := by rfl) (hq : d.clo = [] := by rfl) (hd : d.dfl = [] := by rfl) : FnD P w K mg base T (k + 1) x n refs [] (defn n extra refs g) := by
  obtain ⟨fd, F⟩ := plain_z F hq hd
  have hbi : Binds K fd ps [] := FunD.bindsN F hbd
  rw [hx, hnm] at F
  exact ⟨fd, ps, [], [], ok_defC (p := (x, none)) F rfl S hps hN hr hb, hm, F.kp, hbi, .nil, fun _ _ => ⟨rfl, rfl⟩⟩
/-- the end of a row whose law calls the def y, which makes lambdas -/
theorem law_atG {l : PySem.W.OpenLaw} {w : World} {K : PySem.W.Frag} {mg : Str → Option Value} {h : Heap} {d : DefZ} {x y py q : Str} {N : List Str} {k n extra : Nat} {g : SF} {fa : List He.Fa} {zs : List DefZ} {tf : List He.Defn} {ex : PySem.W.Frag → Bool} {ad : Addr}
    (X : K.In h) (c : SaysZ fa zs tf ex h K) (hd : d ∈ zs) (ht : tf = [(y, none)]) (hx : d.ad K = He.fAd K (x, none)) (hfa : ad = He.fAd K (x, none)) (hbd : BindN d [py]) (S : FnScope N [py] d.scope) (hN : N.length = 1 + extra)
    (hb : ∀ (base : Heap) (T : List (Addr × Str)) (Pt : Addr), LamX.TabB base mg (He.codeOf K (y, none)) Pt → (Pt, q) ∈ T → (∀ p ∈ T, p.1 = Pt → p.2 = q) → BodyRd l.prog w K mg base T N d.qual d.scope (He.fAd K (x, none)) k false d.body g)
    (hm : ∀ ns : List Int, ns.length ≤ n → (∀ z ∈ ns, Builtin.Int.intBits z ≤ 1048576) → defn 1 extra false g [.scr ns] = some (.val (.bl true), []))
    (hq : d.clo = [] := by rfl) (hdf : d.dfl = [] := by rfl) : LamX.LawAtS l w K (L2.CX l.prog w) (k + 1) n py mg ad h := by
  subst ht hfa
  obtain ⟨fd, F⟩ := plain_z (c.fn d hd) hq hdf
  have hbi : ∀ (s : Shared) (us : List Value), us.length = [py].length → BindsTo s fd ⟨us, []⟩ ([py].zip us) := FunD.bindsA F hbd
  rw [hx] at F
  have one : ∀ {p : Addr × Addr}, p ∈ [He.cT K (y, none)] → p = He.cT K (y, none) := fun h => List.mem_singleton.mp h
  refine ⟨fd, [He.cT K (y, none)], spD l.prog w K [((He.cT K (y, none)).2, q)] 1 false (defn 1 extra false g), fun p hp => ?_, fun p hp => ?_, fun p hp => ?_, fun s u => hbi s [u] rfl, fun H a ns hl hbits hT hS => ?_, fun base hK hNs hTB => ?_⟩
  · rw [one hp]
    exact c.empty _ (List.mem_singleton.mpr rfl)
  · rw [one hp]
    exact c.out _ (List.mem_singleton.mpr rfl)
  · rw [one hp]
    exact PySem.W.codeHd_of_K X (c.hd _ (List.mem_singleton.mpr rfl))
  · obtain ⟨F0, trk, rp⟩ := intsRep (P := l.prog) (w := w) hS
    refine ⟨F0, [], [.scr ns], rfl, rp, List.nodup_nil, (fun a h => absurd h (by simp)), trk, fun p hp => ?_, _, _, hm ns hl hbits, fun v H' F' q' qo _ _ _ rv _ _ _ => rv.1⟩
    rw [List.mem_singleton.mp hp]
    exact ⟨#[], hT _ (List.mem_singleton.mpr rfl), trivial, fun p' cv hcv => by cases hcv⟩
  · exact ok_def F S rfl hN (fun z => by cases z) (hb base _ _ (hTB _ (List.mem_singleton.mpr rfl)) (List.mem_singleton.mpr rfl) fun p hp _ => by rw [List.mem_singleton.mp hp])
end DL

namespace DL
open PySem PySem.Spec PyProof.Rows L2
/-! ### a head that takes from the heap just what the law's names reach -/
def fRef (g : Addr → Option Obj) (a : Addr) : List Addr := match g a with
  | some o => (match o.data with
    | .func fd => He.refV fd.code ++ (He.refV fd.defaults ++ (He.refV fd.kwdefaults ++ fd.closure.map (·.2)))
    | .fields vs => vs.toList.flatMap He.refV
    | _ => [])
  | none => []
def nsRef (g : Addr → Option Obj) (a : Addr) : List Addr := match g a with
  | some o => (match o.data with
    | .cls cd => [cd.ns]
    | _ => [])
  | none => []
def inRef (g : Addr → Option Obj) (a : Addr) : List Addr := match g a with
  | some o => (match o.data with
    | .dict es _ => es.toList.flatMap fun e => He.refV e.val
    | .fields vs => vs.toList.flatMap He.refV
    | _ => [])
  | none => []
/-- fs the defs' names, cs the classes' -/
def asY (fs cs : List Str) (g : Addr → Option Obj) : List Addr :=
  let K0 := He.frG g [mainGlobals]
  let F := fs.map (He.ga K0)
  let C := cs.map (He.ga K0)
  let N := C.flatMap (nsRef g)
  let M := N.flatMap (inRef g)
  let M2 := M.flatMap (fRef g)
  let M3 := M2.flatMap (fRef g)
  cStatics :: mainGlobals :: (F ++ (F.flatMap (fRef g) ++ (C ++ (N ++ (M ++ (M2 ++ M3))))))
def obsY (as : (Addr → Option Obj) → List Addr) (fa : List He.Fa) (zs : List DefZ) (tf : List He.Defn) (ex : PySem.W.Frag → Bool) (g : Addr → Option Obj) : AlZ :=
  (((fa.all fun f => f.ok (He.frT g (as g))) && zs.all fun d => d.ok (He.frT g (as g))) && (ex (He.frT g (as g)) && He.tabsB g tf (He.frT g (as g))), zs.map (fnZ (He.frT g (as g))))
theorem saysY_of {as : (Addr → Option Obj) → List Addr} {fa : List He.Fa} {zs : List DefZ} {tf : List He.Defn} {ex : PySem.W.Frag → Bool} {h : Heap} (e : obsY as fa zs tf ex h.get? = (true, zs.map DefZ.val)) : SaysZ fa zs tf ex h (He.frT h.get? (as h.get?)) := by
  generalize hK : He.frT h.get? (as h.get?) = K at *
  have e1 : (((fa.all fun f => f.ok K) && zs.all fun d => d.ok K) && (ex K && He.tabsB h.get? tf K)) = true := by
    have z := congrArg Prod.fst e
    unfold obsY at z
    rw [hK] at z
    exact z
  have e2 : zs.map (fnZ K) = zs.map DefZ.val := by
    have z := congrArg Prod.snd e
    unfold obsY at z
    rw [hK] at z
    exact z
  obtain ⟨e3, e4⟩ := He.ba e1
  obtain ⟨e5, e6⟩ := He.ba e3
  obtain ⟨e7, e8⟩ := He.ba e4
  have key : ∀ p ∈ tf, PySem.W.codeHdIn K (He.cT K p).1 (He.cT K p).2 = true ∧ ∃ o, h.get? (He.cT K p).2 = some o ∧ He.emptyTab o = true := fun p hp => by
    obtain ⟨z1, z2⟩ := He.ba (List.all_eq_true.mp e8 p hp)
    refine ⟨z1, ?_⟩
    split at z2
    · rename_i o q
      exact ⟨o, q, z2⟩
    · cases z2
  refine ⟨List.all_eq_true.mp e5, fun d hd => ?_, e7, fun p hp => (key p hp).1, fun p hp => ?_, fun p hp => ?_⟩
  · obtain ⟨i, hi, q⟩ := List.mem_iff_getElem.mp hd
    have a1 : (zs.map (fnZ K))[i]? = (zs.map DefZ.val)[i]? := by rw [e2]
    rw [List.getElem?_map, List.getElem?_map, List.getElem?_eq_getElem hi, q] at a1
    exact funZ_of (Option.some.inj a1) (List.all_eq_true.mp e6 d hd)
  · obtain ⟨_, o, q, z⟩ := key p hp
    subst hK
    exact He.frT_none q z
  · obtain ⟨_, o, q, z⟩ := key p hp
    rw [q, He.emptyTab_eq z]
def hookY (as : (Addr → Option Obj) → List Addr) (fa : List He.Fa) (zs : List DefZ) (tf : List He.Defn) (ex : PySem.W.Frag → Bool) : PySem.W.Hook where
  α := AlZ
  obs := fun s => obsY as fa zs tf ex s.heap.get?
  val := fun _ => (true, zs.map DefZ.val)
  says := fun _ h => ∃ K : PySem.W.Frag, K.In h ∧ SaysZ fa zs tf ex h K
  of := fun _ _ e => ⟨_, He.frT_in, saysY_of e⟩
  keeps := fun _ _ _ ⟨K, hK, c⟩ k => ⟨K, PySem.W.Frag.In.keeps hK k, c.fa, c.fn, c.more, c.hd, c.out, fun p hp => k _ _ (c.empty p hp)⟩
theorem obsY_eq {as : (Addr → Option Obj) → List Addr} {fa : List He.Fa} {zs : List DefZ} {tf : List He.Defn} {ex : PySem.W.Frag → Bool} {g : Addr → Option Obj} {s : Shared} (h : ∀ a, g a = s.heap.get? a) : obsY as fa zs tf ex g = (hookY as fa zs tf ex).obs s := by
  rw [show g = s.heap.get? from funext h]
  rfl
end DL

namespace DL
open PySem PySem.Spec PyProof.Rows L2
/-! ### the end of a law's row: several defs make lambdas -/
/-- what is known of the tables of the defs ys (name, qualified name of its lambdas) -/
def TabsY (K : PySem.W.Frag) (mg : Str → Option Value) (base : Heap) (T : List (Addr × Str)) (ys : List (Str × Str)) : Prop :=
  ∀ y ∈ ys, LamX.TabB base mg (He.codeOf K (y.1, none)) (He.cT K (y.1, none)).2 ∧ ((He.cT K (y.1, none)).2, y.2) ∈ T ∧ ∀ p ∈ T, p.1 = (He.cT K (y.1, none)).2 → p.2 = y.2
abbrev tfY (ys : List (Str × Str)) : List He.Defn := ys.map fun y => (y.1, none)
abbrev tT (K : PySem.W.Frag) (ys : List (Str × Str)) : List (Addr × Str) := ys.map fun y => ((He.cT K (y.1, none)).2, y.2)
theorem uniq_of {K : PySem.W.Frag} {ys : List (Str × Str)} (nd : (ys.map fun y => (He.cT K (y.1, none)).2).Nodup) {y : Str × Str} (hy : y ∈ ys) : ∀ p ∈ tT K ys, p.1 = (He.cT K (y.1, none)).2 → p.2 = y.2 := by
  intro p hp e
  obtain ⟨z, hz, rfl⟩ := List.mem_map.mp hp
  induction ys with
  | nil => cases hy
  | cons a ys ih =>
    obtain ⟨n1, n2⟩ := List.nodup_cons.mp nd
    have key : ∀ u ∈ ys, (He.cT K (u.1, none)).2 ≠ (He.cT K (a.1, none)).2 := fun u hu e => n1 (List.mem_map.mpr ⟨u, hu, e⟩)
    rcases List.mem_cons.mp hy with hya | hy'
    · rcases List.mem_cons.mp hz with hza | hz'
      · rw [hza, hya]
      · rw [hya] at e
        exact absurd e (key z hz')
    · rcases List.mem_cons.mp hz with hza | hz'
      · rw [hza] at e
        exact absurd e.symm (key y hy')
      · exact ih n2 hy' hz' (List.mem_map.mpr ⟨z, hz', rfl⟩)
section
variable {l : PySem.W.OpenLaw} {w : World} {K : PySem.W.Frag} {mg : Str → Option Value} {h : Heap} {d : DefZ} {x py : Str} {N : List Str} {k n extra : Nat} {g : SF} {fa : List He.Fa} {zs : List DefZ} {ys : List (Str × Str)} {ex : PySem.W.Frag → Bool} {ad : Addr}
theorem law_atM (X : K.In h) (c : SaysZ fa zs (tfY ys) ex h K) (nd : (ys.map fun y => (He.cT K (y.1, none)).2).Nodup) (hd : d ∈ zs) (hx : d.ad K = He.fAd K (x, none)) (hfa : ad = He.fAd K (x, none)) (hbd : BindN d [py]) (S : FnScope N [py] d.scope) (hN : N.length = 1 + extra)
    (hb : ∀ (base : Heap) (T : List (Addr × Str)), TabsY K mg base T ys → BodyRd l.prog w K mg base T N d.qual d.scope (He.fAd K (x, none)) k false d.body g ∨ ∃ y ∈ ys, y.1 = x ∧ BodyRdC l.prog w K mg base T N d.qual d.scope (He.fAd K (x, none)) (He.codeOf K (x, none)) k false d.body g)
    (hm : ∀ ns : List Int, ns.length ≤ n → (∀ z ∈ ns, Builtin.Int.intBits z ≤ 1048576) → defn 1 extra false g [.scr ns] = some (.val (.bl true), []))
    (hq : d.clo = [] := by rfl) (hdf : d.dfl = [] := by rfl) : LamX.LawAtS l w K (L2.CX l.prog w) (k + 1) n py mg ad h := by
  subst hfa
  obtain ⟨fd, F⟩ := plain_z (c.fn d hd) hq hdf
  have hbi : ∀ (s : Shared) (us : List Value), us.length = [py].length → BindsTo s fd ⟨us, []⟩ ([py].zip us) := FunD.bindsA F hbd
  rw [hx] at F
  have mem : ∀ {p : Addr × Addr}, p ∈ (tfY ys).map (He.cT K) → ∃ y ∈ ys, p = He.cT K (y.1, none) := fun hp => by
    obtain ⟨q, hq, rfl⟩ := List.mem_map.mp hp
    obtain ⟨y, hy, rfl⟩ := List.mem_map.mp hq
    exact ⟨y, hy, rfl⟩
  have mem1 : ∀ {y : Str × Str}, y ∈ ys → ((y.1, none) : He.Defn) ∈ tfY ys := fun hy => List.mem_map.mpr ⟨_, hy, rfl⟩
  refine ⟨fd, (tfY ys).map (He.cT K), spD l.prog w K (tT K ys) 1 false (defn 1 extra false g), fun p hp => ?_, fun p hp => ?_, fun p hp => ?_, fun s u => hbi s [u] rfl, fun H a ns hl hbits hT hS => ?_, fun base hK hNs hTB => ?_⟩
  · obtain ⟨y, hy, rfl⟩ := mem hp
    exact c.empty _ (mem1 hy)
  · obtain ⟨y, hy, rfl⟩ := mem hp
    exact c.out _ (mem1 hy)
  · obtain ⟨y, hy, rfl⟩ := mem hp
    exact PySem.W.codeHd_of_K X (c.hd _ (mem1 hy))
  · obtain ⟨F0, trk, rp⟩ := intsRep (P := l.prog) (w := w) hS
    refine ⟨F0, [], [.scr ns], rfl, rp, List.nodup_nil, (fun a h => absurd h (by simp)), trk, fun p hp => ?_, _, _, hm ns hl hbits, fun v H' F' q' qo _ _ _ rv _ _ _ => rv.1⟩
    obtain ⟨y, hy, rfl⟩ := List.mem_map.mp hp
    exact ⟨#[], hT _ (List.mem_map.mpr ⟨_, mem1 hy, rfl⟩), trivial, fun p' cv hcv => by cases hcv⟩
  · have ht : TabsY K mg base (tT K ys) ys := fun y hy => ⟨hTB _ (List.mem_map.mpr ⟨_, mem1 hy, rfl⟩), List.mem_map.mpr ⟨y, hy, rfl⟩, uniq_of nd hy⟩
    rcases hb base _ ht with hb | ⟨y, hy, _, hb⟩
    · exact ok_def F S rfl hN (fun z => by cases z) hb
    · exact ok_defC F rfl S rfl hN (fun z => by cases z) hb
end
def nodupB : List Addr → Bool
  | [] => true
  | a :: l => (l.all fun b => !Nat.beq a b) && nodupB l
theorem nodupB_ok : ∀ {l : List Addr}, nodupB l = true → l.Nodup
  | [], _ => List.nodup_nil
  | a :: l, h => by
    have h : ((l.all fun b => !Nat.beq a b) && nodupB l) = true := h
    obtain ⟨h1, h2⟩ := Bool.and_eq_true_iff.mp h
    refine List.nodup_cons.mpr ⟨fun hm => ?_, nodupB_ok h2⟩
    have h3 := List.all_eq_true.mp h1 a hm
    rw [show Nat.beq a a = true from Nat.beq_refl a] at h3
    cases h3
theorem map_two {α β γ : Type} {x : Option α} {f : α → β} {g : α → γ} {a : β} {b : γ} (h1 : x.map f = some a) (h2 : x.map g = some b) : x.map (fun s => (f s, g s)) = some (a, b) := by
  cases x with
  | none => cases h1
  | some s =>
    cases h1
    cases h2
    rfl
theorem map_obs {α β : Type} {x : Option α} {f g : α → Bool} {c : α → β} {b : β} (h1 : x.map f = some true) (h2 : x.map g = some true) (h3 : x.map c = some b) : x.map (fun s => (f s && g s, c s)) = some (true, b) := by
  cases x with
  | none => cases h1
  | some s =>
    injection h1 with h1
    injection h2 with h2
    injection h3 with h3
    show some (f s && g s, c s) = _
    rw [h1, h2, h3]
    rfl
end DL

namespace DL
open PySem PySem.Spec PyProof.Rows L2
/-! ### sets of tuples of ints: as many as the table of 128 slots has room for -/
section
variable {P : Program} {w : World} {A : Around} {E : Value → Shared → Prop} {s : Shared} {a : Addr} {L : List (Addr × List Int)} {es : Array (Int × Value)} {ep : Nat} {t : SetTable}
structure Tb (P : Program) (w : World) (h : Heap) (a : Addr) (L : List (Addr × List Int)) (es : Array (Int × Value)) (ep : Nat) (t : SetTable) : Prop where
  obj : ∃ o, h.get? a = some o ∧ o.ExactSet ∧ o.data = .set es ep t
  rws : es.toList = rowsOf P w L
  tbl : TabOk t (L.map fun p => thash P w p.2)
  nod : (L.map (·.2)).Nodup
  tps : ∀ p ∈ L, L2.IsT P w h p.2 p.1
  pln : t.plain = true
  ldd : w.params.followText "set-order" = true ∨ t.led = true
  spc : L.length * 5 < t.mask * 3
theorem Tb.of {h : Heap} (R : SetTR P w h a L es ep t) : Tb P w h a L es ep t := ⟨R.ob, R.rows, R.tab, R.nd, R.tup, R.plain, R.led, R.room⟩
theorem Tb.tr {h : Heap} (R : Tb P w h a L es ep t) (hl : L.length < 64) : SetTR P w h a L es ep t := ⟨R.obj, R.rws, R.tbl, R.nod, R.tps, R.pln, R.ldd, R.spc, hl⟩
theorem Tb.len {h : Heap} (R : Tb P w h a L es ep t) : es.size = L.length := by
  have e : es.toList.length = (rowsOf P w L).length := by rw [R.rws]
  simpa [rowsOf] using e
theorem Tb.plc {h : Heap} (R : Tb P w h a L es ep t) : t.place.toList.length = L.length := by
  have e := R.tbl.sz
  simpa using e
theorem Tb.fit {h : Heap} (R : Tb P w h a L es ep t) : t.fits es.size = true := by
  have e1 := R.plc
  have e2 := R.len
  have e3 := R.spc
  have e4 := R.tbl.dm
  simp only [Array.length_toList] at e1
  simp [SetTable.fits, SetTable.fill, e4]
  omega
theorem Tb.at {h : Heap} (R : Tb P w h a L es ep t) {i : Nat} {p : Addr × List Int} (e : L[i]? = some p) : es[i]? = some (thash P w p.2, Value.ref p.1) := by
  have z : es.toList[i]? = some (thash P w p.2, Value.ref p.1) := by
    rw [R.rws, rowsOf, List.getElem?_map, e]
    rfl
  simpa using z
abbrev hsA (es : Array (Int × Value)) : Nat → Int := fun i => (es[i]?.map (·.1)).getD 0
theorem Tb.hs {h : Heap} (R : Tb P w h a L es ep t) {i : Nat} {p : Addr × List Int} (e : L[i]? = some p) : hsA es i = thash P w p.2 := by
  unfold hsA
  rw [R.at e]
  rfl
abbrev stepN (t : SetTable) (g : Int) (c : Nat) : SetTable.Probe := nth t.mask (runAt t.mask (SetTable.bits g % (t.mask + 1)) (SetTable.bits g)) c
theorem stepN_j {t : SetTable} {g : Int} {c : Nat} : (stepN t g c).j = way t.mask g c := rfl
theorem stepN_add {t : SetTable} {g : Int} (c q : Nat) : nth t.mask (stepN t g c) q = stepN t g (c + q) := (nth_add t.mask c _ q).symm
theorem stepN_clean {t : SetTable} {g : Int} (c : Nat) : (stepN t g c).dummy = none := by
  have go : ∀ (n : Nat) (p : SetTable.Probe), p.dummy = none → (nth t.mask p n).dummy = none := fun n => by
    induction n with
    | zero => exact fun p h => h
    | succ n ih =>
      refine fun p h => ih _ ?_
      unfold adv
      split <;> exact h
  exact go c _ rfl
/-- what a probe from the step c meets: an entry of the same hash, or the empty slot -/
theorem Tb.probe {h : Heap} (R : Tb P w h a L es ep t) {g : Int} {K c : Nat} (hc : c ≤ K) (hF : K < 10 * SetTable.turns t.mask) (hK : way t.mask g K ∉ t.place.toList) (hb : ∀ c, c < K → way t.mask g c ∈ t.place.toList) :
    (∃ q i, c ≤ q ∧ q < K ∧ t.place.toList[i]? = some (way t.mask g q) ∧ (∀ q' i', c ≤ q' → q' < q → t.place.toList[i']? = some (way t.mask g q') → hsA es i' ≠ g) ∧ t.probe (hsA es) g (stepN t g c) = some (.candidate (way t.mask g q) i (stepN t g (q + 1)))) ∨
    ((∀ q' i', c ≤ q' → q' < K → t.place.toList[i']? = some (way t.mask g q') → hsA es i' ≠ g) ∧ t.probe (hsA es) g (stepN t g c) = some (.empty (way t.mask g K) none)) := by
  have j : ∀ q, (nth t.mask (stepN t g c) q).j = way t.mask g (c + q) := fun q => by rw [stepN_add]
  have back : ∀ q', c ≤ q' → c + (q' - c) = q' := fun q' h => by omega
  rcases go_spec t R.tbl.ris R.tbl.dm (hsA es) g (10 * SetTable.turns t.mask) (K - c) (stepN t g c) (stepN_clean c) (by omega) (fun q hq => by rw [j]; exact hb _ (by omega)) (by rw [j, back K hc]; exact hK) with ⟨q, i, hq, hi, _, hno, hp⟩ | ⟨hno, hp⟩
  · refine .inl ⟨c + q, i, by omega, by omega, by rw [← j]; exact hi, fun q' i' h1 h2 h3 => hno (q' - c) i' (by omega) (by rw [j, back q' h1]; exact h3), ?_⟩
    rw [j, stepN_add] at hp
    exact hp
  · refine .inr ⟨fun q' i' h1 h2 h3 => hno (q' - c) i' (by omega) (by rw [j, back q' h1]; exact h3), ?_⟩
    rw [j, back K hc] at hp
    exact hp
theorem Tb.look (R : Tb P w s.heap a L es ep t) {x : Addr} {k : List Int} (hx : L2.IsT P w s.heap k x) (hu : A.units < cLine) {K : Nat} (hF : K < 10 * SetTable.turns t.mask)
    (hK : way t.mask (thash P w k) K ∉ t.place.toList) (hb : ∀ c, c < K → way t.mask (thash P w k) c ∈ t.place.toList) {Q : SetFound → Shared → Prop}
    (yes : k ∈ L.map (·.2) → Q (.there none) s) (no : k ∉ L.map (·.2) → Q (.free (way t.mask (thash P w k) K) false) s) : ∀ (f c : Nat) (st : Option SetTable.Probe), st.getD (t.probeStart (thash P w k)) = stepN t (thash P w k) c → c ≤ K → K - c < f →
      (∀ (i : Nat) p, L[i]? = some p → p.2 = k → ∃ c', c ≤ c' ∧ c' < K ∧ t.place.toList[i]? = some (way t.mask (thash P w k) c')) → wpAny (model P w) A (setSearchFrom a (.ref x) (thash P w k) true f st) Q E s := by
  obtain ⟨o, ho, hex, hd⟩ := R.obj
  have odd : ¬ t.gaveWay = true := by
    unfold SetTable.gaveWay
    rw [mask_odd R.tbl.mok]
    decide
  intro f
  induction f with
  | zero => exact fun c st _ _ hf _ => absurd hf (Nat.not_lt_zero _)
  | succ f ih =>
    intro c st hst hc hf hre
    rw [setSearchFrom_succ]
    refine wpAny_bind (wpAny_setState_of ho hd R.fit ?_)
    dsimp only
    refine wp_if_neg odd ?_
    try refine wpAny_bind (wpAny_pure ?_)
    rw [hst]
    rcases R.probe hc hF hK hb with ⟨q, i, h1, h2, hi, hno, hp⟩ | ⟨hno, hp⟩
    · rw [show t.probe (fun i => (es[i]?.map (·.1)).getD 0) (thash P w k) (stepN t (thash P w k) c) = _ from hp]
      dsimp only
      have hil : i < L.length := by
        have := (List.getElem?_eq_some_iff.mp hi).1
        rw [R.plc] at this
        exact this
      obtain ⟨p, hpi⟩ : ∃ p, L[i]? = some p := ⟨_, List.getElem?_eq_getElem hil⟩
      have hm := List.mem_of_getElem? hpi
      have sl := slot_live R.tbl.ris hi
      have on : wpAny (model P w) A (searchRest a (.ref x) (thash P w k) true f es t (way t.mask (thash P w k) q) i (stepN t (thash P w k) (q + 1))) Q E s := by
        unfold searchRest
        rw [R.at hpi]
        dsimp only
        refine wpAny_bind (wpAny_holding (wpAny_eqBool_tuple hu (R.tps p hm) hx (wpAny_bind (wpAny_setState_of ho hd R.fit ?_))))
        dsimp only
        by_cases e : p.2 = k
        · exact wp_if_pos (by simp [e]) (wpAny_pure (yes (List.mem_map.mpr ⟨p, hm, e⟩)))
        refine wp_if_neg (by simp [e]) ?_
        try refine wpAny_bind (wpAny_pure ?_)
        rw [show t.sameMemory t.moves t.mask = some true from if_pos (beq_self_eq_true _)]
        dsimp only
        simp only [if_true, sl, R.at hpi]
        refine wpAny_bind (wpAny_isSame_ref_self (wpAny_bind (wpAny_pure ?_)))
        simp only [if_true]
        refine wp_if_neg (by simp [e]) (ih (q + 1) _ rfl (by omega) (by omega) fun i0 p0 g0 g1 => ?_)
        obtain ⟨c', b1, b2, b3⟩ := hre i0 p0 g0 g1
        refine ⟨c', ?_, b2, b3⟩
        have n1 : ¬ c' < q := fun z => hno c' i0 b1 z b3 ((R.hs g0).trans (congrArg (thash P w) g1))
        have n2 : c' ≠ q := fun z => by
          rw [z] at b3
          have s0 := slot_live R.tbl.ris b3
          rw [sl] at s0
          injection s0 with s0
          rw [← s0, hpi] at g0
          exact e ((congrArg Prod.snd (Option.some.inj g0)).trans g1)
        omega
      by_cases hl : t.led = true
      · refine wp_if_neg (by simp [hl]) ?_
        try refine wpAny_bind (wpAny_pure ?_)
        exact on
      · refine wp_if_pos (by simp [hl]) (wpAny_bind (seen_tup hx (fun y hy => ?_) ?_))
        · obtain ⟨e, he, rfl⟩ := List.mem_map.mp hy
          have h0 : e ∈ es ∧ e.1 = thash P w k := by simpa using he
          have h1 : e ∈ es.toList := by simpa using h0.1
          rw [R.rws] at h1
          obtain ⟨u, hu2, rfl⟩ := List.mem_map.mp h1
          exact ⟨u.2, u.1, rfl, R.tps u hu2⟩
        · refine wp_if_neg (by decide) ?_
          try refine wpAny_bind (wpAny_pure ?_)
          exact on
    · rw [show t.probe (fun i => (es[i]?.map (·.1)).getD 0) (thash P w k) (stepN t (thash P w k) c) = _ from hp]
      dsimp only
      refine wpAny_pure (no fun hm => ?_)
      obtain ⟨p0, m0, e0⟩ := List.mem_map.mp hm
      obtain ⟨i0, g0⟩ := List.mem_iff_getElem?.mp m0
      obtain ⟨c', b1, b2, b3⟩ := hre i0 p0 g0 e0
      exact hno c' i0 b1 b2 b3 ((R.hs g0).trans (congrArg (thash P w) e0))
theorem Tb.find (R : Tb P w s.heap a L es ep t) {x : Addr} {k : List Int} (hx : L2.IsT P w s.heap k x) (hu : A.units < cLine) {Q : SetFound → Shared → Prop} (yes : k ∈ L.map (·.2) → Q (.there none) s)
    (no : ∀ K, k ∉ L.map (·.2) → way t.mask (thash P w k) K ∉ t.place.toList → (∀ c, c < K → way t.mask (thash P w k) c ∈ t.place.toList) → Q (.free (way t.mask (thash P w k) K) false) s) : wpAny (model P w) A (setSearch a (.ref x) (thash P w k) true) Q E s := by
  have r := R.spc
  obtain ⟨K, hF, hK, hb⟩ := R.tbl.first (by rw [List.length_map]; omega) (thash P w k)
  have small : K < 100000 := by
    have : 10 * SetTable.turns t.mask ≤ 1420 := by
      unfold SetTable.turns
      rcases R.tbl.mok with e | e | e <;> omega
    omega
  unfold setSearch
  refine R.look hx hu hF hK hb yes (fun n => no K n hK hb) 100000 0 none rfl (Nat.zero_le _) (by omega) fun i p hi e => ?_
  have h1 : (L.map fun p => thash P w p.2)[i]? = some (thash P w k) := by rw [List.getElem?_map, hi, ← e]; rfl
  have h2 : i < t.place.toList.length := by rw [R.plc]; exact (List.getElem?_eq_some_iff.mp hi).1
  obtain ⟨c, hc, e⟩ := R.tbl.before hK h1 (List.getElem?_eq_getElem h2)
  exact ⟨c, Nat.zero_le _, hc, by rw [List.getElem?_eq_getElem h2, e]⟩
theorem isT_moved {h h' : Heap} {k : List Int} {b : Addr} {o : Obj} {e' : Array (Int × Value)} {p' : Nat} {t' : SetTable} (hb : L2.IsT P w h k b) (ho : h.get? a = some o) (hd : o.data = .set e' p' t') (sb : Heap.SameBut a h h') : L2.IsT P w h' k b := isT_same hb ho hd sb
/-- one more, or one that is there -/
theorem Tb.add (R : Tb P w s.heap a L es ep t) {x : Addr} {k : List Int} (hx : L2.IsT P w s.heap k x) (hu : A.units < cLine) (hl : k ∉ L.map (·.2) → L.length < 76) {Q : Bool → Shared → Prop}
    (hQ : ∀ b h' L' es' ep' t', Heap.SameBut a s.heap h' → Tb P w h' a L' es' ep' t' → (k ∈ L.map (·.2) → L' = L) → (k ∉ L.map (·.2) → L'.Perm ((x, k) :: L)) → Q b { s with heap := h' }) :
    wpAny (model P w) A (setAddHashed a (.ref x) (thash P w k)) Q E s := by
  by_cases h63 : L.length + 1 < 64
  · exact add_at (R.tr (by omega)) hx hu h63 fun b h' L' es' ep' t' h1 h2 => hQ b h' L' es' ep' t' h1 (.of h2)
  obtain ⟨o, ho, hex, hd⟩ := R.obj
  have spc := R.spc
  have m127 : t.mask = 127 := by
    rcases R.tbl.mok with e | e | e
    · omega
    · omega
    · exact e
  unfold setAddHashed
  refine wpAny_holding ?_
  rw [show (100000 : Nat) = 99999 + 1 from rfl, setAddHashedIn_succ]
  refine wpAny_bind (wpAny_setState_of ho hd R.fit ?_)
  dsimp only
  refine wp_if_neg (by simp [byScan, Value.scannable]) ?_
  try refine wpAny_bind (wpAny_pure ?_)
  refine wpAny_bind (R.find hx hu (fun hm => ?_) fun K hm hK hb => ?_)
  · dsimp only
    exact wpAny_pure (hQ false s.heap L es ep t (Heap.SameBut.refl a s.heap) R (fun _ => rfl) fun z => absurd hm z)
  dsimp only
  refine wpAny_bind (wpAny_setState_of ho hd R.fit ?_)
  dsimp only
  have hsz := R.len
  have h76 := hl hm
  obtain ⟨q1, q2, q3, q4, q5, q6, q7, q8, q9⟩ := R.tbl.put hK hb
  have pl : (t.put (way t.mask (thash P w k) K)).1.plain = true := by rw [q6]; exact R.pln
  have ld : w.params.followText "set-order" = true ∨ (t.put (way t.mask (thash P w k) K)).1.led = true := by rw [q5]; exact R.ldd
  have rw1 : (SetTable.insertAt es (SetTable.below t.place (way t.mask (thash P w k) K)) (thash P w k, Value.ref x)).toList = rowsOf P w (L.take (SetTable.below t.place (way t.mask (thash P w k) K)) ++ (x, k) :: L.drop (SetTable.below t.place (way t.mask (thash P w k) K))) := by
    rw [SetTable.toList_insertAt, rows_put, R.rws]
  have pm := put_perm L (SetTable.below t.place (way t.mask (thash P w k) K)) (x, k)
  have tb1 : TabOk (t.put (way t.mask (thash P w k) K)).1 ((L.take (SetTable.below t.place (way t.mask (thash P w k) K)) ++ (x, k) :: L.drop (SetTable.below t.place (way t.mask (thash P w k) K))).map fun p => thash P w p.2) := by
    rw [List.map_append, List.map_cons, List.map_take, List.map_drop]
    exact q3
  generalize hpt : t.put (way t.mask (thash P w k) K) = pt at q1 q4 q9 pl ld tb1 ⊢
  obtain ⟨t1, i1⟩ := pt
  dsimp only at q1 q4 q9 pl ld tb1 ⊢
  subst q1
  generalize SetTable.insertAt es (SetTable.below t.place (way t.mask (thash P w k) K)) (thash P w k, Value.ref x) = es1 at rw1 ⊢
  generalize L.take (SetTable.below t.place (way t.mask (thash P w k) K)) ++ (x, k) :: L.drop (SetTable.below t.place (way t.mask (thash P w k) K)) = L1 at rw1 pm tb1
  have n1 : L1.length = L.length + 1 := pm.length_eq
  have z1 : es1.size = L.length + 1 := by
    have e : es1.toList.length = (rowsOf P w L1).length := by rw [rw1]
    rw [← n1]
    simpa [rowsOf] using e
  have nd1 : (L1.map (·.2)).Nodup := (pm.map (·.2)).nodup_iff.mpr (List.nodup_cons.mpr ⟨hm, R.nod⟩)
  have nf : ¬ t1.tooFull = true := by
    unfold SetTable.tooFull
    rw [decide_eq_true_eq, q9, List.length_map, q4, m127]
    omega
  first
    | (refine wpAny_bind ?_; refine wp_if_pos pl ?_; refine hashBy_tup hx ?_)
    | refine wp_if_pos pl (wpAny_bind (hashBy_tup hx ?_))
  simp only [if_true]
  have sb : Heap.SameBut a s.heap (s.heap.update a (Obj.putSet es1 t1)) := Heap.SameBut.update ..
  refine wpAny_bind (wpAny_storeSet_of ho hd ?_ (by rw [z1, sizeLine_eq]; omega))
  have ho1 := store_at (es' := es1) (t' := t1) ho hd
  generalize s.heap.update a (Obj.putSet es1 t1) = h1 at sb ho1 ⊢
  have R1 : Tb P w h1 a L1 es1 (ep + 1) t1 := ⟨⟨_, ho1, ⟨hex.1, hex.2.1, hex.2.2⟩, rfl⟩, rw1, tb1, nd1, fun p hp => by
    rcases List.mem_cons.mp (pm.mem_iff.mp hp) with e | hp
    · rw [e]
      exact isT_moved hx ho hd sb
    · exact isT_moved (R.tps p hp) ho hd sb, pl, ld, by rw [n1, q4, m127]; omega⟩
  first
    | refine wp_if_neg (by simp [nf]) ?_
    | (refine wpAny_bind ?_; refine wp_if_neg (by simp [nf]) ?_; refine wpAny_pure ?_)
  exact wpAny_pure (hQ true h1 L1 es1 (ep + 1) t1 sb R1 (fun z => absurd z hm) fun _ => pm)
end
end DL

namespace DL
open PySem PySem.Spec PyProof.Rows L2
section
variable {P : Program} {w : World} {A : Around} {E : Value → Shared → Prop} {s : Shared}
theorem Tb.stay {h h' : Heap} {a : Addr} {L : List (Addr × List Int)} {es : Array (Int × Value)} {ep : Nat} {t : SetTable} (R : Tb P w h a L es ep t) (ha : ∀ o, h.get? a = some o → h'.get? a = some o) (ht : ∀ p ∈ L, L2.IsT P w h' p.2 p.1) : Tb P w h' a L es ep t := by
  obtain ⟨o, ho, r⟩ := R.obj
  exact ⟨⟨o, ha o ho, r⟩, R.rws, R.tbl, R.nod, ht, R.pln, R.ldd, R.spc⟩
/-- ks has at most 76 keys -/
def Few (ks : List (Addr × List Int)) : Prop := ∀ L : List (Addr × List Int), (∀ p ∈ L, p ∈ ks) → (L.map (·.2)).Nodup → L.length ≤ 76
/-- the items of a walk put into a set, one after the other -/
theorem tb_loop {I S : Addr} {fp wr : List Addr} {G : Array GenState → Array GenState → Prop} {n : Nat} {Pv : Nat → Value → Prop} {St : Nat → Shared → Prop} {R : Result → Shared → Prop}
    (W : WalksS P w A.in1 I fp wr G n Pv St) (hS : S ∉ fp) {ks : List (Addr × List Int)} (hn : n = ks.length) (few : Few ks) (hv : ∀ i v, Pv i v → ∃ p, ks[i]? = some p ∧ v = .ref p.1)
    {h0 : Heap} (hk : ∀ p ∈ ks, L2.IsT P w h0 p.2 p.1) (nS : h0.get? S = none) (nw : ∀ b ∈ wr, h0.get? b = none) (hu : A.in1.units < cLine)
    (fin : ∀ s' L es ep t, Moved (S :: wr) G s s' → Tb P w s'.heap S L es ep t → Got ks n L → (∀ b o, h0.get? b = some o → s'.heap.get? b = some o) → R (.ok (.ret .none)) s') :
    ∀ (m i : Nat) (s0 : Shared), n - i = m → i ≤ n → St i s0 → (∀ b o, h0.get? b = some o → s0.heap.get? b = some o) → Moved (S :: wr) G s s0 ∨ s = s0 → (∃ L es ep t, Tb P w s0.heap S L es ep t ∧ Got ks i L) →
      codeAny (model P w) A (.builtin "set.update.loop" ⟨[.ref S, .ref I], []⟩) R s0 := by
  have up : ∀ {s1 s2 : Shared}, Moved wr G s1 s2 → Moved (S :: wr) G s1 s2 := fun m => m.mono fun b hb => List.mem_cons_of_mem _ hb
  have old : ∀ {s1 s2 : Shared}, Moved wr G s1 s2 → (∀ b o, h0.get? b = some o → s1.heap.get? b = some o) → ∀ b o, h0.get? b = some o → s2.heap.get? b = some o := fun m h b o e =>
    m.heap b o (fun hb => by rw [nw b hb] at e; cases e) (h b o e)
  have nSw : S ∉ wr := fun h => hS (W.sub _ h)
  intro m
  induction m with
  | zero =>
    intro i s0 hm hi st hold hmv ⟨L, es, ep, t, hL, g⟩
    obtain rfl : i = n := by omega
    refine codeAny_builtin F.entry_set_update_loop ?_
    rw [Around.under_plainId F.plain_set_update_loop _]
    show wpAny _ A.in1 (pyNext (.ref I) >>= _) _ _ s0
    refine wpAny_bind (W.done s0 _ _ st fun s' mv => ?_)
    show wpAny _ A.in1 (ret Value.none) _ _ s'
    have hold' := old mv hold
    have all : Moved (S :: wr) G s s' := by
      rcases hmv with q | q
      · exact Moved.trans W.gtrans q (up mv)
      · rw [q]
        exact up mv
    exact wpAny_pure (fin s' L es ep t all (hL.stay (fun o e => mv.heap S o nSw e) fun p hp => isT_keep (hk p (List.mem_of_mem_take (g.sub p hp))) hold') g hold')
  | succ m ih =>
    intro i s0 hm hi st hold hmv ⟨L, es, ep, t, hL, g⟩
    have hlt : i < n := by omega
    refine codeAny_builtin F.entry_set_update_loop ?_
    rw [Around.under_plainId F.plain_set_update_loop _]
    show wpAny _ A.in1 (pyNext (.ref I) >>= _) _ _ s0
    refine wpAny_bind (W.item i s0 _ _ hlt st fun v s' hP st' mv => ?_)
    obtain ⟨p, hp, rfl⟩ := hv i v hP
    have hold' := old mv hold
    have sub : ∀ q ∈ L, q ∈ ks := fun q hq => List.mem_of_mem_take (g.sub q hq)
    have hpm := List.mem_of_getElem? hp
    have hL' : Tb P w s'.heap S L es ep t := hL.stay (fun o e => mv.heap S o nSw e) fun q hq => isT_keep (hk q (sub q hq)) hold'
    have hx : L2.IsT P w s'.heap p.2 p.1 := isT_keep (hk p hpm) hold'
    show wpAny _ A.in1 (holding [Value.ref p.1] (setAdd S (.ref p.1)) >>= _) _ _ s'
    refine wpAny_bind (wpAny_holding ?_)
    unfold setAdd
    refine wpAny_holding (wpAny_bind (wpAny_pyHash_tuple hu hx ?_))
    refine Tb.add (s := { s' with toks := s'.toks + (p.2.length + 1) }) hL' hx hu (fun hnew => ?_) fun b h' L' es' ep' t' sb hL2 c1 c2 => ?_
    · have := few (p :: L) (fun q hq => by
        rcases List.mem_cons.mp hq with rfl | hq
        · exact hpm
        · exact sub q hq) (List.nodup_cons.mpr ⟨hnew, hL.nod⟩)
      simp at this
      omega
    have g' : Got ks (i + 1) L' := by
      rcases Classical.em (p.2 ∈ L.map (·.2)) with c | c
      · rw [c1 c]
        exact g.same hp c
      · exact g.more hp (c2 c)
    have hold2 : ∀ b o, h0.get? b = some o → h'.get? b = some o := fun b o e => (sb.2 b (fun z => by rw [z, nS] at e; cases e)).trans (hold' b o e)
    have mv2 : Moved (S :: wr) G s0 { s' with heap := h', toks := s'.toks + (p.2.length + 1) } := (up mv).then_heap (Nat.le_add_right _ _) fun b o hb e => by
      rw [sb.2 b (fun h : b = S => hb (by rw [h]; exact List.mem_cons_self))]
      exact e
    have mv3 : Moved (S :: wr) G s { s' with heap := h', toks := s'.toks + (p.2.length + 1) } := by
      rcases hmv with q | q
      · exact Moved.trans W.gtrans q mv2
      · rw [q]
        exact mv2
    refine wpAny_pure ⟨plainId_quiet F.plain_set_update_loop _, ih (i + 1) _ (by omega) hlt (W.frame _ s' _ _ st' (Nat.le_add_right _ _) fun b hb o e => ?_) hold2 (.inl mv3) ⟨L', es', ep', t', hL2, g'⟩⟩
    rw [sb.2 b (fun h : b = S => hS (by rw [← h]; exact hb))]
    exact e
end
end DL

namespace DL
open PySem PySem.Spec PyProof.Rows L2
section
variable {P : Program} {w : World} {A : Around} {E : Value → Shared → Prop} {s : Shared}
/-- set(xs): xs a list of tuples of ints -/
theorem tb_call {l : Addr} {items : Array Value} (ks : List (Addr × List Int)) {Q : Value → Shared → Prop} (hh : A.handled = none) (hl : s.heap.IsList l items) (hit : items.toList = ks.map fun p => Value.ref p.1)
    (hk : ∀ p ∈ ks, L2.IsT P w s.heap p.2 p.1) (few : Few ks) (hu : A.units + 3 < cLine)
    (h : ∀ (h' : Heap) (tk : Nat) L es ep t, Tb P w h' s.heap.objs.size L es ep t → Got ks ks.length L → (∀ b o, s.heap.get? b = some o → h'.get? b = some o) → Q (.ref s.heap.objs.size) { s with heap := h', toks := tk }) :
    wpAny (model P w) A (call (.type "set") [.ref l]) Q E s := by
  have nit : items.size = ks.length := by
    rw [← Array.length_toList, hit, List.length_map]
  generalize hb : (s.heap.push { cls := .type "set", dict := none, data := .set #[] 0 (.fresh 0 0 (!w.params.followText "set-order")) } : Heap) = hp
  have hS : hp.get? s.heap.objs.size = some { cls := .type "set", dict := none, data := .set #[] 0 (.fresh 0 0 (!w.params.followText "set-order")) } := by
    rw [← hb]
    exact Heap.get?_push_size _ rfl
  have szp : hp.objs.size = s.heap.objs.size + 1 := by
    rw [← hb]
    exact Heap.size_push ..
  have up : ∀ b o, s.heap.get? b = some o → hp.get? b = some o := fun b o e => by
    rw [← hb]
    exact Heap.get?_push_of_some _ e
  obtain ⟨c, tl, hmro⟩ := F.called_set.mro
  have hmade := F.called_set.made
  have hsub := F.called_set.sub
  refine wpAny_call (codeAny_of_tree ?_)
  show wpAny _ _ (callAny (.type "set") _) _ _ _
  refine wpAny_pure ⟨Code.quiet_builtin _ (by decide +kernel), codeAny_builtin F.entry_type_call ?_⟩
  rw [Around.under_plain (weight_type_call_type "set" [.ref l] []) rfl]
  have h1 := F.called_set.notType
  have h2 := F.called_set.canCreate
  have hct := F.typeCall_set_1 (.ref l)
  repeat (any_goals (first | assumption | wp_step))
  refine codeAny_mono (code_set_led1 (.ref l) (E := E) (Q₁ := fun obj s1 => obj = .ref s.heap.objs.size ∧ s1 = { s with heap := hp }) ⟨rfl, by rw [← hb]⟩) fun r s1 hr => ?_
  cases r with
  | error e => exact hr
  | ok fl =>
    cases fl with
    | ret obj =>
      obtain ⟨rfl, rfl⟩ := hr
      have hT : Shared.TypeIs { s with heap := hp } (.ref s.heap.objs.size) "set" := ⟨_, hS, rfl⟩
      have hli := F.called_set.init.lookup
      have hbi := F.called_set.init.bind (.ref s.heap.objs.size)
      repeat (any_goals (first | assumption | wp_step))
      refine codeAny_mono (codeAny_call_builtin (R := wants (fun r s2 => r = .none ∧ ∃ h' tk L es ep t, s2 = { s with heap := h', toks := tk } ∧ Tb P w h' s.heap.objs.size L es ep t ∧ Got ks ks.length L ∧
          (∀ b o, s.heap.get? b = some o → h'.get? b = some o)) E) F.called_set.init.plain F.entry_set_init (check_set_init_1 hT ?_)) fun r2 s2 hr2 => ?_
      · obtain ⟨ol, hol, hcl, nl, hdl⟩ := hl
        obtain ⟨ocls, odict, odata, oslots⟩ := ol
        simp only at hcl hdl
        subst hcl; subst hdl
        have hol' := up _ _ hol
        have hsls := F.sub_list_set
        have hslf := F.sub_list_frozenset
        have hne : (Value.type "list" == Value.type "dict") = false := by decide
        have hl1 : hp.IsList l items := ⟨_, hol', rfl, nl, rfl⟩
        unfold Builtin.«set.__init__» noKeywords Builtin.Frozenset.updateFrom
        generalize hPI : pyIter = PI
        wp_walk
        subst hPI
        refine wpAny_pyIter_list hl1 (wpAny_bind (wpAny_runValue ?_))
        have hlS : l < s.heap.objs.size := Heap.lt_size hol
        have hh3 : A.in1.in1.in1.handled = none := by simp [hh]
        have n1 : l ≠ hp.objs.size := by
          rw [szp]
          exact Nat.ne_of_lt (Nat.lt_succ_of_lt hlS)
        have n2 : s.heap.objs.size ∉ [hp.objs.size, l] := by
          rw [szp]
          simp only [List.mem_cons, List.not_mem_nil, or_false, not_or]
          exact ⟨Nat.ne_of_lt (Nat.lt_succ_self _), Nat.ne_of_gt hlS⟩
        have fresh : ∀ b, s.heap.objs.size ≤ b → s.heap.get? b = none := fun b hb => by
          cases q : s.heap.get? b with
          | none => rfl
          | some o => exact absurd (Nat.lt_of_lt_of_le (Heap.lt_size q) hb) (Nat.lt_irrefl _)
        have hval : ∀ (i : Nat) (v : Value), items[i]? = some v → ∃ p, ks[i]? = some p ∧ v = .ref p.1 := fun i v hv => by
          have q : (ks.map fun p => Value.ref p.1)[i]? = some v := by rw [← hit, Array.getElem?_toList]; exact hv
          rw [List.getElem?_map] at q
          cases hq : ks[i]? with
          | none => rw [hq] at q; cases q
          | some p =>
            rw [hq] at q
            exact ⟨p, rfl, (Option.some.inj q).symm⟩
        have hget : (hp.push { cls := .type "list_iterator", data := .fields #[.ref l, .int 0 0] }).get? s.heap.objs.size = some { cls := .type "set", dict := none, data := .set #[] 0 (.fresh 0 0 (!w.params.followText "set-order")) } := Heap.get?_push_of_some _ hS
        refine tb_loop (s := { s with heap := hp.push { cls := .type "list_iterator", data := .fields #[.ref l, .int 0 0] } }) ((Walks.list hh3 _ l n1 items).toS) n2 nit few hval hk (fresh _ (Nat.le_refl _)) (fun b hb => fresh b (by
            rw [List.mem_singleton.mp hb, szp]
            exact Nat.le_succ _)) hu (fun s' L es ep t mv' hS' g' hkp => ?_) (items.size - 0) 0 _ (by omega) (Nat.zero_le _)
          ⟨⟨_, Heap.get?_push_size _ rfl, rfl, rfl⟩, (hl1.push _)⟩ (fun b o e => Heap.get?_push_of_some _ (up b o e)) (.inr rfl) ⟨[], #[], 0, _, .of (setTR_fresh hget), Got.zero ks⟩
        obtain ⟨h', g2, d', tk', os'⟩ := s'
        have eg : g2 = s.gens := mv'.gens
        have ed : d' = s.drawn := mv'.drawn
        have eo : os' = s.os := mv'.os
        subst eg; subst ed; subst eo
        show wpAny _ _ _ _ _ _
        refine wpAny_pure ?_
        show wpAny _ _ (ret Value.none) _ _ _
        rw [nit] at g'
        exact wpAny_pure ⟨rfl, h', tk', L, es, ep, t, rfl, hS', g', hkp⟩
      · cases r2 with
        | error e => exact hr2
        | ok fl2 =>
          cases fl2 with
          | ret r =>
            obtain ⟨rfl, h', tk, L, es, ep, t, rfl, hS', g', hk'⟩ := hr2
            repeat (any_goals (first | assumption | wp_step))
            exact h _ _ _ _ _ _ hS' g' hk'
          | _ => exact hr2.elim
    | _ => exact hr.elim
end
end DL

namespace DL
open PySem PySem.Spec PyProof.Rows L2
/-! ### sorted(set(xs)) -/
def leL (a b : List Int) : Bool := decide (a ≤ b)
abbrev pyT (r : List Int) : PyData := .tuple (r.map .int)
theorem dataLe_pyT {β : Type} (k : β → List Int) : PySem.W.dataLe false (fun b => pyT (k b)) = fun a b => leL (k a) (k b) := by
  funext a b
  show (!PySem.W.dataLt (.tuple ((k b).map .int)) (.tuple ((k a).map .int))) = _
  rw [PySem.W.dataLt_tuple]
  show (!PySem.W.rowLt ((k b).map .int) ((k a).map .int)) = _
  rw [PySem.W.dataLt_ints]
  unfold leL
  by_cases h : k b < k a
  · have h' : ¬ k a ≤ k b := fun r => List.not_lt.mpr r h
    simp [h, h']
  · have h' : k a ≤ k b := List.not_lt.mp h
    simp [h, h']
theorem leL_tr {a b c : List Int} (h1 : leL a b = true) (h2 : leL b c = true) : leL a c = true := by
  unfold leL at *
  exact decide_eq_true (List.le_trans (of_decide_eq_true h1) (of_decide_eq_true h2))
theorem leL_tot (a b : List Int) : (leL a b || leL b a) = true := by
  unfold leL
  rcases List.le_total a b with h | h <;> simp [h]
theorem leL_anti {a b : List Int} (h1 : leL a b = true) (h2 : leL b a = true) : a = b := List.le_antisymm (of_decide_eq_true h1) (of_decide_eq_true h2)
/-- the sorted list of some rows -/
def srtL (rs : List (List Int)) : List (List Int) := isort leL rs
theorem srtL_perm (rs : List (List Int)) : (srtL rs).Perm rs := isort_perm rs
theorem insS_sorted {x : List Int} : ∀ {l : List (List Int)}, l.Pairwise (fun a b => leL a b = true) → (insS leL x l).Pairwise (fun a b => leL a b = true)
  | [], _ => by simp [insS]
  | y :: l, h => by
    obtain ⟨h1, h2⟩ := List.pairwise_cons.mp h
    unfold insS
    split
    · rename_i hx
      exact List.pairwise_cons.mpr ⟨fun z hz => by
        rcases List.mem_cons.mp hz with rfl | hz
        · exact hx
        · exact leL_tr hx (h1 z hz), h⟩
    · rename_i hx
      have hyx : leL y x = true := by
        have := leL_tot x y
        simp only [hx, Bool.false_or] at this
        exact this
      refine List.pairwise_cons.mpr ⟨fun z hz => ?_, insS_sorted h2⟩
      have hm : ∀ l : List (List Int), ∀ z ∈ insS leL x l, z = x ∨ z ∈ l := fun l => by
        induction l with
        | nil => intro z hz; simp [insS] at hz; exact .inl hz
        | cons u l ih =>
          intro z hz
          unfold insS at hz
          split at hz
          · simpa using hz
          · rcases List.mem_cons.mp hz with rfl | hz
            · exact .inr List.mem_cons_self
            · rcases ih z hz with e | e
              · exact .inl e
              · exact .inr (List.mem_cons_of_mem _ e)
      rcases hm l z hz with rfl | hz
      · exact hyx
      · exact h1 z hz
theorem srtL_sorted : ∀ rs : List (List Int), (srtL rs).Pairwise (fun a b => leL a b = true)
  | [] => List.Pairwise.nil
  | r :: rs => insS_sorted (srtL_sorted rs)
theorem srtL_uniq {a b : List (List Int)} (h : a.Perm b) : srtL a = srtL b :=
  List.Perm.eq_of_pairwise (fun x y _ _ h1 h2 => leL_anti h1 h2) (srtL_sorted a) (srtL_sorted b) (((srtL_perm a).trans h).trans (srtL_perm b).symm)
end DL

namespace DL
open PySem PySem.Spec PyProof.Rows L2
section
variable {P : Program} {w : World} {A : Around} {E : Value → Shared → Prop} {s : Shared}
theorem readsAll_ints {h : Heap} {vs : List Value} {k : List Int} (e : IntsAre vs k) : ReadsAll h vs (k.map .int) [] := by
  induction e with
  | nil => exact .nil
  | cons n t _ ih => exact .cons (.int n t) ih
theorem reads_isT {h : Heap} {k : List Int} {b : Addr} (x : L2.IsT P w h k b) : Reads h (.ref b) (pyT k) [] := by
  obtain ⟨o, items, n, ho, hc, hd, hi⟩ := x
  exact .tuple ho hc hd (readsAll_ints (ints_of_items hi))
theorem each_refs {R : Value → Addr × List Int → Prop} : ∀ {l : List (Addr × List Int)}, (∀ p ∈ l, R (.ref p.1) p) → PySem.W.EachIs R (l.map fun p => Value.ref p.1) l
  | [], _ => .nil
  | p :: l, h => .cons (h p List.mem_cons_self) (each_refs fun q hq => h q (List.mem_cons_of_mem _ hq))
theorem refs_each : ∀ {vs : List Value} {l : List (Addr × List Int)}, PySem.W.EachIs (fun v p => v = Value.ref p.1) vs l → vs = l.map fun p => Value.ref p.1
  | _, _, .nil => rfl
  | _, _, .cons e r => by rw [e, refs_each r]; rfl
/-- a list of values that is some rows' addresses in some order -/
theorem perm_refs {vs : List Value} {L : List (Addr × List Int)} (h : vs.Perm (L.map fun q => Value.ref q.1)) : ∃ L1 : List (Addr × List Int), vs = L1.map (fun q => Value.ref q.1) ∧ L1.Perm L := by
  have key : ∀ {vs us : List Value}, vs.Perm us → ∀ L : List (Addr × List Int), us = L.map (fun q => Value.ref q.1) → ∃ L1 : List (Addr × List Int), vs = L1.map (fun q => Value.ref q.1) ∧ L1.Perm L := by
    intro vs us h
    induction h with
    | nil =>
      intro L e
      cases L with
      | nil => exact ⟨[], rfl, .nil⟩
      | cons q L => cases e
    | cons x _ ih =>
      intro L e
      cases L with
      | nil => cases e
      | cons q L =>
        injection e with e1 e2
        obtain ⟨L1, a1, a2⟩ := ih L e2
        exact ⟨q :: L1, by rw [e1, a1]; rfl, a2.cons q⟩
    | swap x y l =>
      intro L e
      match L, e with
      | [], e => cases e
      | [q], e => cases e
      | q :: r :: L, e =>
        injection e with e1 e2
        injection e2 with e2 e3
        exact ⟨r :: q :: L, by rw [e1, e2, e3]; rfl, .swap q r L⟩
    | trans _ _ ih1 ih2 =>
      intro L e
      obtain ⟨L1, a1, a2⟩ := ih2 L e
      obtain ⟨L2, b1, b2⟩ := ih1 L1 a1
      exact ⟨L2, b1, b2.trans a2⟩
  exact key h L rfl
theorem tb_sorted {a : Addr} {L : List (Addr × List Int)} {es : Array (Int × Value)} {ep : Nat} {t : SetTable} {Q : Value → Shared → Prop} (R : Tb P w s.heap a L es ep t) (hh : A.handled = none) (hu : A.units + 4 < cLine) (hne : ∀ p ∈ L, p.2 ≠ [])
    (hQ : ∀ s' p (out : Array Value) (c : Nat) (L' : List (Addr × List Int)), (∀ b o, s.heap.get? b = some o → s'.heap.get? b = some o) → s'.gens = s.gens → s'.os = s.os → s.heap.objs.size ≤ p →
      s'.heap.get? p = some (seqObj "list" out c) → out.toList = L'.map (fun q => Value.ref q.1) → (∀ q ∈ L', q ∈ L) → L'.map (·.2) = srtL (L.map (·.2)) → Q (.ref p) s') :
    wpAny (model P w) A (call (.builtin "sorted") [.ref a]) Q E s := by
  obtain ⟨o, ho, hex, hd⟩ := R.obj
  have n1 := R.len
  have spc := R.spc
  have n76 : L.length ≤ 76 := by
    rcases R.tbl.mok with e | e | e <;> omega
  refine Calls.call_function_entry kind_sorted plain_sorted entry_sorted (args_sorted1 _) ?_
  unfold Builtin.«sorted»
  refine wpAny_bind (m := checkCount "sorted" 1 1 _) (wpAny_pure ?_)
  refine wpAny_bind (collect_set (A := A.in1) hh ⟨o, ho, hex.1, hd⟩ R.fit (by unfold scanBound; omega) R.tbl.ris R.ldd fun s1 vs k1 hz g1 o1 pm => ?_)
  have hes : es.toList.map (·.2) = L.map fun q => Value.ref q.1 := by
    rw [R.rws, rowsOf, List.map_map]
    rfl
  rw [hes] at pm
  obtain ⟨L1, rfl, pL⟩ := perm_refs pm
  have nL : L1.length ≤ 76 := by rw [pL.length_eq]; exact n76
  refine wpAny_bind (wpAny_newList ?_ (by rw [List.length_map, sizeLine_eq]; omega))
  have hoL : (s1.heap.push (seqObj "list" (L1.map fun q => Value.ref q.1).toArray 0)).get? s1.heap.objs.size = some (seqObj "list" (L1.map fun q => Value.ref q.1).toArray 0) := Heap.get?_push_size _ rfl
  have rd : ∀ q ∈ L1, Reads (s1.heap.push (seqObj "list" (L1.map fun q => Value.ref q.1).toArray 0)) (.ref q.1) (pyT q.2) [] := fun q hq => reads_isT (P := P) (w := w) (isT_keep (R.tps q (pL.mem_iff.mp hq)) fun b u e => Heap.get?_push_of_some _ (k1 b u e))
  have al : PySem.W.AllAlike (L1.map fun q => pyT q.2) := by
    intro d hd d' hd'
    obtain ⟨q, _, rfl⟩ := List.mem_map.mp hd
    obtain ⟨r, _, rfl⟩ := List.mem_map.mp hd'
    have e : ∀ x y : List Int, PySem.W.alikeAll (x.map .int) (y.map .int) = true := fun x => by
      induction x with
      | nil => intro y; cases y <;> simp [PySem.W.alikeAll]
      | cons i x ih => intro y; cases y with
        | nil => simp [PySem.W.alikeAll]
        | cons j y =>
          show PySem.W.alikeAll (.int i :: x.map .int) (.int j :: y.map .int) = true
          rw [PySem.W.alikeAll, ih y]
          rfl
    show PySem.W.alike (.tuple (q.2.map .int)) (.tuple (r.2.map .int)) = true
    rw [PySem.W.alike, e]
  have so : PySem.W.Sortable (L1.map fun q => pyT q.2) := by
    refine .inl fun d hd => ?_
    obtain ⟨q, hq, rfl⟩ := List.mem_map.mp hd
    have := hne q (pL.mem_iff.mp hq)
    cases hk : q.2 with
    | nil => exact absurd hk this
    | cons i k => exact ⟨.int i, k.map .int, rfl⟩
  have dep : ∀ k : List Int, (pyT k).depth ≤ 1 := fun k => by
    have : ∀ k : List Int, PyData.depthAll (k.map .int) = 0 := fun k => by
      induction k with
      | nil => simp [PyData.depthAll]
      | cons i k ih => simp [PyData.depthAll, PyData.depth, ih]
    show (PyData.tuple (k.map .int)).depth ≤ 1
    simp [PyData.depth, this]
  have hA : A.in1.units ≤ A.units + 1 := by first | exact Nat.le_refl _ | simp [Around.in1]
  refine wpAny_bind (wpAny_holding (PySem.W.list_sort_data (s := { s1 with heap := s1.heap.push (seqObj "list" (L1.map fun q => Value.ref q.1).toArray 0) }) (R := fun v q => v = Value.ref q.1) (bs := L1) (enc := fun q => pyT q.2) hoL (each_refs fun _ _ => rfl)
    (each_refs fun q hq => ⟨[], rd q hq, by simp⟩) al so (by rw [sizeLine_eq]; omega) (fun b _ => by have := dep b.2; omega) fun out hout eo => ?_))
  rw [dataLe_isort, dataLe_pyT] at eo
  obtain ⟨c, hc⟩ := sortedHeap_at (vs := L1.map fun q => Value.ref q.1) (out := out.toArray) hoL
  refine wpAny_pure ⟨_, rfl, hQ _ s1.heap.objs.size out.toArray c _ (fun b u e => ?_) g1 o1 hz hc (refs_each eo) (fun q hq => pL.mem_iff.mp ((isort_perm _).mem_iff.mp hq)) ?_⟩
  · have q := k1 b u e
    have hlt := Heap.lt_size q
    show (sortedHeap (s1.heap.push (seqObj "list" (L1.map fun q => Value.ref q.1).toArray 0)) s1.heap.objs.size (L1.map fun q => Value.ref q.1) out.toArray).get? b = some u
    rw [sortedHeap_old (Nat.ne_of_lt hlt) (by rw [size_push']; exact Nat.lt_succ_of_lt hlt)]
    exact Heap.get?_push_of_some _ q
  · rw [isort_map (le := leL) (fun q : Addr × List Int => q.2)]
    exact srtL_uniq (pL.map (·.2))
end
end DL

namespace DL
open PySem PySem.Spec PyProof.Rows L2
/-! ### sorted(set(xs)) as data -/
structure SetAtQ (P : Program) (w : World) (h : Heap) (a : Addr) (L : List (Addr × List Int)) : Prop where
  ex : ∃ (es : Array (Int × Value)) (ep : Nat) (t : SetTable), (∃ o, h.get? a = some o ∧ o.ExactSet ∧ o.data = .set es ep t) ∧ es.toList = rowsOf P w L ∧ TabOk t (L.map fun p => thash P w p.2) ∧ (L.map (·.2)).Nodup ∧ t.plain = true ∧
    (w.params.followText "set-order" = true ∨ t.led = true) ∧ L.length * 5 < t.mask * 3
def setQ (P : Program) (w : World) (a : Addr) (L : List (Addr × List Int)) : HO := .ext fun h => SetAtQ P w h a L
theorem setQ_new {P : Program} {w : World} {H : Hp} {h : Heap} {a : Addr} {L : List (Addr × List Int)} (R : SetAtQ P w h a L) : ObjOk P w H h a (setQ P w a L) := by
  obtain ⟨es, ep, t, ⟨o, ho, r⟩, q⟩ := R.ex
  refine ⟨R, ⟨o, ho⟩, fun h1 h2 p k => ?_⟩
  obtain ⟨es', ep', t', ⟨o', ho', r'⟩, q'⟩ := SetAtQ.ex p
  exact ⟨es', ep', t', ⟨o', k o' ho', r'⟩, q'⟩
section
variable {X : Cx}
def rSetQ (K : PySem.W.Frag) (P : Program) (w : World) : List V → Hp → VK → Prop := fun xs H Q => ∃ (l : Addr) (ks : List (Addr × List Int)), xs = [V.ref l] ∧ SqL K H l (ks.map fun p => V.ref p.1) ∧ (∀ p ∈ ks, SqT K H p.1 (p.2.map V.int)) ∧ Few ks ∧
  ∀ a L, H a = none → (∀ p ∈ L, p ∈ ks) → (∀ p ∈ ks, p.2 ∈ L.map (·.2)) → (L.map (·.2)).Nodup → Q (.ref a) (upd H a (setQ P w a L))
theorem cr_setQ (hc : X.calm = true) (hu : X.A.units + 64 < cLine) : CallR X (.type "set") (rSetQ X.K X.prog X.w) := by
  intro pins s σ H xs us Q I r h
  obtain ⟨l, ks, rfl, hl, hk, hf, q⟩ := h
  rw [Vals.ref1 r]
  obtain ⟨its, rv, pl, hz⟩ := I.list hl
  have hn : H s.heap.objs.size = none := I.hok.fresh (Nat.le_refl _)
  refine tb_call (P := X.prog) (w := X.w) ks (I.ok.hd hc) pl.isList (by simpa using refs_of_vals rv) (fun p hp => I.isT (hk p hp)) hf (by omega) fun h' tk L es ep t R g k => ?_
  have R0 : SetAtQ X.prog X.w h' s.heap.objs.size L := ⟨es, ep, t, R.obj, R.rws, R.tbl, R.nod, R.pln, R.ldd, R.spc⟩
  exact ⟨.ref s.heap.objs.size, upd H s.heap.objs.size (setQ X.prog X.w s.heap.objs.size L), I.laid (t' := tk) k (Nat.le_refl _) (setQ_new R0), rfl, q _ L hn (fun p hp => List.mem_of_mem_take (g.sub p hp)) (fun p hp => g.all p (by rw [List.take_length]; exact hp)) R.nod⟩
def rSortQ (K : PySem.W.Frag) (P : Program) (w : World) : List V → Hp → VK → Prop := fun vs H Q => ∃ (a : Addr) (L : List (Addr × List Int)), vs = [V.ref a] ∧ H a = some (setQ P w a L) ∧ (∀ p ∈ L, SqT K H p.1 (p.2.map V.int)) ∧ (∀ p ∈ L, p.2 ≠ []) ∧
  ∀ (L' : List (Addr × List Int)) (p : Addr), (∀ q ∈ L', q ∈ L) → L'.map (·.2) = srtL (L.map (·.2)) → H p = none → Q (.ref p) (upd H p (.lst (L'.map fun q => V.ref q.1)))
theorem cr_sortQ (hc : X.calm = true) (hu : X.A.units + 64 < cLine) : CallR X (.builtin "sorted") (rSortQ X.K X.prog X.w) := by
  intro pins s σ H vs us Q I r h
  obtain ⟨a, L, rfl, ha, hk, hne, q⟩ := h
  have R0 : SetAtQ X.prog X.w s.heap a L := (I.hok a _ ha).1
  obtain ⟨es, ep, t, h1, h2, h3, h4, h5, h6, h7⟩ := R0.ex
  have R : Tb X.prog X.w s.heap a L es ep t := ⟨h1, h2, h3, h4, fun p hp => I.isT (hk p hp), h5, h6, h7⟩
  have n76 : L.length ≤ 76 := by
    rcases h3.mok with e | e | e <;> omega
  rw [Vals.ref1 r]
  refine tb_sorted R (I.ok.hd hc) (by omega) hne fun s' p out c L' k g o hp hg hout sub es' => ?_
  have nL' : L'.length = L.length := by
    have e : (L'.map (·.2)).length = (srtL (L.map (·.2))).length := by rw [es']
    rw [(srtL_perm _).length_eq] at e
    simpa using e
  have hlen : (L'.map fun q => V.ref q.1).length ≤ sizeLine := by rw [List.length_map, sizeLine_eq]; omega
  have hn : H p = none := I.hok.fresh hp
  have hv : Vals (L'.map fun q => V.ref q.1) out.toList := by rw [hout]; exact vals_of_refs L'
  have J : Inv X pins σ (upd H p (.lst (L'.map fun q => V.ref q.1))) { s with heap := s'.heap, gens := s'.gens, drawn := s'.drawn, toks := s'.toks } :=
    I.call (ch := []) (Un.laid k hp hn) (I.hok.laid k hp ⟨hlen, out.toList, c, hv, hg⟩) (by rw [g]; exact I.bare) (fun _ z => nomatch z)
  have e : s' = { s with heap := s'.heap, gens := s'.gens, drawn := s'.drawn, toks := s'.toks } := by
    cases s'
    cases s
    cases o
    rfl
  rw [e]
  exact ⟨.ref p, _, J, rfl, q L' p sub es' hn⟩
end
/-- the rows of a list, each once -/
def ddp : List (List Int) → List (List Int)
  | [] => []
  | a :: l => if a ∈ ddp l then ddp l else a :: ddp l
theorem mem_ddp {a : List Int} : ∀ {l : List (List Int)}, a ∈ ddp l ↔ a ∈ l
  | [] => by simp [ddp]
  | b :: l => by
    unfold ddp
    split
    · rename_i h
      rw [mem_ddp, List.mem_cons]
      exact ⟨.inr, fun z => z.elim (fun e => by rw [e]; exact mem_ddp.mp h) id⟩
    · rw [List.mem_cons, List.mem_cons, mem_ddp]
theorem ddp_nodup : ∀ l : List (List Int), (ddp l).Nodup
  | [] => List.nodup_nil
  | a :: l => by
    unfold ddp
    split
    · exact ddp_nodup l
    · rename_i h
      exact List.nodup_cons.mpr ⟨h, ddp_nodup l⟩
theorem nodup_le {α : Type} [DecidableEq α] : ∀ {l D : List α}, l.Nodup → (∀ x ∈ l, x ∈ D) → l.length ≤ D.length
  | [], _, _, _ => Nat.zero_le _
  | a :: l, D, nd, h => by
    obtain ⟨n1, n2⟩ := List.nodup_cons.mp nd
    have ha := h a List.mem_cons_self
    have := nodup_le (l := l) (D := D.erase a) n2 fun x hx => (List.mem_erase_of_ne (fun e => n1 (by rw [← e]; exact hx))).mpr (h x (List.mem_cons_of_mem _ hx))
    rw [List.length_erase_of_mem ha] at this
    have := List.length_pos_of_mem ha
    simp
    omega
theorem perm_ddp {l : List (List Int)} {D : List (List Int)} (nd : D.Nodup) (h1 : ∀ x ∈ D, x ∈ l) (h2 : ∀ x ∈ l, x ∈ D) : D.Perm (ddp l) :=
  (List.perm_ext_iff_of_nodup nd (ddp_nodup l)).mpr fun x => ⟨fun h => mem_ddp.mpr (h1 x h), fun h => h2 x (mem_ddp.mp h)⟩
def intsK : List D → Option (List Int)
  | [] => some []
  | .int i :: l => (intsK l).map (i :: ·)
  | _ => none
def rowK : D → Option (List Int)
  | .tup (.int i :: l) => (intsK l).map (i :: ·)
  | _ => none
def rowsK : List D → Option (List (List Int))
  | [] => some []
  | d :: l => match rowK d, rowsK l with
    | some k, some ks => some (k :: ks)
    | _, _ => none
def rowT (k : List Int) : D := .tup (k.map .int)
theorem intsK_eq : ∀ {l : List D} {k : List Int}, intsK l = some k → l = k.map .int
  | [], k, h => by cases h; rfl
  | .int i :: l, k, h => by
    have h : (intsK l).map (i :: ·) = some k := h
    cases e : intsK l with
    | none => rw [e] at h; cases h
    | some k' =>
      rw [e] at h
      cases h
      rw [intsK_eq e]
      rfl
theorem rowK_eq {d : D} {k : List Int} (h : rowK d = some k) : d = rowT k ∧ k ≠ [] := by
  unfold rowK at h
  split at h
  · rename_i i l
    cases e : intsK l with
    | none => rw [e] at h; cases h
    | some k' =>
      rw [e] at h
      cases h
      rw [intsK_eq e]
      exact ⟨rfl, by simp⟩
  · cases h
theorem rowsK_eq : ∀ {l : List D} {ks : List (List Int)}, rowsK l = some ks → l = ks.map rowT ∧ ∀ k ∈ ks, k ≠ []
  | [], ks, h => by
    cases h
    exact ⟨rfl, fun k hk => by cases hk⟩
  | d :: l, ks, h => by
    unfold rowsK at h
    split at h
    · rename_i k ks' h1 h2
      cases h
      obtain ⟨a1, a2⟩ := rowK_eq h1
      obtain ⟨b1, b2⟩ := rowsK_eq h2
      refine ⟨by rw [a1, b1]; rfl, fun x hx => ?_⟩
      rcases List.mem_cons.mp hx with rfl | hx
      · exact a2
      · exact b2 x hx
    · cases h
def φSortSet : List D → Option D
  | [.lst o xs] => match rowsK xs with
    | some ks => if (ddp ks).length ≤ 76 ∧ xs.length ≤ SZ then some (.lst true ((srtL (ddp ks)).map rowT)) else none
    | none => none
  | _ => none
section
variable {C : Ctx} {F : FS} {H H' : Hp} {q : List Addr} {m : Bool}
theorem reps_rows : ∀ {ks : List (List Int)} {vs : List V} {q : List Addr}, C.reps F H (ks.map rowT) vs q → ∃ kp : List (Addr × List Int), vs = kp.map (fun p => V.ref p.1) ∧ kp.map (·.2) = ks ∧ ∀ p ∈ kp, C.rep F H (rowT p.2) (.ref p.1) [] ∧ SqT C.X.K H p.1 (p.2.map V.int)
  | [], vs, q, h => ⟨[], h.1, rfl, fun p hp => by cases hp⟩
  | k :: ks, vs, q, ⟨v, ws, q1, q2, e, h1, h2, _⟩ => by
    obtain ⟨kp, a1, a2, a3⟩ := reps_rows h2
    obtain ⟨a, us, e2, ha, ru, e3⟩ := h1
    subst e2 e3
    refine ⟨(a, k) :: kp, by rw [e, a1]; rfl, by rw [← a2]; rfl, fun p hp => ?_⟩
    rcases List.mem_cons.mp hp with rfl | hp
    · refine ⟨⟨a, us, rfl, ha, ru, rfl⟩, ?_⟩
      have eu : us = k.map V.int := by
        have key : ∀ {k : List Int} {us : List V} {q : List Addr}, C.reps F H (k.map .int) us q → us = k.map V.int := fun {k} => by
          induction k with
          | nil => exact fun h => h.1
          | cons i k ih =>
            rintro us q ⟨v, ws, q1, q2, e, h1, h2, _⟩
            rw [e, ih h2, h1.1]
            rfl
        exact key ru
      rw [← eu]
      exact SqT.of ha
    · exact a3 p hp
theorem reps_of_rows : ∀ {kp : List (Addr × List Int)}, (∀ p ∈ kp, C.rep F H (rowT p.2) (.ref p.1) []) → C.reps F H ((kp.map (·.2)).map rowT) (kp.map fun p => V.ref p.1) []
  | [], _ => ⟨rfl, rfl⟩
  | p :: kp, h => ⟨_, _, [], [], rfl, h p List.mem_cons_self, reps_of_rows fun q hq => h q (List.mem_cons_of_mem _ hq), rfl⟩
theorem sqT_grow {K : PySem.W.Frag} {a : Addr} {xs : List V} (h : SqT K H a xs) (g : ∀ a o, H a = some o → H' a = some o) : SqT K H' a xs := by
  rcases h with (h | ⟨o, h⟩) | h
  · exact .inl (.inl (g _ _ h))
  · exact .inl (.inr ⟨o, g _ _ h⟩)
  · exact .inr h
abbrev rSortSet (X : Cx) : List V → Hp → VK → Prop := fun vs H Q => rSetQ X.K X.prog X.w vs H fun x H2 => rSortQ X.K X.prog X.w [x] H2 Q
theorem ok_sortSet : RdOK C φSortSet (rSortSet C.X) := by
  intro F H ds vs d Q hs trk e h
  unfold φSortSet at e
  split at e
  case h_2 => cases e
  rename_i o xs
  split at e
  case h_2 => cases e
  rename_i ks ek
  split at e
  case isFalse => cases e
  rename_i hl
  cases e
  obtain ⟨x, rfl, h1⟩ := iss1 hs
  obtain ⟨a, us, q1, rfl, ha, ra, _⟩ := is_lst h1
  obtain ⟨ex, ne⟩ := rowsK_eq ek
  rw [ex] at ra
  obtain ⟨kp, rfl, e2, hp⟩ := reps_rows ra
  refine ⟨a, kp, rfl, SqL.of ha, fun p hq => (hp p hq).2, fun L sub nd => ?_, fun b L hb sub all nd => ?_⟩
  · have := nodup_le (D := ddp ks) nd fun x hx => by
      obtain ⟨p, hpL, rfl⟩ := List.mem_map.mp hx
      rw [mem_ddp, ← e2]
      exact List.mem_map.mpr ⟨p, sub p hpL, rfl⟩
    rw [List.length_map] at this
    omega
  · have g1 := grow_upd (o := setQ C.X.prog C.X.w b L) hb
    refine ⟨b, L, rfl, upd_same, fun p hpL => sqT_grow (hp p (sub p hpL)).2 g1, fun p hpL => ne _ (by rw [← e2]; exact List.mem_map.mpr ⟨p, sub p hpL, rfl⟩), fun L' p sL eL hn => ?_⟩
    have pe : (L.map (·.2)).Perm (ddp ks) := perm_ddp nd (fun x hx => by
      obtain ⟨p, hpL, rfl⟩ := List.mem_map.mp hx
      rw [← e2]
      exact List.mem_map.mpr ⟨p, sub p hpL, rfl⟩) fun x hx => by
      rw [← e2] at hx
      obtain ⟨p, hpk, rfl⟩ := List.mem_map.mp hx
      exact all p hpk
    rw [srtL_uniq pe] at eL
    have hn0 : H p = none := by
      cases hz : H p with
      | none => rfl
      | some u =>
        rw [g1 p u hz] at hn
        cases hn
    refine h _ _ [p] (fun c u hc => grow_upd hn c u (g1 c u hc)) (fun c hc => by rw [List.mem_singleton.mp hc]; exact hn0) (by simp) ?_
    rw [← eL]
    exact new_lst (reps_of_rows fun q hq => rep_mono (hp q (sub q (sL q hq))).1 (Stab.grow g1)) hn
/-- sorted(set(e)) -/
theorem x_sortSet {e : Expr} {o : Opd} {p1 p2 pos pos' : Pos} (hc : C.X.calm = true) (hu : C.X.A.units + 64 < cLine) (g1 : Gl C.X "sorted") (m1 : C.X.mg "sorted" = none) (g2 : Gl C.X "set") (m2 : C.X.mg "set" = none) (he : PE C.X e (tO C m o))
    (h1 : starEach [e] C.X.env = (false, eval e C.X.env) :: starEach [] C.X.env := by rfl) (h2 : starEach [.Call (.Name "set" p2) [e] [] pos'] C.X.env = (false, eval (.Call (.Name "set" p2) [e] [] pos') C.X.env) :: starEach [] C.X.env := by rfl)
    (h3 : (backTo pos' (starEach [] C.X.env)).any (·.1) = false := by rfl) (h4 : (backTo pos (starEach [] C.X.env)).any (·.1) = false := by rfl) :
    PE C.X (.Call (.Name "sorted" p1) [.Call (.Name "set" p2) [e] [] pos'] [] pos) (TX C m (pop (consO o nilA) φSortSet)) :=
  peImp (pe_callB (cr_sortQ hc hu) g1 m1 (by decide +kernel) (pa_cons (hs := h2) (pe_callTy (cr_setQ hc hu) g2 m2 (by decide +kernel) (pa_cons (hs := h1) he pa_nil) (by decide) (by decide) h1 h3) pa_nil) (by decide) (by decide) h2 h4)
    fun σ H Q h => tO_imp (tax1 (pop_ok ok_sortSet h)) fun _ _ z => z
end
end DL

namespace DL
open PySem PySem.Spec PyProof.Rows L2
section
variable {C : Ctx} {F : FS} {H H' : Hp} {q : List Addr} {m : Bool}
/-! ### list(range(n)) -/
def intsTo (n : Int) : List D := (List.range n.toNat).map fun i : Nat => .int i
def φListR : List D → Option D
  | [.int n] => if 0 ≤ n ∧ n ≤ 16777216 then some (.lst true (intsTo n)) else none
  | _ => none
abbrev rListR : List V → Hp → VK → Prop := fun vs H Q => ∃ n : Int, vs = [.int n] ∧ RgOk 0 n ∧ ∀ q, H q = none → Q (.ref q) (upd H q (.lst (rgV 0 n)))
theorem reps_intsTo {n : Int} : C.reps F H (intsTo n) (rgV 0 n) [] := by
  have e1 : intsTo n = ((List.range n.toNat).map fun i : Nat => (i : Int)).map .int := by
    unfold intsTo
    rw [List.map_map]
    rfl
  have e2 : rgV 0 n = ((List.range n.toNat).map fun i : Nat => (i : Int)).map V.int := by
    unfold rgV
    rw [List.map_map, Int.sub_zero]
    refine List.map_congr_left fun i _ => ?_
    show V.int (0 + (i : Int)) = V.int (i : Int)
    rw [Int.zero_add]
  rw [e1, e2]
  exact reps_ints
theorem ok_listR : RdOK C φListR rListR := by
  intro F H ds vs d Q hs trk e h
  unfold φListR at e
  split at e
  case h_2 => cases e
  split at e
  case isFalse => cases e
  rename_i n hn
  cases e
  obtain ⟨x, rfl, h1⟩ := iss1 hs
  cases is_int h1
  exact ⟨n, rfl, .of_le (Int.le_refl _) hn.2 (by omega) hn.1, fun p hp => h _ _ [p] (grow_upd hp) (fun a ha => by cases List.mem_singleton.mp ha; exact hp) (by simp) (new_lst reps_intsTo hp)⟩
theorem x_listRg {e : Expr} {o : Opd} {p1 p2 pos pos' : Pos} (hc : C.X.calm = true) (g1 : Gl C.X "list") (m1 : C.X.mg "list" = none) (g2 : Gl C.X "range") (m2 : C.X.mg "range" = none) (he : PE C.X e (tO C m o))
    (h1 : starEach [e] C.X.env = (false, eval e C.X.env) :: starEach [] C.X.env := by rfl) (h2 : starEach [.Call (.Name "range" p2) [e] [] pos'] C.X.env = (false, eval (.Call (.Name "range" p2) [e] [] pos') C.X.env) :: starEach [] C.X.env := by rfl) :
    PE C.X (.Call (.Name "list" p1) [.Call (.Name "range" p2) [e] [] pos'] [] pos) (TX C m (pop (consO o nilA) φListR)) :=
  peImp (pe_listRg hc g1 m1 (prg_1 g2 m2 he h1) h2) fun σ H Q h => tO_imp (tax1 (pop_ok ok_listR h)) fun v H' ⟨n, e, z1, z2⟩ => by
    cases e
    exact ⟨n, rfl, z1, z2⟩
variable {pos : Pos}
/-- a, b = x, y, where a name of the two is a cell -/
theorem s_par2c {i j : Nat} {x y : Str} {a b : Expr} {g : AF} {px py pt : Pos} {kt k2 pt2} (O : CtxOk C) (hN : C.X.N.Nodup) (hi : C.X.N[i]? = some x) (hj : C.X.N[j]? = some y) (hfi : i ∉ C.fx) (hfj : j ∉ C.fx)
    (hx : Loc C.X.env.scope x) (hy : Loc C.X.env.scope y) (ha : PA C.X [a, b] (TAX C true g))
    (hw : swappedStores [.Tuple [.Name x px, .Name y py] kt pt] (.Tuple [a, b] k2 pt2) C.X.env = pure none := by rfl)
    (hs : swapsWithSole [.Tuple [.Name x px, .Name y py] kt pt] (.Tuple [a, b] k2 pt2) pos.line C.X.env = pure false := by rfl)
    (h1 : (assignEach [.Tuple [.Name x px, .Name y py] kt pt] C.X.env).map (·.2) = [assign (.Tuple [.Name x px, .Name y py] kt pt) C.X.env] := by rfl)
    (h2 : (assignEach [.Name x px, .Name y py] C.X.env).map (·.2) = assign (.Name x px) C.X.env :: (assignEach [.Name y py] C.X.env).map (·.2) := by rfl)
    (h3 : (assignEach [.Name y py] C.X.env).map (·.2) = assign (.Name y py) C.X.env :: (assignEach [] C.X.env).map (·.2) := by rfl)
    (h4 : (assignEach [.Name x px, .Name y py] C.X.env).length = 2 := by rfl) (h5 : (assignEach [.Name x px, .Name y py] C.X.env).findIdx? (·.1) = none := by rfl)
    (hf1 : C.X.fn x = true ∨ C.X.env.scope.names.lookup x = some .local := by first | exact .inl rfl | exact .inr rfl | assumption) (hf2 : C.X.fn y = true ∨ C.X.env.scope.names.lookup y = some .local := by first | exact .inl rfl | exact .inr rfl | assumption) :
    PS C.X (.Assign [.Tuple [.Name x px, .Name y py] kt pt] (.Tuple [a, b] k2 pt2) pos) (TSx C (spar2 i j g)) :=
  psImp (ps_asg (pe_tup ha) (pg_tup (n := 2) O.calm (pgs_cons (pg_name hN hi hx hf1) (pgs_cons (pg_name hN hj hy hf2) pgs_nil h3) h2) h4 h5) hs hw h1) fun En σ H ⟨F, p, env, rel, fl, env', e, post⟩ => by
  refine ⟨F, p, env, rel, ?_⟩
  unfold spar2 at e
  split at e
  · rename_i as e1 eg
    refine ⟨_, _, eg, fun vs H1 F1 p1 q1 x1 rel1 ar1 ap1 => ?_⟩
    split at e
    · rename_i d1 d2 et
      split at e
      · rename_i hl
        cases e
        obtain ⟨v, ws, q2, q3, rfl, r1, rr, hq⟩ := arP_reps et ar1
        obtain ⟨w, rfl, r2⟩ := reps_one rr
        subst hq
        refine ⟨(show (2 : Nat) ≤ sizeLine by decide), fun t ht => ⟨t, [v, w], rfl, SqT.of upd_same, rfl, v, [w], rfl, w, [], rfl, rfl, ?_⟩⟩
        have gr := grow_upd (o := HO.tup [v, w]) ht
        have rel0 := rel1.grow gr
        have r1' := rep_mono r1 (Stab.grow (p := _) gr)
        have r2' := rep_mono r2 (Stab.grow (p := _) gr)
        obtain ⟨p2, rel2, sub2⟩ := rel0.put hl.1 hfi r1' ap1.fst
        obtain ⟨p3, rel3, sub3⟩ := rel2.put (by rw [List.length_set]; exact hl.2) hfj r2' (ap1.put sub2)
        refine post _ _ F1 p3 ((x1.trans (Ext.laid0 (o := HO.tup [v, w]) ht)).sub fun a h => ?_) rel3
        rcases List.mem_append.mp (sub3 a h) with h | h
        · exact List.mem_append_left _ (List.mem_append_right _ h)
        · rcases List.mem_append.mp (sub2 a h) with h | h
          · exact List.mem_append_left _ (List.mem_append_left _ h)
          · exact List.mem_append_right _ h
      · cases e
    · cases e
  · rename_i c fs e1 eg
    cases e
    exact ⟨_, _, eg, fun dx H1 F1 p1 x1 rel1 ed => post dx σ H1 F1 p1 x1.any rel1 ed⟩
  · cases e
end
end DL

namespace DL
open PySem PySem.Spec PyProof.Rows L2
section
variable {C : Ctx} {F : FS} {H H' : Hp} {q : List Addr} {m : Bool} {pos : Pos}
/-! ### error.field -/
def EFldOk (K : PySem.W.Frag) (ok : List Str) (x : Str) : Prop := ∀ C' ∈ ok, XfC K (He.ga K C') ∧ NoAttr K (He.ga K C') x
def φEFld (ok : List Str) (x : Str) : List D → Option D
  | [.err C' fs] => if C' ∈ ok then (match fs.lookup x with
    | some d => if fro d = true then some d else none
    | none => none) else none
  | _ => none
abbrev rEFld (X : Cx) (x : Str) : V → Hp → VK → Prop := fun v H Q => ∃ a C' dx fs u, v = .ref a ∧ XfC X.K C' ∧ PySem.W.findIn X.K (.ref C') x = some none ∧ H a = some (errO C' (some dx) a) ∧ H dx = some (.xd fs) ∧ fs.lookup x = some u ∧ Q u H
theorem pe_efld {X : Cx} {e : Expr} {te : TE} {x : Str} (he : PE X e te) (hb : attributeBase e x X.env (eval e X.env) = eval e X.env := by rfl) : PE X (.Attribute e x pos) (fun σ H Q => te σ H fun v H1 => rEFld X x v H1 Q) := by
  refine ⟨fun pins s σ H Q I h => attr_of hb (thn (he.run pins s σ H _ I h) fun u s1 hh => ?_)⟩
  obtain ⟨v, H1, I1, rv, a, C', dx, fs, w, rfl, T, hno, ha, hx, hl, q⟩ := hh
  obtain rfl : u = Value.ref a := rv
  obtain ⟨oe, vs, ho, hz, hd⟩ := (I1.hok a _ ha).1
  obtain ⟨mA, hns, hr⟩ : ObjOk X.prog X.w H1 s1.heap dx (.xd fs) := I1.hok dx _ hx
  obtain ⟨od, hod, hlk⟩ := lookIn_ns hns
  obtain ⟨u, hu, ru⟩ := RelO.some_of (v := w) (o := mA x) (by rw [← hl]; exact hr x)
  have J : PySem.W.InstAt s1.heap a oe C' (some od) := ⟨ho, hz.1, by unfold PySem.W.notCls; rw [hd], by rw [hz.2]; exact hod⟩
  exact HandSPX.exc_get I1.kIn J T.ga T.gg T.exC (PySem.W.findObj_own T.hdC hno rfl (by rw [hlk, hu])) (handed_of ru) ⟨w, H1, I1.tok _, ru, q⟩
theorem ok_efld {ok : List Str} {x : Str} (hk : EFldOk C.X.K ok x) : RdOK C (φEFld ok x) (R1 (rEFld C.X x)) := by
  intro F H ds vs d Q hs trk e h
  unfold φEFld at e
  split at e
  case h_2 => cases e
  rename_i C' fs
  split at e
  case isFalse => cases e
  rename_i hC
  split at e
  case h_2 => cases e
  rename_i d0 hl
  split at e
  case isFalse => cases e
  rename_i hf
  cases e
  obtain ⟨v, rfl, _, a, dd, rfl, _, ha, _, hx⟩ := iss1 hs
  rcases hx with ⟨_, rfl⟩ | ⟨dx, gs, rfl, _, hg, rf⟩
  · cases hl
  · obtain ⟨u, q', hlu, ru⟩ := lookF_at rf hl
    obtain ⟨h1, h2⟩ := hk C' hC
    refine ⟨_, rfl, a, _, dx, gs, u, rfl, h1, h2, ha, hg, hlu, ?_⟩
    have z := fro_nil hf ru.1
    first
      | exact h u H [] (fun _ _ e => e) (fun a h => by cases h) List.nodup_nil (by rw [← z]; exact ru.1)
      | exact h u H [] (fun _ _ e => e) (fun a h => by cases h) List.nodup_nil (by rw [← z]; exact ru)
theorem x_efld {e : Expr} {o : Opd} {x : Str} {ok : List Str} (hk : EFldOk C.X.K ok x) (he : PE C.X e (tO C m o)) (hb : attributeBase e x C.X.env (eval e C.X.env) = eval e C.X.env := by rfl) : PE C.X (.Attribute e x pos) (TX C m (pop (consO o nilA) (φEFld ok x))) :=
  peImp (pe_efld he hb) fun σ H Q h => tO_imp (tax1 (pop_ok (ok_efld hk) h)) fun _ _ ⟨_, e, z⟩ => by
    cases e
    exact z
end
end DL

namespace DL
open PySem PySem.Spec
variable {f g h c : XF} {F G : SF} {env e1 : DL.Env} {a b : AF} {φ φ1 φ2 : List D → Option D} {i j : Nat} {d : D} {o oa ob oc : Opd}
theorem SZ_eq : SZ = 16777216 := rfl
@[simp] theorem ap_snx : snx env = some (.nx, env) := rfl
@[simp] theorem ap_sseq : sseq F G env = (match F env with
  | some (.nx, e1) => G e1
  | r => r) := rfl
@[simp] theorem ap_sret : sret f env = (match f env with
  | some (.val d, e1) => some (.ret d, e1)
  | some (.exc c fs, e1) => some (.exc c fs, e1)
  | none => none) := rfl
@[simp] theorem ap_sexpr : sexpr f env = (match f env with
  | some (.val d, e1) => some (.nx, e1)
  | some (.exc c fs, e1) => some (.exc c fs, e1)
  | none => none) := rfl
@[simp] theorem ap_sasg {t : AS} : sasg f t env = (match f env with
  | some (.val d, e1) => (match t d e1 with
    | some e2 => some (.nx, e2)
    | none => none)
  | some (.exc c fs, e1) => some (.exc c fs, e1)
  | none => none) := by
  unfold sasg sx
  rfl
@[simp] theorem ap_aset : aset i d env = (match env[i]? with
  | some _ => some (env.set i (some d))
  | none => none) := rfl
@[simp] theorem ap_sif : sif f F G env = (match f env with
  | some (.val (.bl true), e1) => F e1
  | some (.val (.bl false), e1) => G e1
  | some (.exc c fs, e1) => some (.exc c fs, e1)
  | _ => none) := rfl
@[simp] theorem ap_xif : xif f g h env = (match f env with
  | some (.val (.bl true), e1) => g e1
  | some (.val (.bl false), e1) => h e1
  | some (.exc c fs, e1) => some (.exc c fs, e1)
  | _ => none) := rfl
@[simp] theorem ap_xand : xand f g env = (match f env with
  | some (.val (.bl true), e1) => g e1
  | some (.val (.bl false), e1) => some (.val (.bl false), e1)
  | some (.exc c fs, e1) => some (.exc c fs, e1)
  | _ => none) := rfl
@[simp] theorem ap_xor : xor f g env = (match f env with
  | some (.val (.bl true), e1) => some (.val (.bl true), e1)
  | some (.val (.bl false), e1) => g e1
  | some (.exc c fs, e1) => some (.exc c fs, e1)
  | _ => none) := rfl
@[simp] theorem ap_xnot : xnot f env = (match f env with
  | some (.val (.bl true), e1) => some (.val (.bl false), e1)
  | some (.val (.bl false), e1) => some (.val (.bl true), e1)
  | some (.exc c fs, e1) => some (.exc c fs, e1)
  | _ => none) := rfl
@[simp] theorem ap_xc : xc d env = some (.val d, env) := rfl
@[simp] theorem ap_xvar : xvar i env = (match env[i]? with
  | some (some d) => bif fro d then some (.val d, env) else some (.val (fz d), env.set i (some (fz d)))
  | _ => none) := rfl
@[simp] theorem ap_xmv : xmv i env = (match env[i]? with
  | some (some d) => some (.val d, env.set i none)
  | _ => none) := rfl
@[simp] theorem ap_xfz : xfz f env = (match f env with
  | some (.val d, e1) => some (.val (fz d), e1)
  | r => r) := rfl
@[simp] theorem ap_nilA : nilA env = some (.vals [], env) := rfl
@[simp] theorem ap_consA : consA f a env = (match f env with
  | some (.val d, e1) => (match a e1 with
    | some (.vals as, e2) => some (.vals (.tmp d :: as), e2)
    | r => r)
  | some (.exc c fs, e1) => some (.exc c fs, e1)
  | none => none) := rfl
@[simp] theorem ap_consP : consP i a env = (match env[i]? with
  | some (some _) => (match a env with
    | some (.vals as, e2) => some (.vals (.pk i :: as), e2)
    | r => r)
  | _ => none) := rfl
@[simp] theorem ap_consOe : consO (.e f) a env = consA f a env := rfl
@[simp] theorem ap_consOp : consO (.pk i) a env = consP i a env := rfl
@[simp] theorem ap_consS : consS f a env = (match f env with
  | some (.val d, e1) => (match itemsOf d with
    | some xs => (match a e1 with
      | some (.vals as, e2) => some (.vals (xs.map .tmp ++ as), e2)
      | r => r)
    | none => none)
  | some (.exc c fs, e1) => some (.exc c fs, e1)
  | none => none) := rfl
@[simp] theorem ap_ress0 : ress env [] = some [] := rfl
@[simp] theorem ap_ress1 {as : List Ar} : ress env (.tmp d :: as) = (ress env as).map (d :: ·) := rfl
@[simp] theorem ap_ress2 {as : List Ar} : ress env (.pk i :: as) = (match env[i]? with
    | some (some d) => (ress env as).map (d :: ·)
    | _ => none) := rfl
@[simp] theorem ap_tmps0 : tmps [] = some [] := rfl
@[simp] theorem ap_tmps1 {as : List Ar} : tmps (.tmp d :: as) = (tmps as).map (d :: ·) := rfl
@[simp] theorem ap_pop : pop a φ env = (match a env with
  | some (.vals as, e1) => (match ress e1 as with
    | some ds => (match φ ds with
      | some d => some (.val d, e1)
      | none => none)
    | none => none)
  | some (.exc c fs, e1) => some (.exc c fs, e1)
  | none => none) := rfl
@[simp] theorem ap_xchain : xchain oa ob oc φ1 φ2 env = (match consO oa (consO ob nilA) env with
  | some (.vals [x, y], e1) => (match ress e1 [x, y] with
    | some ds => (match φ1 ds with
      | some (.bl true) => (match consO oc nilA e1 with
        | some (.vals [z], e2) => (match ress e2 [y, z] with
          | some es => (match φ2 es with
            | some d => some (.val d, e2)
            | none => none)
          | none => none)
        | some (.exc c fs, e2) => some (.exc c fs, e2)
        | _ => none)
      | some (.bl false) => some (.val (.bl false), e1)
      | _ => none)
    | none => none)
  | some (.exc c fs, e1) => some (.exc c fs, e1)
  | _ => none) := rfl
@[simp] theorem ap_xtup : xtup a env = (match a env with
  | some (.vals as, e1) => (match tmps as with
    | some ds => if ds.length ≤ SZ ∧ ds.all fro = true then some (.val (.tup ds), e1) else none
    | none => none)
  | some (.exc c fs, e1) => some (.exc c fs, e1)
  | none => none) := rfl
@[simp] theorem ap_xlst : xlst a env = (match a env with
  | some (.vals as, e1) => (match tmps as with
    | some ds => if ds.length ≤ SZ then some (.val (.lst true ds), e1) else none
    | none => none)
  | some (.exc c fs, e1) => some (.exc c fs, e1)
  | none => none) := rfl
@[simp] theorem ap_xcall {m : MF} {dfl : List D} : xcall m dfl a env = (match a env with
  | some (.vals as, e1) => (match tmps as with
    | some ds => (match m (ds ++ dfl) with
      | some (r, []) => some (r, e1)
      | _ => none)
    | none => none)
  | some (.exc c fs, e1) => some (.exc c fs, e1)
  | none => none) := rfl
@[simp] theorem ap_xcallR {m : MF} : xcallR m i a env = (match env[i]? with
  | some (some _) => (match a env with
    | some (.vals as, e1) => (match tmps as, e1[i]? with
      | some ds, some (some d0) => (match m (d0 :: ds) with
        | some (r, [o]) => some (r, e1.set i (some o))
        | _ => none)
      | _, _ => none)
    | some (.exc c fs, e1) => some (.exc c fs, e1)
    | none => none)
  | _ => none) := rfl
@[simp] theorem ap_xcallB {m : MF} : xcallB m i j env = (match env[i]?, env[j]? with
  | some (some a), some (some b) => (match m [a, b] with
    | some (r, [o, u]) => some (r, (env.set i (some o)).set j (some u))
    | _ => none)
  | _, _ => none) := rfl
@[simp] theorem ap_ix {k : List D → Option (List D)} : ix a k env = (match a env with
  | some (.vals as, e1) => (match tmps as with
    | some ds => (match k ds with
      | some es => some (.items es, e1)
      | none => none)
    | none => none)
  | some (.exc c fs, e1) => some (.exc c fs, e1)
  | none => none) := rfl
@[simp] theorem ap_sfor {w : IF} {t : AS} : sfor w t G env = (match w env with
  | some (.items ds, e1) => forL t G ds e1
  | some (.exc c fs, e1) => some (.exc c fs, e1)
  | none => none) := rfl
@[simp] theorem ap_ckX {T : String} : ckX T f env = (match f env with
  | some (.val d, e1) => if ckT T d = true then some (.val d, e1) else none
  | r => r) := rfl
@[simp] theorem ck_int {k : Int} : ckT "int" (.int k) = true := rfl
@[simp] theorem ck_lst {o : Bool} {xs : List D} : ckT "list" (.lst o xs) = true := rfl
@[simp] theorem ck_dic {o : Bool} {xs : List (D × D)} : ckT "dict" (.dic o xs) = true := rfl
@[simp] theorem fro_int {k : Int} : fro (.int k) = true := rfl
@[simp] theorem fro_bl {k : Bool} : fro (.bl k) = true := rfl
@[simp] theorem fro_str {k : Str} : fro (.str k) = true := rfl
@[simp] theorem fro_non : fro .non = true := rfl
@[simp] theorem fro_glob {k : Str} : fro (.glob k) = true := rfl
@[simp] theorem fro_ty {k : String} : fro (.ty k) = true := rfl
@[simp] theorem fro_scr {k : List Int} : fro (.scr k) = true := rfl
@[simp] theorem fro_tup {xs : List D} : fro (.tup xs) = true := rfl
@[simp] theorem fro_err {x : Str} {xs : List (Str × D)} : fro (.err x xs) = true := rfl
@[simp] theorem fro_lst {o : Bool} {xs : List D} : fro (.lst o xs) = !o := by cases o <;> rfl
@[simp] theorem fro_dic {o : Bool} {xs : List (D × D)} : fro (.dic o xs) = !o := by cases o <;> rfl
@[simp] theorem fro_ins {o : Bool} {x : Str} {xs : List (Str × D)} : fro (.ins o x xs) = !o := by cases o <;> rfl
@[simp] theorem fz_int {k : Int} : fz (.int k) = .int k := rfl
@[simp] theorem fz_tup {xs : List D} : fz (.tup xs) = .tup xs := rfl
@[simp] theorem fz_non : fz .non = .non := rfl
@[simp] theorem fz_bl {k : Bool} : fz (.bl k) = .bl k := rfl
@[simp] theorem fz_str {k : Str} : fz (.str k) = .str k := rfl
@[simp] theorem fz_lstF {xs : List D} : fz (.lst false xs) = .lst false xs := rfl
@[simp] theorem fz_dicF {xs : List (D × D)} : fz (.dic false xs) = .dic false xs := rfl
theorem fz_lstT {xs : List D} : fz (.lst true xs) = .lst false (fzs xs) := rfl
theorem fz_dicT {xs : List (D × D)} : fz (.dic true xs) = .dic false (fzK xs) := rfl
theorem fz_of_fro (h : fro d = true) : fz d = d := by
  cases d with
  | lst o xs => cases o with
    | true => cases h
    | false => rfl
  | dic o xs => cases o with
    | true => cases h
    | false => rfl
  | ins o x xs => cases o with
    | true => cases h
    | false => rfl
  | _ => rfl
theorem fzs_of_fro : ∀ {xs : List D}, xs.all fro = true → fzs xs = xs
  | [], _ => rfl
  | d :: r, h => by
    have h : (fro d && r.all fro) = true := h
    obtain ⟨h1, h2⟩ := Bool.and_eq_true_iff.mp h
    show fz d :: fzs r = _
    rw [fz_of_fro h1, fzs_of_fro h2]
theorem fzK_of_fro : ∀ {xs : List (D × D)}, (xs.map (·.2)).all fro = true → fzK xs = xs
  | [], _ => rfl
  | (x, d) :: r, h => by
    have h : (fro d && (r.map (·.2)).all fro) = true := h
    obtain ⟨h1, h2⟩ := Bool.and_eq_true_iff.mp h
    show (x, fz d) :: fzK r = _
    rw [fz_of_fro h1, fzK_of_fro h2]
@[simp] theorem ap_atup {as : List AS} {xs : List D} : atup as (.tup xs) env = if xs.length = as.length then aseq as xs env else none := rfl
@[simp] theorem ap_aseq0 : aseq [] [] env = some env := rfl
@[simp] theorem ap_aseq1 {t : AS} {ts : List AS} {ds : List D} : aseq (t :: ts) (d :: ds) env = (match t d env with
  | some e1 => aseq ts ds e1
  | none => none) := rfl
variable {x y : Int}
@[simp] theorem φ_addI : φAdd [.int x, .int y] = some (.int (x + y)) := rfl
@[simp] theorem φ_addT {xs ys : List D} : φAdd [.tup xs, .tup ys] = if xs.length + ys.length ≤ SZ then some (.tup (xs ++ ys)) else none := rfl
@[simp] theorem φ_addL {o u : Bool} {xs ys : List D} : φAdd [.lst o xs, .lst u ys] = if xs.length + ys.length ≤ SZ ∧ xs.all fro = true ∧ ys.all fro = true then some (.lst true (xs ++ ys)) else none := rfl
@[simp] theorem φ_sub : φSub [.int x, .int y] = some (.int (x - y)) := rfl
@[simp] theorem φ_lt : φLt [.int x, .int y] = some (.bl (decide (x < y))) := rfl
@[simp] theorem φ_le : φLe [.int x, .int y] = some (.bl (decide (x ≤ y))) := rfl
@[simp] theorem φ_gt : φGt [.int x, .int y] = some (.bl (decide (x > y))) := rfl
@[simp] theorem φ_ge : φGe [.int x, .int y] = some (.bl (decide (x ≥ y))) := rfl
@[simp] theorem φ_isN : φIs [d, .non] = some (.bl (isNon d)) := rfl
@[simp] theorem φ_isB {p q : Bool} : φIs [.bl p, .bl q] = some (.bl (decide (p = q))) := rfl
@[simp] theorem φ_isnB {p q : Bool} : φIsNot [.bl p, .bl q] = some (.bl !(decide (p = q))) := rfl
@[simp] theorem φ_lenT {xs : List D} : φLenA [.tup xs] = some (.int xs.length) := rfl
@[simp] theorem φ_lenL {o : Bool} {xs : List D} : φLenA [.lst o xs] = some (.int xs.length) := rfl
@[simp] theorem φ_lenS {xs : List Int} : φLenA [.scr xs] = some (.int xs.length) := rfl
@[simp] theorem ap_spar2 : spar2 i j a env = (match a env with
  | some (.vals as, e1) => (match tmps as with
    | some [d1, d2] => if i < e1.length ∧ j < e1.length then some (.nx, (e1.set i (some d1)).set j (some d2)) else none
    | _ => none)
  | some (.exc c fs, e1) => some (.exc c fs, e1)
  | none => none) := rfl
@[simp] theorem ap_sraise {x : Str} : sraise x env = some (.exc x [], env) := rfl
end DL

namespace DL
open PySem PySem.Spec
/-! ### tuples of ints and None -/
def ce : Option Int → D
  | some i => .int i
  | none => .non
def tp (l : List (Option Int)) : D := .tup (l.map ce)
def cy : Option Int → PyData
  | some i => .int i
  | none => .none
def ck : Option Int → NestedKey
  | some i => .num i
  | none => .none
@[simp] theorem ce_some {i : Int} : ce (some i) = .int i := rfl
@[simp] theorem ce_none : ce none = .non := rfl
theorem toPys_ce : ∀ l : List (Option Int), toPys (l.map ce) = some (l.map cy)
  | [] => rfl
  | none :: l => by
    show (match toPy .non, toPys (l.map ce) with
      | some x, some xs => some (x :: xs)
      | _, _ => none) = _
    rw [toPys_ce l]
    rfl
  | some i :: l => by
    show (match toPy (.int i), toPys (l.map ce) with
      | some x, some xs => some (x :: xs)
      | _, _ => none) = _
    rw [toPys_ce l]
    rfl
theorem toPy_tp (l : List (Option Int)) : toPy (tp l) = some (.tuple (l.map cy)) := by
  show (toPys (l.map ce)).map PyData.tuple = _
  rw [toPys_ce]
  rfl
theorem toPys_tps : ∀ ls : List (List (Option Int)), toPys (ls.map tp) = some (ls.map fun l => .tuple (l.map cy))
  | [] => rfl
  | l :: ls => by
    show (match toPy (tp l), toPys (ls.map tp) with
      | some x, some xs => some (x :: xs)
      | _, _ => none) = _
    rw [toPy_tp, toPys_tps ls]
    rfl
theorem eqv_cy : ∀ a b : Option Int, PyData.eqv (cy a) (cy b) = decide (a = b)
  | none, none => rfl
  | none, some _ => by simp [cy, PyData.eqv]
  | some _, none => by simp [cy, PyData.eqv]
  | some i, some j => by
    show PyData.eqv (.int i) (.int j) = _
    simp [PyData.eqv]
    by_cases h : i = j <;> simp [h]
theorem eqv_all : ∀ l m : List (Option Int), PyData.eqvAll (l.map cy) (m.map cy) = decide (l = m)
  | [], [] => by simp [PyData.eqvAll]
  | [], _ :: _ => by simp [PyData.eqvAll]
  | _ :: _, [] => by simp [PyData.eqvAll]
  | a :: l, b :: m => by
    show PyData.eqvAll (cy a :: l.map cy) (cy b :: m.map cy) = _
    rw [PyData.eqvAll, eqv_cy, eqv_all l m]
    by_cases h : a = b <;> by_cases h2 : l = m <;> simp [h, h2]
theorem eqv_tp (l m : List (Option Int)) : PyData.eqv (.tuple (l.map cy)) (.tuple (m.map cy)) = decide (l = m) := by
  rw [PyData.eqv, eqv_all]
theorem lay_cy : ∀ l : List (Option Int), PyData.canLayAll0 (l.map cy) = true
  | [] => by simp [PyData.canLayAll0]
  | none :: l => by simp [cy, PyData.canLayAll0, PyData.canLay0, lay_cy l]
  | some i :: l => by simp [cy, PyData.canLayAll0, PyData.canLay0, lay_cy l]
theorem dep_cy : ∀ l : List (Option Int), PyData.depthAll (l.map cy) = 0
  | [] => by simp [PyData.depthAll]
  | none :: l => by simp [cy, PyData.depthAll, PyData.depth, dep_cy l]
  | some i :: l => by simp [cy, PyData.depthAll, PyData.depth, dep_cy l]
theorem shaped_tp (l : List (Option Int)) : SeqAt.shaped (.tuple (l.map cy)) = true := by
  simp [SeqAt.shaped, PyData.canLay0, lay_cy, PyData.depth, dep_cy]
theorem lay_tps : ∀ ls : List (List (Option Int)), PyData.canLayAll0 (ls.map fun l => .tuple (l.map cy)) = true
  | [] => by simp [PyData.canLayAll0]
  | l :: ls => by simp [PyData.canLayAll0, PyData.canLay0, lay_cy]; simpa using lay_tps ls
theorem dep_tps : ∀ ls : List (List (Option Int)), PyData.depthAll (ls.map fun l => .tuple (l.map cy)) ≤ 1
  | [] => by simp [PyData.depthAll]
  | l :: ls => by
    have := dep_tps ls
    simp [PyData.depthAll, PyData.depth, dep_cy]
    omega
theorem shaped_tps (ls : List (List (Option Int))) : SeqAt.shaped (.list (ls.map fun l => .tuple (l.map cy))) = true := by
  have := dep_tps ls
  simp [SeqAt.shaped, PyData.canLay0, lay_tps, PyData.depth]
  omega
theorem inD_tp {d : D} {ls : List (List (Option Int))} (l : List (Option Int)) (h : seqItems d = some (ls.map tp)) : inD (tp l) d = some (decide (l ∈ ls)) := by
  unfold inD
  rw [toPy_tp, h]
  show (match toPys (ls.map tp) with
      | some zs => if SeqAt.shaped (.tuple (l.map cy)) = true ∧ SeqAt.shaped (.list zs) = true then some (zs.any fun z => PyData.eqv z (.tuple (l.map cy))) else none
      | none => none) = _
  rw [toPys_tps]
  show (if SeqAt.shaped (.tuple (l.map cy)) = true ∧ SeqAt.shaped (.list (ls.map fun l => .tuple (l.map cy))) = true then some ((ls.map fun l => PyData.tuple (l.map cy)).any fun z => PyData.eqv z (.tuple (l.map cy))) else none) = _
  rw [if_pos ⟨shaped_tp l, shaped_tps ls⟩]
  congr 1
  rw [List.any_map]
  have e : ∀ xs : List (List (Option Int)), (xs.any ((fun z => PyData.eqv z (.tuple (l.map cy))) ∘ fun l => PyData.tuple (l.map cy))) = decide (l ∈ xs) := fun xs => by
    induction xs with
    | nil => simp
    | cons a xs ih2 =>
      rw [List.any_cons, ih2]
      simp only [Function.comp, eqv_tp]
      by_cases ha : a = l
      · simp [ha]
      · have : ¬ l = a := fun z => ha z.symm
        simp [ha, this]
  exact e ls
theorem in_tup {l : List (Option Int)} {ls : List (List (Option Int))} : φInA [tp l, .tup (ls.map tp)] = some (.bl (decide (l ∈ ls))) := by
  show (match (inD (tp l) (.tup (ls.map tp))).map D.bl with
    | some d => some d
    | none => _) = _
  rw [inD_tp (ls := ls) l rfl]
  rfl
theorem in_lst {o : Bool} {l : List (Option Int)} {ls : List (List (Option Int))} : φInA [tp l, .lst o (ls.map tp)] = some (.bl (decide (l ∈ ls))) := by
  show (match (inD (tp l) (.lst o (ls.map tp))).map D.bl with
    | some d => some d
    | none => _) = _
  rw [inD_tp (ls := ls) l rfl]
  rfl
theorem notin_lst {o : Bool} {l : List (Option Int)} {ls : List (List (Option Int))} : φNotInA [tp l, .lst o (ls.map tp)] = some (.bl !(decide (l ∈ ls))) := by
  show (match (inD (tp l) (.lst o (ls.map tp))).map (fun x => D.bl !x) with
    | some d => some d
    | none => _) = _
  rw [inD_tp (ls := ls) l rfl]
  rfl
theorem tp_inj {l m : List (Option Int)} (h : tp l = tp m) : l = m := by
  have h : l.map ce = m.map ce := by injection h
  have e1 := toPys_ce l
  rw [h, toPys_ce] at e1
  have e2 := Option.some.inj e1
  have e3 := eqv_all m l
  rw [e2] at e3
  have e4 := eqv_all l l
  rw [e4] at e3
  simp at e3
  exact e3.symm
/-! ### keys -/
theorem nkeys_ce : ∀ l : List (Option Int), nkeys (l.map ce) = some (l.map ck)
  | [] => rfl
  | none :: l => by
    show (match nkey .non, nkeys (l.map ce) with
      | some k, some ks => some (k :: ks)
      | _, _ => none) = _
    rw [nkeys_ce l]
    rfl
  | some i :: l => by
    show (match nkey (.int i), nkeys (l.map ce) with
      | some k, some ks => some (k :: ks)
      | _, _ => none) = _
    rw [nkeys_ce l]
    rfl
theorem nkey_tp (l : List (Option Int)) : nkey (tp l) = some (.tup (l.map ck)) := by
  show (nkeys (l.map ce)).map NestedKey.tup = _
  rw [nkeys_ce]
  rfl
theorem ck_inj {a b : Option Int} (h : ck a = ck b) : a = b := by
  cases a with
  | none => cases b with
    | none => rfl
    | some j => cases h
  | some i => cases b with
    | none => cases h
    | some j =>
      injection h with h
      rw [h]
theorem cks_inj : ∀ {l m : List (Option Int)}, l.map ck = m.map ck → l = m
  | [], [], _ => rfl
  | [], _ :: _, h => by cases h
  | _ :: _, [], h => by cases h
  | a :: l, b :: m, h => by
    have h : ck a :: l.map ck = ck b :: m.map ck := h
    injection h with h1 h2
    rw [ck_inj h1, cks_inj h2]
theorem depth_cks : ∀ l : List (Option Int), NestedKey.depthAll (l.map ck) = 0
  | [] => by simp [NestedKey.depthAll]
  | none :: l => by simp [ck, NestedKey.depthAll, NestedKey.depth, depth_cks l]
  | some i :: l => by simp [ck, NestedKey.depthAll, NestedKey.depth, depth_cks l]
/-- f: keys that are tuples, told apart -/
structure KeyF {α : Type} (f : α → D) where
  k : α → NestedKey
  nk : ∀ x, nkey (f x) = some (k x)
  dp : ∀ x, (k x).depth ≤ 8
  inj : ∀ x y, k x = k y → x = y
  tup : ∀ x, isTup (f x) = true
def keyTp : KeyF tp where
  k := fun l => .tup (l.map ck)
  nk := nkey_tp
  dp := fun l => by simp [NestedKey.depth, depth_cks]
  inj := fun x y h => cks_inj (by injection h)
  tup := fun _ => rfl
def ed (e : List (Option Int) × Int) : D := .tup [tp e.1, .int e.2]
def keyEd : KeyF ed where
  k := fun e => .tup [.tup (e.1.map ck), .num e.2]
  nk := fun e => by
    show (nkeys [tp e.1, .int e.2]).map NestedKey.tup = _
    show ((match nkey (tp e.1), nkeys [.int e.2] with
      | some k, some ks => some (k :: ks)
      | _, _ => none) : Option (List NestedKey)).map NestedKey.tup = _
    rw [nkey_tp]
    rfl
  dp := fun e => by simp [NestedKey.depth, NestedKey.depthAll, depth_cks]
  inj := fun x y h => by
    injection h with h
    injection h with h1 h2
    injection h2 with h2 _
    injection h1 with h1
    injection h2 with h2
    exact Prod.ext (cks_inj h1) h2
  tup := fun _ => rfl
theorem nofkey {d : D} (h : isTup d = true) : fkey d = none := by
  cases d with
  | tup xs => rfl
  | _ => cases h
section
variable {α β : Type} [DecidableEq α] {f : α → D} {g : β → D}
/-- a dict as pairs -/
def dm (f : α → D) (g : β → D) (es : List (α × β)) : List (D × D) := es.map fun e => (f e.1, g e.2)
def putA (x : α) (v : β) : List (α × β) → List (α × β)
  | [] => [(x, v)]
  | (y, u) :: r => if y = x then (y, v) :: r else (y, u) :: putA x v r
theorem tupB_dm (K : KeyF f) : ∀ es : List (α × β), tupB (dm f g es) = true
  | [] => rfl
  | e :: es => by
    show (isTup (f e.1) && tupB (dm f g es)) = true
    rw [K.tup, tupB_dm K es]
    rfl
theorem lookT_dm (K : KeyF f) (x : α) : ∀ es : List (α × β), lookT (dm f g es) (K.k x) = (es.lookup x).map g
  | [] => rfl
  | (y, v) :: es => by
    show (if nkey (f y) = some (K.k x) then some (g v) else lookT (dm f g es) (K.k x)) = _
    rw [K.nk, lookT_dm K x es, List.lookup_cons]
    by_cases h : y = x
    · subst h
      simp
    · have h2 : ¬ K.k y = K.k x := fun z => h (K.inj _ _ z)
      have h3 : (x == y) = false := beq_eq_false_iff_ne.mpr fun z => h z.symm
      simp [h2, h3]
theorem dlook_dm (K : KeyF f) (x : α) (es : List (α × β)) : dlook (dm f g es) (f x) = some ((es.lookup x).map g) := by
  unfold dlook
  rw [nofkey (K.tup x)]
  show (if isTup (f x) = true ∧ tupB (dm f g es) = true then (match nkey (f x) with
    | some k => if k.depth ≤ 8 then some (lookT (dm f g es) k) else none
    | none => none) else none) = _
  rw [if_pos ⟨K.tup x, tupB_dm K es⟩, K.nk]
  show (if (K.k x).depth ≤ 8 then some (lookT (dm f g es) (K.k x)) else none) = _
  rw [if_pos (K.dp x), lookT_dm]
theorem putT_dm (K : KeyF f) (x : α) (v : β) : ∀ es : List (α × β), putT' (dm f g es) (f x) (K.k x) (g v) = dm f g (putA x v es)
  | [] => rfl
  | (y, u) :: es => by
    show (if nkey (f y) = some (K.k x) then (f y, g v) :: dm f g es else (f y, g u) :: putT' (dm f g es) (f x) (K.k x) (g v)) = _
    rw [K.nk, putT_dm K x v es]
    show _ = dm f g (if y = x then (y, v) :: es else (y, u) :: putA x v es)
    by_cases h : y = x
    · subst h
      rw [if_pos rfl, if_pos rfl]
      rfl
    · have h2 : ¬ K.k y = K.k x := fun z => h (K.inj _ _ z)
      rw [if_neg (fun z => h2 (Option.some.inj z)), if_neg h]
      rfl
theorem dput_dm (K : KeyF f) (x : α) (v : β) (es : List (α × β)) (hl : es.length < SZ) : dput (dm f g es) (f x) (g v) = some (dm f g (putA x v es)) := by
  unfold dput
  rw [if_pos (by simpa [dm] using hl), nofkey (K.tup x)]
  show (if isTup (f x) = true ∧ tupB (dm f g es) = true then (match nkey (f x) with
    | some k => if k.depth ≤ 8 then some (putT' (dm f g es) (f x) k (g v)) else none
    | none => none) else none) = _
  rw [if_pos ⟨K.tup x, tupB_dm K es⟩, K.nk]
  show (if (K.k x).depth ≤ 8 then some (putT' (dm f g es) (f x) (K.k x) (g v)) else none) = _
  rw [if_pos (K.dp x), putT_dm]
theorem in_dm (K : KeyF f) {o : Bool} {x : α} {es : List (α × β)} (hn : inD (f x) (.dic o (dm f g es)) = none) : φInA [f x, .dic o (dm f g es)] = some (.bl (es.lookup x).isSome) := by
  show (match (inD (f x) (.dic o (dm f g es))).map D.bl with
    | some d => some d
    | none => (dinD (f x) (.dic o (dm f g es))).map D.bl) = _
  rw [hn]
  show ((dlook (dm f g es) (f x)).map Option.isSome).map D.bl = _
  rw [dlook_dm K]
  simp
theorem inD_dic {d : D} {o : Bool} {ks : List (D × D)} : inD d (.dic o ks) = none := by
  unfold inD
  cases toPy d <;> rfl
theorem get_dm (K : KeyF f) {o : Bool} {x : α} {v : β} {es : List (α × β)} (h : es.lookup x = some v) (hf : fro (g v) = true) : φIx [.dic o (dm f g es), f x] = some (g v) := by
  have h0 : φAt [.dic o (dm f g es), f x] = none := by
    have := K.tup x
    cases hx : f x <;> rfl
  show (match φAt [.dic o (dm f g es), f x] with
    | some d => some d
    | none => φDGet [.dic o (dm f g es), f x]) = _
  rw [h0]
  show (match dlook (dm f g es) (f x) with
    | some (some d) => if fro d = true then some d else none
    | _ => none) = _
  rw [dlook_dm K, h]
  show (if fro (g v) = true then some (g v) else none) = _
  rw [if_pos hf]
theorem step_dm (K : KeyF f) {o : Bool} {x : α} {es : List (α × β)} : stepOf (.dic o (dm f g es)) (f x) = some (.t (K.k x)) := by
  show (match fkey (f x) with
    | some k => if flatB (dm f g es) = true then some (Stp.k k) else none
    | none => if isTup (f x) = true ∧ tupB (dm f g es) = true then (match nkey (f x) with
      | some k => if k.depth ≤ 8 then some (.t k) else none
      | none => none) else none) = _
  rw [nofkey (K.tup x)]
  show (if isTup (f x) = true ∧ tupB (dm f g es) = true then (match nkey (f x) with
      | some k => if k.depth ≤ 8 then some (Stp.t k) else none
      | none => none) else none) = _
  rw [if_pos ⟨K.tup x, tupB_dm K es⟩, K.nk]
  show (if (K.k x).depth ≤ 8 then some (Stp.t (K.k x)) else none) = _
  rw [if_pos (K.dp x)]
end
end DL

namespace DL
open PySem PySem.Spec
section
variable {α : Type} {a : AS} {body : SF} {t f : XF} {g : α → D} {vs : List Nat} {xs : List α}
theorem forL_ind {I : List α → DL.Env → Prop} : ∀ (done xs : List α) (env : DL.Env), I done env →
    (∀ d x env, x ∈ xs → d <+: done ++ xs → I d env → d ++ [x] <+: done ++ xs → ∃ e1 e2, a (g x) env = some e1 ∧ body e1 = some (.nx, e2) ∧ I (d ++ [x]) e2) →
    ∃ e', forL a body (xs.map g) env = some (.nx, e') ∧ I (done ++ xs) e'
  | done, [], env, h0, _ => ⟨env, rfl, by rw [List.append_nil]; exact h0⟩
  | done, x :: xs, env, h0, h => by
    obtain ⟨e1, e2, h1, h2, h3⟩ := h done x env List.mem_cons_self (List.prefix_append _ _) h0 ⟨xs, by simp⟩
    obtain ⟨e', h4, h5⟩ := forL_ind (done ++ [x]) xs e2 h3 fun d y env hy hd hi hd2 => h d y env (List.mem_cons_of_mem _ hy) (by simpa using hd) hi (by simpa using hd2)
    refine ⟨e', ?_, by simpa using h5⟩
    show (match a (g x) env with
      | some e1 => (match body e1 with
        | some (.nx, e2) => forL a body (xs.map g) e2
        | some (.ct, e2) => forL a body (xs.map g) e2
        | some (.bk, e2) => some (.nx, e2)
        | r => r)
      | none => none) = _
    rw [h1]
    show (match body e1 with
        | some (.nx, e2) => forL a body (xs.map g) e2
        | some (.ct, e2) => forL a body (xs.map g) e2
        | some (.bk, e2) => some (.nx, e2)
        | r => r) = _
    rw [h2]
    exact h4
/-- a loop: what holds of the items done -/
theorem forL_map {I : List α → DL.Env → Prop} {env : DL.Env} (h0 : I [] env) (h : ∀ d x env, x ∈ xs → d ++ [x] <+: xs → I d env → ∃ e1 e2, a (g x) env = some e1 ∧ body e1 = some (.nx, e2) ∧ I (d ++ [x]) e2) :
    ∃ e', forL a body (xs.map g) env = some (.nx, e') ∧ I xs e' := by
  obtain ⟨e', h1, h2⟩ := forL_ind (I := I) [] xs env h0 fun d x env hx hd hi hd2 => h d x env hx (by simpa using hd2) hi
  exact ⟨e', h1, by simpa using h2⟩
theorem lcL_ind {I : List α → List D → DL.Env → Prop} (hl : ∀ d acc env, I d acc env → acc.length = d.length) : ∀ (done xs : List α) (acc : List D) (env : DL.Env), I done acc env → done.length + xs.length ≤ SZ →
    (∀ d x acc env, x ∈ xs → d ++ [x] <+: done ++ xs → I d acc env → ∃ e1 e2 e3 y, a (g x) env = some e1 ∧ t e1 = some (.val (.bl true), e2) ∧ f e2 = some (.val y, e3) ∧ fro y = true ∧ I (d ++ [x]) (acc ++ [y]) (wipeE e3 vs)) →
    ∃ acc' e', lcL vs a t f (xs.map g) env acc = some (acc', e') ∧ I (done ++ xs) acc' e'
  | done, [], acc, env, h0, _, _ => ⟨acc, env, rfl, by rw [List.append_nil]; exact h0⟩
  | done, x :: xs, acc, env, h0, hs, h => by
    obtain ⟨e1, e2, e3, y, h1, h2, h3, h4, h5⟩ := h done x acc env List.mem_cons_self ⟨xs, by simp⟩ h0
    obtain ⟨acc', e', h6, h7⟩ := lcL_ind hl (done ++ [x]) xs (acc ++ [y]) (wipeE e3 vs) h5 (by simp at hs ⊢; omega) fun d z acc env hz hd hi => h d z acc env (List.mem_cons_of_mem _ hz) (by simpa using hd) hi
    refine ⟨acc', e', ?_, by simpa using h7⟩
    show (match a (g x) env with
      | some e1 => (match t e1 with
        | some (.val (.bl true), e2) => (match f e2 with
          | some (.val y, e3) => if fro y = true ∧ acc.length < SZ then lcL vs a t f (xs.map g) (wipeE e3 vs) (acc ++ [y]) else none
          | _ => none)
        | some (.val (.bl false), e2) => lcL vs a t f (xs.map g) (wipeE e2 vs) acc
        | _ => none)
      | none => none) = _
    rw [h1]
    show (match t e1 with
        | some (.val (.bl true), e2) => (match f e2 with
          | some (.val y, e3) => if fro y = true ∧ acc.length < SZ then lcL vs a t f (xs.map g) (wipeE e3 vs) (acc ++ [y]) else none
          | _ => none)
        | some (.val (.bl false), e2) => lcL vs a t f (xs.map g) (wipeE e2 vs) acc
        | _ => none) = _
    rw [h2]
    show (match f e2 with
          | some (.val y, e3) => if fro y = true ∧ acc.length < SZ then lcL vs a t f (xs.map g) (wipeE e3 vs) (acc ++ [y]) else none
          | _ => none) = _
    rw [h3]
    show (if fro y = true ∧ acc.length < SZ then lcL vs a t f (xs.map g) (wipeE e3 vs) (acc ++ [y]) else none) = _
    have := hl _ _ _ h0
    rw [if_pos ⟨h4, by simp at hs; omega⟩]
    exact h6
/-- a comprehension that draws nothing: the items, mapped -/
theorem lcL_map {y : α → D} {env : DL.Env} (hs : xs.length ≤ SZ) (h : ∀ x ∈ xs, ∃ e1 e2 e3, a (g x) env = some e1 ∧ t e1 = some (.val (.bl true), e2) ∧ f e2 = some (.val (y x), e3) ∧ fro (y x) = true ∧ wipeE e3 vs = env) :
    lcL vs a t f (xs.map g) env [] = some (xs.map y, env) := by
  obtain ⟨acc, e', h1, h2, h3⟩ := lcL_ind (a := a) (t := t) (f := f) (g := g) (vs := vs) (I := fun d acc e => acc = d.map y ∧ e = env) (fun d acc e hi => by rw [hi.1, List.length_map]) [] xs [] env ⟨rfl, rfl⟩ (by simpa using hs) fun d x acc e hx _ hi => by
    obtain ⟨e1, e2, e3, k1, k2, k3, k4, k5⟩ := h x hx
    rw [hi.2]
    exact ⟨e1, e2, e3, y x, k1, k2, k3, k4, by rw [hi.1]; simp, k5⟩
  rw [h1, h2, h3]
  rfl
end
variable {env e1 : DL.Env} {i : Nat} {vs : List Nat} {h : IF} {a : AS} {t f fk fv : XF}
@[simp] theorem wipe1 : wipeE env [i] = env.set i none := rfl
@[simp] theorem rest1 : restE e1 env [i] = env.set i (e1.getD i none) := rfl
@[simp] theorem ap_xlc : xlc vs h a t f env = (match h env with
  | some (.items ds, e1) => if (vs.all fun v => match e1[v]? with
      | some x => froO x
      | none => false) = true then
      (match lcL vs a t f ds (wipeE e1 vs) [] with
      | some (acc, e2) => some (.val (.lst true acc), restE e1 e2 vs)
      | none => none) else none
  | some (.exc c fs, e1) => some (.exc c fs, e1)
  | none => none) := rfl
@[simp] theorem ap_xdc : xdc vs h a t fk fv env = (match h env with
  | some (.items ds, e1) => if (vs.all fun v => match e1[v]? with
      | some x => froO x
      | none => false) = true then
      (match dcL vs a t fk fv ds (wipeE e1 vs) [] with
      | some (acc, e2) => some (.val (.dic true acc), restE e1 e2 vs)
      | none => none) else none
  | some (.exc c fs, e1) => some (.exc c fs, e1)
  | none => none) := rfl
@[simp] theorem froO_none : froO none = true := rfl
@[simp] theorem froO_some {d : D} : froO (some d) = fro d := rfl
@[simp] theorem kAny_tup {xs : List D} : kAny [.tup xs] = some xs := rfl
theorem kAny_lst {o : Bool} {xs : List D} (h : xs.all fro = true) : kAny [.lst o xs] = some xs := by
  show seqD (.lst o xs) = _
  show (if xs.all fro = true then some xs else none) = _
  rw [if_pos h]
@[simp] theorem kAny_scr {xs : List Int} : kAny [.scr xs] = some (xs.map .int) := rfl
@[simp] theorem kAny_dic {o : Bool} {xs : List (D × D)} : kAny [.dic o xs] = some (xs.map (·.1)) := rfl
theorem blsOf_map : ∀ xs : List Bool, blsOf (xs.map .bl) = some xs
  | [] => rfl
  | b :: xs => by
    show (blsOf (xs.map .bl)).map (b :: ·) = _
    rw [blsOf_map xs]
    rfl
theorem intsOf_map : ∀ xs : List Int, intsOf (xs.map .int) = some xs
  | [] => rfl
  | b :: xs => by
    show (intsOf (xs.map .int)).map (b :: ·) = _
    rw [intsOf_map xs]
    rfl
theorem φ_all {α : Type} {o : Bool} {xs : List α} {p : α → Bool} : φAll [.lst o (xs.map fun x => .bl (p x))] = some (.bl (xs.all p)) := by
  show (blsOf (xs.map fun x => .bl (p x))).map (fun ns => D.bl (ns.all id)) = _
  have e : (xs.map fun x => D.bl (p x)) = (xs.map p).map .bl := by rw [List.map_map]; rfl
  rw [e, blsOf_map]
  simp
theorem φ_sum {α : Type} {o : Bool} {xs : List α} {p : α → Int} : φSum [.lst o (xs.map fun x => .int (p x))] = some (.int (xs.map p).sum) := by
  show (intsOf (xs.map fun x => .int (p x))).map (fun ns => D.int ns.sum) = _
  have e : (xs.map fun x => D.int (p x)) = (xs.map p).map .int := by rw [List.map_map]; rfl
  rw [e, intsOf_map]
  rfl
theorem set_back {env : DL.Env} {i : Nat} {x : Option D} (hi : env[i]? = some none) : (env.set i x).set i none = env := by
  rw [List.set_set]
  obtain ⟨h, e⟩ := List.getElem?_eq_some_iff.mp hi
  rw [← e]
  exact List.set_getElem_self h
/-- [f for i in ..], f leaving all as it is -/
theorem lc1 {α : Type} {xs : List α} {g y : α → D} {f : XF} {env : DL.Env} {i : Nat} (hi : env[i]? = some none) (hs : xs.length ≤ SZ)
    (h : ∀ x ∈ xs, f (env.set i (some (g x))) = some (.val (y x), env.set i (some (g x))) ∧ fro (y x) = true) : lcL [i] (aset i) (xc (.bl true)) f (xs.map g) env [] = some (xs.map y, env) :=
  lcL_map hs fun x hx => ⟨env.set i (some (g x)), _, env.set i (some (g x)), by simp [hi], rfl, (h x hx).1, (h x hx).2, set_back hi⟩
/-! ### dicts made of distinct keys -/
section
variable {α β : Type} [DecidableEq α] {f : α → D} {g : β → D}
theorem putA_new {x : α} {v : β} : ∀ {es : List (α × β)}, x ∉ es.map (·.1) → putA x v es = es ++ [(x, v)]
  | [], _ => rfl
  | (y, u) :: es, h => by
    show (if y = x then (y, v) :: es else (y, u) :: putA x v es) = _
    rw [if_neg (fun z => h (by simp [z])), putA_new fun z => h (by simp at z ⊢; exact .inr z)]
    rfl
theorem putA_old {x : α} {v : β} : ∀ {es : List (α × β)}, (putA x v es).lookup x = some v
  | [] => by simp [putA]
  | (y, u) :: es => by
    show (if y = x then (y, v) :: es else (y, u) :: putA x v es).lookup x = _
    by_cases h : y = x
    · subst h
      simp
    · rw [if_neg h, List.lookup_cons, beq_eq_false_iff_ne.mpr (fun z => h z.symm)]
      exact putA_old
theorem putA_other {x y : α} {v : β} (hxy : x ≠ y) : ∀ {es : List (α × β)}, (putA x v es).lookup y = es.lookup y
  | [] => by simp [putA, List.lookup_cons, beq_eq_false_iff_ne.mpr hxy.symm]
  | (z, u) :: es => by
    show (if z = x then (z, v) :: es else (z, u) :: putA x v es).lookup y = _
    by_cases h : z = x
    · subst h
      rw [if_pos rfl, List.lookup_cons, List.lookup_cons, beq_eq_false_iff_ne.mpr hxy.symm]
    · rw [if_neg h, List.lookup_cons, List.lookup_cons, putA_other hxy]
theorem putA_keys {x : α} {v : β} : ∀ {es : List (α × β)}, x ∈ es.map (·.1) → (putA x v es).map (·.1) = es.map (·.1)
  | [], h => by cases h
  | (y, u) :: es, h => by
    show (if y = x then (y, v) :: es else (y, u) :: putA x v es).map (·.1) = _
    by_cases hy : y = x
    · rw [if_pos hy]
      rfl
    · rw [if_neg hy]
      have h2 : x ∈ es.map (·.1) := by
        rcases List.mem_cons.mp h with e | e
        · exact absurd e.symm hy
        · exact e
      show y :: (putA x v es).map (·.1) = _
      rw [putA_keys h2]
      rfl
theorem dcL_new {a : AS} {t fk fv : XF} {vs : List Nat} {env : DL.Env} (K : KeyF f) {v : β} {γ : Type} {q : γ → D} {kx : γ → α} : ∀ (xs : List γ) (es : List (α × β)), (es.map (·.1) ++ xs.map kx).Nodup → es.length + xs.length ≤ SZ → fro (g v) = true →
    (∀ x ∈ xs, ∃ e1 e2 e3 e4, a (q x) env = some e1 ∧ t e1 = some (.val (.bl true), e2) ∧ fk e2 = some (.val (f (kx x)), e3) ∧ fv e3 = some (.val (g v), e4) ∧ wipeE e4 vs = env) →
    dcL vs a t fk fv (xs.map q) env (dm f g es) = some (dm f g (es ++ xs.map fun x => (kx x, v)), env)
  | [], es, _, _, _, _ => by simp [dcL]
  | x :: xs, es, nd, hs, hf, h => by
    obtain ⟨e1, e2, e3, e4, h1, h2, h3, h4, h5⟩ := h x List.mem_cons_self
    have hx : kx x ∉ es.map (·.1) := fun z => (List.nodup_append.mp nd).2.2 _ z _ (by simp) rfl
    show (match a (q x) env with
      | some e1 => (match t e1 with
        | some (.val (.bl true), e2) => (match fk e2 with
          | some (.val k, e3) => (match fv e3 with
            | some (.val y, e4) => if fro y = true then (match dput (dm f g es) k y with
              | some acc' => dcL vs a t fk fv (xs.map q) (wipeE e4 vs) acc'
              | none => none) else none
            | _ => none)
          | _ => none)
        | some (.val (.bl false), e2) => dcL vs a t fk fv (xs.map q) (wipeE e2 vs) (dm f g es)
        | _ => none)
      | none => none) = _
    simp only [h1, h2, h3, h4, hf, if_true]
    rw [dput_dm K _ _ _ (by simp at hs; omega), putA_new hx]
    show dcL vs a t fk fv (xs.map q) (wipeE e4 vs) (dm f g (es ++ [(kx x, v)])) = _
    rw [h5, dcL_new K xs (es ++ [(kx x, v)]) (by simpa using nd) (by simp at hs ⊢; omega) hf fun y hy => h y (List.mem_cons_of_mem _ hy)]
    simp
theorem dc1 {fk fv : XF} {env : DL.Env} {i : Nat} (K : KeyF f) {v : β} {γ : Type} {q : γ → D} {kx : γ → α} {xs : List γ} (hi : env[i]? = some none) (nd : (xs.map kx).Nodup) (hs : xs.length ≤ SZ) (hf : fro (g v) = true)
    (h : ∀ x ∈ xs, fk (env.set i (some (q x))) = some (.val (f (kx x)), env.set i (some (q x))) ∧ fv (env.set i (some (q x))) = some (.val (g v), env.set i (some (q x)))) :
    dcL [i] (aset i) (xc (.bl true)) fk fv (xs.map q) env [] = some (dm f g (xs.map fun x => (kx x, v)), env) := by
  have z := dcL_new (a := aset i) (t := xc (.bl true)) (fk := fk) (fv := fv) (vs := [i]) (env := env) (g := g) (q := q) (kx := kx) (v := v) K xs [] (by simpa using nd) (by simpa using hs) hf fun x hx => ⟨env.set i (some (q x)), _, env.set i (some (q x)), env.set i (some (q x)), by simp [hi], rfl, (h x hx).1, (h x hx).2, set_back hi⟩
  simpa [dm] using z
end
end DL
namespace DL
open PySem PySem.Spec
section
variable {env e2 : DL.Env} {i : Nat} {f kf fx : XF} {g : AF} {d k v w z u : D}
theorem atW_nil (h : env[i]? = some (some v)) : atW env i [] = some v := by
  unfold atW
  rw [h]
  exact getP_nil
theorem modP_nil {f : D → Option (D × D)} : modP d [] f = f d := by cases d <;> rfl
theorem modW_nil {f : D → Option (D × D)} (h : env[i]? = some (some v)) (hf : f v = some (z, u)) : modW env i [] f = some (u, env.set i (some z)) := by
  unfold modW
  rw [h]
  show (modP v [] f).map _ = _
  rw [modP_nil, hf]
  rfl
/-- x[k] = d -/
theorem ap_asub (h1 : env[i]? = some (some v)) (hk : kf env = some (.val k, e2)) (h2 : e2[i]? = some (some w)) (hm : μset w [k, d] = some (z, u)) : asub (pvar i) kf d env = some (e2.set i (some z)) := by
  unfold asub pvar
  rw [h1]
  show (match atW env i [] with
    | some _ => (match kf env with
      | some (.val k, e2) => (match modW e2 i [] fun c => μset c [k, d] with
        | some (_, e3) => some e3
        | none => none)
      | _ => none)
    | none => none) = _
  rw [atW_nil h1]
  show (match kf env with
      | some (.val k, e2) => (match modW e2 i [] fun c => μset c [k, d] with
        | some (_, e3) => some e3
        | none => none)
      | _ => none) = _
  rw [hk]
  show (match modW e2 i [] fun c => μset c [k, d] with
        | some (_, e3) => some e3
        | none => none) = _
  rw [modW_nil h2 hm]
/-- x.method(..) that changes x -/
theorem ap_xmut {T : String} {μ : D → List D → Option (D × D)} {as : List Ar} {ds : List D} (h1 : env[i]? = some (some v)) (hc : ckT T v = true) (hg : g env = some (.vals as, e2)) (ht : tmps as = some ds) (h2 : e2[i]? = some (some w)) (hm : μ w ds = some (z, u)) :
    xmut (ckP T (pvar i)) g μ env = some (.val u, e2.set i (some z)) := by
  unfold xmut ckP pvar
  rw [h1]
  have e3 : (match modW e2 i [] fun c => μ c ds with
    | some (d, e3) => some (Res.val d, e3)
    | none => none) = some (.val u, e2.set i (some z)) := by rw [modW_nil h2 hm]
  simp only [atW_nil h1, hc, if_true, hg, ht]
  exact e3
end
/-! ### enumerate -/
def enum {α : Type} (xs : List α) : List (Nat × α) := (List.range xs.length).zip xs
theorem kEnum_of {α : Type} {f : α → D} {xs : List α} {d : D} (h : seqD d = some (xs.map f)) : kEnum [d] = some ((enum xs).map fun q => .tup [.int (q.1 : Nat), f q.2]) := by
  show (seqD d).map (fun xs => ((List.range xs.length).zipWith (fun (i : Nat) x => [D.int (i : Nat), x]) xs).map D.tup) = _
  rw [h]
  show some _ = _
  congr 1
  unfold enum
  show List.map D.tup (List.zipWith (fun i x => [D.int (i : Nat), x]) (List.range (List.map f xs).length) (List.map f xs)) = _
  rw [List.length_map, List.map_zipWith, List.zipWith_map_right, List.zip, List.map_zipWith]
theorem enum_at {α : Type} {xs : List α} {q : Nat × α} (h : q ∈ enum xs) : xs[q.1]? = some q.2 := by
  unfold enum at h
  obtain ⟨i, hi, e⟩ := List.mem_iff_getElem.mp h
  simp at hi
  rw [List.getElem_zip] at e
  rw [← e]
  simp [hi]
theorem enum_snd {α : Type} {xs : List α} : (enum xs).map (·.2) = xs := by
  unfold enum
  rw [List.map_snd_zip]
  simp
theorem enum_prefix {α : Type} {xs : List α} {d : List (Nat × α)} {q : Nat × α} (h : d ++ [q] <+: enum xs) : d.map (·.2) ++ [q.2] <+: xs := by
  have := h.map (·.2)
  rw [enum_snd] at this
  simpa using this
end DL

namespace DL
open PySem PySem.Spec
/-! ### plain facts: numbers -/
theorem eqD_int2 {a b : Int} : eqD (.int a) (.int b) = some (decide (a = b)) := by
  unfold eqD
  have e : ∀ i : Int, toPy (.int i) = some (.int i) := fun _ => rfl
  rw [e, e]
  have s : ∀ i : Int, SeqAt.shaped (.int i) = true := fun i => by simp [SeqAt.shaped, PyData.canLay0, PyData.depth]
  show (if SeqAt.shaped (.int a) = true ∧ SeqAt.shaped (.int b) = true then some (PyData.eqv (.int a) (.int b)) else none) = _
  rw [if_pos ⟨s a, s b⟩]
  by_cases h : a = b <;> simp [PyData.eqv, h]
theorem eqA_of {a b : D} {r : Bool} (h : eqD a b = some r) : φEqA [a, b] = some (.bl r) := by
  show (match (eqD a b).map D.bl with
    | some d => some d
    | none => φEqD id [a, b]) = _
  rw [h]
  rfl
theorem neA_of {a b : D} {r : Bool} (h : eqD a b = some r) : φNeA [a, b] = some (.bl (!r)) := by
  show (match (eqD a b).map (fun x => D.bl !x) with
    | some d => some d
    | none => φEqD not [a, b]) = _
  rw [h]
  rfl
@[simp] theorem φ_eqI {a b : Int} : φEqA [.int a, .int b] = some (.bl (decide (a = b))) := eqA_of eqD_int2
@[simp] theorem φ_neI {a b : Int} : φNeA [.int a, .int b] = some (.bl (!decide (a = b))) := neA_of eqD_int2
@[simp] theorem φ_intI {a : Int} : φInt [.int a] = some (.int a) := rfl
theorem φ_mul {a b : Int} (h : -18446744073709551616 < b ∧ b < 18446744073709551616) : φMulB [.int a, .int b] = some (.int (a * b)) := by
  show (match (if (-18446744073709551616 < a ∧ a < 18446744073709551616) ∨ (-18446744073709551616 < b ∧ b < 18446744073709551616) then some (D.int (a * b)) else none) with
    | some d => some d
    | none => φRepF [.int a, .int b]) = _
  rw [if_pos (.inr h)]
theorem φ_mod {a b : Int} (h : 0 < b) : φMod [.int a, .int b] = some (.int (a % b)) := if_pos h
theorem φ_div {a b : Int} (h : 0 < b ∧ b < 1073741824) : φDiv [.int a, .int b] = some (.int (a / b)) := if_pos h
/-! ### isinstance -/
section
variable {tb : List (Ty × Ty × Bool)} {insL errL : List Str}
theorem isTy {d : D} {n : String} {t : Ty} {b : Bool} (ho : okTy insL errL d = true) (ht : tyN d = some t) (hl : lookTy tb t (.b n) = some b) : φIsI tb insL errL [d, .ty n] = some (.bl b) := by
  show (if okTy insL errL d = true then (match tyN d, some (Ty.b n) with
    | some t, some u => (lookTy tb t u).map D.bl
    | _, _ => none) else none) = _
  rw [if_pos ho, ht]
  show (lookTy tb t (.b n)).map D.bl = _
  rw [hl]
  rfl
theorem isGl {d : D} {x : Str} {t : Ty} {b : Bool} (ho : okTy insL errL d = true) (ht : tyN d = some t) (hl : lookTy tb t (.c x) = some b) : φIsI tb insL errL [d, .glob x] = some (.bl b) := by
  show (if okTy insL errL d = true then (match tyN d, some (Ty.c x) with
    | some t, some u => (lookTy tb t u).map D.bl
    | _, _ => none) else none) = _
  rw [if_pos ho, ht]
  show (lookTy tb t (.c x)).map D.bl = _
  rw [hl]
  rfl
theorem isTL {d : D} {t : Ty} {b : Bool} (ho : okTy insL errL d = true) (ht : tyN d = some t) (hl : anyTy tb t [.b "list", .b "tuple"] = some b) : φIsI tb insL errL [d, .tup [.ty "list", .ty "tuple"]] = some (.bl b) := by
  show (if okTy insL errL d = true then (match tyN d, clNs [.ty "list", .ty "tuple"] with
    | some t, some us => (anyTy tb t us).map D.bl
    | _, _ => none) else none) = _
  rw [if_pos ho, ht]
  show (anyTy tb t [.b "list", .b "tuple"]).map D.bl = _
  rw [hl]
  rfl
end
/-! ### comprehensions and loops that change nothing else -/
section
variable {α : Type} {a : AS} {t f : XF} {w : IF} {vs : List Nat} {env : DL.Env} {q y : α → D} {p : α → Bool}
theorem lcF : ∀ (xs : List α) (acc : List D), acc.length + xs.length ≤ SZ →
    (∀ x ∈ xs, ∃ e1, a (q x) env = some e1 ∧ t e1 = some (.val (.bl (p x)), e1) ∧ (p x = true → f e1 = some (.val (y x), e1) ∧ fro (y x) = true) ∧ wipeE e1 vs = env) →
    lcL vs a t f (xs.map q) env acc = some (acc ++ (xs.filter p).map y, env)
  | [], acc, _, _ => by simp [lcL]
  | x :: xs, acc, hs, h => by
    obtain ⟨e1, h1, h2, h3, h4⟩ := h x List.mem_cons_self
    have ih := fun acc hs => lcF xs acc hs fun z hz => h z (List.mem_cons_of_mem _ hz)
    show (match a (q x) env with
      | some e1 => (match t e1 with
        | some (.val (.bl true), e2) => (match f e2 with
          | some (.val y, e3) => if fro y = true ∧ acc.length < SZ then lcL vs a t f (xs.map q) (wipeE e3 vs) (acc ++ [y]) else none
          | _ => none)
        | some (.val (.bl false), e2) => lcL vs a t f (xs.map q) (wipeE e2 vs) acc
        | _ => none)
      | none => none) = _
    simp only [h1, h2]
    cases hp : p x with
    | true =>
      obtain ⟨k1, k2⟩ := h3 hp
      simp only [k1]
      rw [if_pos ⟨k2, by simp at hs; omega⟩, h4, ih _ (by simp at hs ⊢; omega)]
      simp [List.filter_cons, hp]
    | false =>
      simp only []
      rw [h4, ih _ (by simp at hs ⊢; omega)]
      simp [List.filter_cons, hp]
/-- [f for .. in .. if t] -/
theorem xlcF {xs : List α} (hw : w env = some (.items (xs.map q), env)) (hv : ∀ v ∈ vs, env[v]? = some none) (hs : xs.length ≤ SZ)
    (h : ∀ x ∈ xs, ∃ e1, a (q x) env = some e1 ∧ t e1 = some (.val (.bl (p x)), e1) ∧ (p x = true → f e1 = some (.val (y x), e1) ∧ fro (y x) = true) ∧ wipeE e1 vs = env) :
    xlc vs w a t f env = some (.val (.lst true ((xs.filter p).map y)), env) := by
  have back : ∀ (vs : List Nat) (e : DL.Env), (∀ v ∈ vs, e[v]? = some none) → wipeE e vs = e := fun vs => by
    induction vs with
    | nil => intro e _; rfl
    | cons v vs ih =>
      intro e he
      show (wipeE e vs).set v none = e
      rw [ih e fun u hu => he u (List.mem_cons_of_mem _ hu)]
      obtain ⟨hl, ee⟩ := List.getElem?_eq_some_iff.mp (he v List.mem_cons_self)
      rw [← ee]
      exact List.set_getElem_self hl
  have rest : ∀ (vs : List Nat) (e : DL.Env), (∀ v ∈ vs, e[v]? = some none) → restE e e vs = e := fun vs => by
    intro e he
    have key : ∀ (us : List Nat), (∀ v ∈ us, e[v]? = some none) → restE e e us = e := fun us => by
      induction us with
      | nil => intro _; rfl
      | cons v us ih =>
        intro hu
        show restE e (e.set v (e.getD v none)) us = e
        have hv := hu v List.mem_cons_self
        have : e.set v (e.getD v none) = e := by
          rw [List.getD_eq_getElem?_getD, hv]
          obtain ⟨hl, ee⟩ := List.getElem?_eq_some_iff.mp hv
          show e.set v none = e
          rw [← ee]
          exact List.set_getElem_self hl
        rw [this]
        exact ih fun u h => hu u (List.mem_cons_of_mem _ h)
    exact key vs he
  have hall : (vs.all fun v => match env[v]? with
      | some x => froO x
      | none => false) = true := List.all_eq_true.mpr fun v hv' => by rw [hv v hv']; rfl
  rw [ap_xlc, hw]
  show (if (vs.all fun v => match env[v]? with
      | some x => froO x
      | none => false) = true then
      (match lcL vs a t f (xs.map q) (wipeE env vs) [] with
      | some (acc, e2) => some (Res.val (.lst true acc), restE env e2 vs)
      | none => none) else none) = _
  rw [if_pos hall, back vs env hv, lcF xs [] (by simpa using hs) h]
  show some (Res.val (.lst true ([] ++ (xs.filter p).map y)), restE env env vs) = _
  rw [rest vs env hv]
  rfl
/-- without an if -/
theorem xlcM {xs : List α} (hw : w env = some (.items (xs.map q), env)) (hv : ∀ v ∈ vs, env[v]? = some none) (hs : xs.length ≤ SZ)
    (h : ∀ x ∈ xs, ∃ e1, a (q x) env = some e1 ∧ f e1 = some (.val (y x), e1) ∧ fro (y x) = true ∧ wipeE e1 vs = env) :
    xlc vs w a (xc (.bl true)) f env = some (.val (.lst true (xs.map y)), env) := by
  have := xlcF (p := fun _ => true) (t := xc (.bl true)) hw hv hs fun x hx => by
    obtain ⟨e1, h1, h2, h3, h4⟩ := h x hx
    exact ⟨e1, h1, rfl, fun _ => ⟨h2, h3⟩, h4⟩
  rw [this, List.filter_eq_self.mpr fun _ _ => rfl]
/-- a loop that goes to its end and changes a state -/
theorem forS {σ : Type} {body : SF} {st : σ → α → σ} {E : σ → DL.Env → Prop} : ∀ (xs : List α) (s : σ) (e : DL.Env), E s e →
    (∀ x ∈ xs, ∀ s e, E s e → ∃ e1 e2, a (q x) e = some e1 ∧ (body e1 = some (.nx, e2) ∨ body e1 = some (.ct, e2)) ∧ E (st s x) e2) → ∃ e', forL a body (xs.map q) e = some (.nx, e') ∧ E (xs.foldl st s) e'
  | [], s, e, h, _ => ⟨e, rfl, h⟩
  | x :: xs, s, e, h, hb => by
    obtain ⟨e1, e2, h1, h2, h3⟩ := hb x List.mem_cons_self s e h
    obtain ⟨e', h4, h5⟩ := forS xs (st s x) e2 h3 fun z hz => hb z (List.mem_cons_of_mem _ hz)
    refine ⟨e', ?_, h5⟩
    show (match a (q x) e with
      | some e1 => (match body e1 with
        | some (.nx, e2) => forL a body (xs.map q) e2
        | some (.ct, e2) => forL a body (xs.map q) e2
        | some (.bk, e2) => some (.nx, e2)
        | r => r)
      | none => none) = _
    rw [h1]
    rcases h2 with h2 | h2
    · simp only [h2]
      exact h4
    · simp only [h2]
      exact h4
end
end DL

namespace DL
open PySem PySem.Spec
/-! ### rows: tuples of ints; told rows: tuples of ints and None -/
theorem sm_ce (r : List Int) : (r.map some).map ce = r.map .int := by
  rw [List.map_map]
  rfl
theorem rowT_tp (r : List Int) : rowT r = tp (r.map some) := by
  unfold tp rowT
  rw [sm_ce]
theorem some_inj {x y : List Int} (h : x.map some = y.map some) : x = y := by
  have := congrArg (List.filterMap id) h
  simpa [List.filterMap_map] using this
theorem rowT_inj {r s : List Int} (h : rowT r = rowT s) : r = s := by
  rw [rowT_tp, rowT_tp] at h
  exact some_inj (tp_inj h)
@[simp] theorem fro_rowT {r : List Int} : fro (rowT r) = true := rfl
@[simp] theorem fz_rowT {r : List Int} : fz (rowT r) = rowT r := rfl
@[simp] theorem fro_tp {r : List (Option Int)} : fro (tp r) = true := rfl
@[simp] theorem fz_tp {r : List (Option Int)} : fz (tp r) = tp r := rfl
theorem fro_map {α : Type} {f : α → D} {l : List α} (h : ∀ x, fro (f x) = true) : (l.map f).all fro = true := by
  rw [List.all_map]
  exact List.all_eq_true.mpr fun x _ => h x
@[simp] theorem fro_rows {l : List (List Int)} : (l.map rowT).all fro = true := fro_map fun _ => rfl
@[simp] theorem fro_ints {l : List Int} : (l.map D.int).all fro = true := fro_map fun _ => rfl
@[simp] theorem fzs_rows {l : List (List Int)} : fzs (l.map rowT) = l.map rowT := fzs_of_fro fro_rows
@[simp] theorem fzs_ints {l : List Int} : fzs (l.map D.int) = l.map D.int := fzs_of_fro fro_ints
theorem rows_tp (l : List (List Int)) : l.map rowT = (l.map (List.map some)).map tp := by
  rw [List.map_map]
  exact List.map_congr_left fun r _ => rowT_tp r
theorem mem_some {r : List Int} {l : List (List Int)} : r.map some ∈ l.map (List.map some) ↔ r ∈ l := by
  refine ⟨fun h => ?_, fun h => List.mem_map.mpr ⟨r, h, rfl⟩⟩
  obtain ⟨s, hs, e⟩ := List.mem_map.mp h
  rw [← some_inj e]
  exact hs
theorem in_rowL {o : Bool} {r : List Int} {l : List (List Int)} : φInA [rowT r, .lst o (l.map rowT)] = some (.bl (decide (r ∈ l))) := by
  rw [rowT_tp, rows_tp, in_lst]
  simp only [mem_some]
theorem in_rowT {r : List Int} {l : List (List Int)} : φInA [rowT r, .tup (l.map rowT)] = some (.bl (decide (r ∈ l))) := by
  rw [rowT_tp, rows_tp, in_tup]
  simp only [mem_some]
theorem notin_rowL {o : Bool} {r : List Int} {l : List (List Int)} : φNotInA [rowT r, .lst o (l.map rowT)] = some (.bl !(decide (r ∈ l))) := by
  rw [rowT_tp, rows_tp, notin_lst]
  simp only [mem_some]
theorem notin_rowT {r : List Int} {l : List (List Int)} : φNotInA [rowT r, .tup (l.map rowT)] = some (.bl !(decide (r ∈ l))) := by
  rw [rowT_tp, rows_tp]
  show (match (inD (tp (r.map some)) (.tup ((l.map (List.map some)).map tp))).map (fun x => D.bl !x) with
    | some d => some d
    | none => _) = _
  rw [inD_tp (ls := l.map (List.map some)) _ rfl]
  simp only [Option.map_some, mem_some]
/-! equality -/
theorem eqD_py {a b : D} {x y : PyData} (ha : toPy a = some x) (hb : toPy b = some y) (sx : SeqAt.shaped x = true) (sy : SeqAt.shaped y = true) : eqD a b = some (PyData.eqv x y) := by
  unfold eqD
  rw [ha, hb]
  exact if_pos ⟨sx, sy⟩
theorem eqD_tp {l m : List (Option Int)} : eqD (tp l) (tp m) = some (decide (l = m)) := by
  rw [eqD_py (toPy_tp l) (toPy_tp m) (shaped_tp l) (shaped_tp m), eqv_tp]
theorem some_eq {r s : List Int} : (r.map some = s.map some) ↔ r = s := ⟨some_inj, fun h => by rw [h]⟩
theorem eqD_row {r s : List Int} : eqD (rowT r) (rowT s) = some (decide (r = s)) := by
  rw [rowT_tp, rowT_tp, eqD_tp]
  simp only [some_eq]
theorem eqv_tps : ∀ l m : List (List (Option Int)), PyData.eqvAll (l.map fun r => .tuple (r.map cy)) (m.map fun r => .tuple (r.map cy)) = decide (l = m)
  | [], [] => by simp [PyData.eqvAll]
  | [], _ :: _ => by simp [PyData.eqvAll]
  | _ :: _, [] => by simp [PyData.eqvAll]
  | a :: l, b :: m => by
    show PyData.eqvAll (.tuple (a.map cy) :: l.map fun r => .tuple (r.map cy)) (.tuple (b.map cy) :: m.map fun r => .tuple (r.map cy)) = _
    rw [PyData.eqvAll, eqv_tp, eqv_tps l m]
    by_cases h : a = b <;> by_cases h2 : l = m <;> simp [h, h2]
theorem toPy_rowsT (l : List (List Int)) : toPy (.tup (l.map rowT)) = some (.tuple ((l.map (List.map some)).map fun r => .tuple (r.map cy))) := by
  show (toPys (l.map rowT)).map PyData.tuple = _
  rw [rows_tp, toPys_tps]
  rfl
theorem toPy_rowsL (o : Bool) (l : List (List Int)) : toPy (.lst o (l.map rowT)) = some (.list ((l.map (List.map some)).map fun r => .tuple (r.map cy))) := by
  show (toPys (l.map rowT)).map PyData.list = _
  rw [rows_tp, toPys_tps]
  rfl
theorem shaped_tpsT (ls : List (List (Option Int))) : SeqAt.shaped (.tuple (ls.map fun l => .tuple (l.map cy))) = true := by
  have := dep_tps ls
  simp [SeqAt.shaped, PyData.canLay0, lay_tps, PyData.depth]
  omega
theorem rows_eq {l m : List (List Int)} : (l.map (List.map some) = m.map (List.map some)) ↔ l = m := by
  refine ⟨fun h => ?_, fun h => by rw [h]⟩
  have key : ∀ l m : List (List Int), l.map (List.map some) = m.map (List.map some) → l = m := fun l => by
    induction l with
    | nil => intro m h; cases m with
      | nil => rfl
      | cons b m => cases h
    | cons a l ih => intro m h; cases m with
      | nil => cases h
      | cons b m =>
        simp only [List.map_cons, List.cons.injEq] at h
        rw [some_inj h.1, ih m h.2]
  exact key l m h
theorem eqD_rowsT {l m : List (List Int)} : eqD (.tup (l.map rowT)) (.tup (m.map rowT)) = some (decide (l = m)) := by
  rw [eqD_py (toPy_rowsT l) (toPy_rowsT m) (shaped_tpsT _) (shaped_tpsT _), PyData.eqv, eqv_tps]
  simp only [rows_eq]
theorem eqD_rowsL {o u : Bool} {l m : List (List Int)} : eqD (.lst o (l.map rowT)) (.lst u (m.map rowT)) = some (decide (l = m)) := by
  rw [eqD_py (toPy_rowsL o l) (toPy_rowsL u m) (shaped_tps _) (shaped_tps _), PyData.eqv, eqv_tps]
  simp only [rows_eq]
theorem toPys_ints (l : List Int) : toPys (l.map .int) = some (l.map .int) := by
  have := toPys_ce (l.map some)
  rw [sm_ce, List.map_map] at this
  exact this
theorem shaped_ints (l : List Int) : SeqAt.shaped (.list (l.map .int)) = true := by
  have := shaped_tp (l.map some)
  rw [List.map_map] at this
  simp [SeqAt.shaped, PyData.canLay0, PyData.depth] at this ⊢
  exact this
theorem eqvAll_ints : ∀ l m : List Int, PyData.eqvAll (l.map .int) (m.map .int) = decide (l = m) := fun l m => by
  have := eqv_all (l.map some) (m.map some)
  rw [List.map_map, List.map_map] at this
  rw [show (l.map PyData.int) = l.map (cy ∘ some) from rfl, show (m.map PyData.int) = m.map (cy ∘ some) from rfl, this]
  simp only [some_eq]
theorem eqD_intsL {o u : Bool} {l m : List Int} : eqD (.lst o (l.map .int)) (.lst u (m.map .int)) = some (decide (l = m)) := by
  have h1 : toPy (.lst o (l.map .int)) = some (.list (l.map .int)) := by
    show (toPys (l.map .int)).map PyData.list = _
    rw [toPys_ints]
    rfl
  have h2 : toPy (.lst u (m.map .int)) = some (.list (m.map .int)) := by
    show (toPys (m.map .int)).map PyData.list = _
    rw [toPys_ints]
    rfl
  rw [eqD_py h1 h2 (shaped_ints l) (shaped_ints m), PyData.eqv, eqvAll_ints]
/-! index, length, slices -/
theorem ix_row {r : List Int} {p : Nat} (h : p < r.length) : φIx [rowT r, .int (p : Nat)] = some (.int (r.getD p 0)) := by
  have ha : L2.atI (r.map D.int) (p : Nat) = some (.int (r.getD p 0)) := by
    unfold L2.atI L2.ixN
    rw [if_pos (by omega), if_pos (by simp; omega)]
    show (r.map D.int)[((p : Nat) : Int).toNat]? = _
    rw [Int.toNat_natCast, List.getElem?_map, List.getElem?_eq_getElem h, List.getD_eq_getElem?_getD, List.getElem?_eq_getElem h]
    rfl
  show (match L2.atI (r.map D.int) (p : Nat) with
    | some d => some d
    | none => _) = _
  rw [ha]
theorem ix_told {r : List (Option Int)} {p : Nat} (h : p < r.length) : φIx [tp r, .int (p : Nat)] = some (ce (r.getD p none)) := by
  have ha : L2.atI (r.map ce) (p : Nat) = some (ce (r.getD p none)) := by
    unfold L2.atI L2.ixN
    rw [if_pos (by omega), if_pos (by simp; omega)]
    show (r.map ce)[((p : Nat) : Int).toNat]? = _
    rw [Int.toNat_natCast, List.getElem?_map, List.getElem?_eq_getElem h, List.getD_eq_getElem?_getD, List.getElem?_eq_getElem h]
    rfl
  show (match L2.atI (r.map ce) (p : Nat) with
    | some d => some d
    | none => _) = _
  rw [ha]
theorem ix_lstP {o : Bool} {xs : List D} {p : Nat} {d : D} (h : xs[p]? = some d) (hf : fro d = true) : φIx [.lst o xs, .int (p : Nat)] = some d := by
  have hl := (List.getElem?_eq_some_iff.mp h).1
  have ha : L2.atI xs (p : Nat) = some d := by
    unfold L2.atI L2.ixN
    rw [if_pos (by omega), if_pos (by omega)]
    show xs[((p : Nat) : Int).toNat]? = _
    rw [Int.toNat_natCast]
    exact h
  have : φAt [.lst o xs, .int (p : Nat)] = some d := by
    show (match L2.atI xs (p : Nat) with
      | some d => if fro d = true then some d else none
      | none => none) = _
    rw [ha]
    exact if_pos hf
  show (match φAt [.lst o xs, .int (p : Nat)] with
    | some d => some d
    | none => _) = _
  rw [this]
theorem ix_tupP {xs : List D} {p : Nat} {d : D} (h : xs[p]? = some d) : φIx [.tup xs, .int (p : Nat)] = some d := by
  have hl := (List.getElem?_eq_some_iff.mp h).1
  have ha : L2.atI xs (p : Nat) = some d := by
    unfold L2.atI L2.ixN
    rw [if_pos (by omega), if_pos (by omega)]
    show xs[((p : Nat) : Int).toNat]? = _
    rw [Int.toNat_natCast]
    exact h
  show (match L2.atI xs (p : Nat) with
    | some d => some d
    | none => _) = _
  rw [ha]
@[simp] theorem len_row {r : List Int} : φLenA [rowT r] = some (.int r.length) := by
  show some (D.int (r.map D.int).length) = _
  rw [List.length_map]
@[simp] theorem len_told {r : List (Option Int)} : φLenA [tp r] = some (.int r.length) := by
  show some (D.int (r.map ce).length) = _
  rw [List.length_map]
theorem tup_of {o : Bool} {xs : List D} (h : xs.all fro = true) : φTuple [.lst o xs] = some (.tup xs) := by
  show (if xs.all fro = true then some xs else none).map D.tup = _
  rw [if_pos h]
  rfl
theorem lst_ofT {xs : List D} : φList [.tup xs] = some (.lst true xs) := rfl
/-! iteration -/
@[simp] theorem kAny_row {r : List Int} : kAny [rowT r] = some (r.map .int) := rfl
@[simp] theorem kAny_rowsL {o : Bool} {l : List (List Int)} : kAny [.lst o (l.map rowT)] = some (l.map rowT) := kAny_lst fro_rows
@[simp] theorem kAny_intsL {o : Bool} {l : List Int} : kAny [.lst o (l.map .int)] = some (l.map .int) := kAny_lst fro_ints
theorem kR1_of {n : Nat} (h : n ≤ 16777216) : kR1 [.int n] = some ((List.range n).map fun i : Nat => D.int i) := by
  unfold kR1
  simp only []
  first
    | (rw [if_pos (by omega)]; simp)
    | simp
end DL

namespace DL
open PySem PySem.Spec
/-! ### the tape of draws -/
def tapeD (l : List Int) (r : Int) (c : List Int) (t : Int) : D := .dic true [(.str "large", .lst true (l.map .int)), (.str "rest", .int r), (.str "cells", .lst false (c.map .int)), (.str "turn", .int t)]
def IsTape (d : D) : Prop := ∃ l r c t, d = tapeD l r c t
section
variable {l c : List Int} {r t x : Int} {e : DL.Env}
theorem tp_rest : φIx [tapeD l r c t, .str "rest"] = some (.int r) := rfl
theorem tp_turn : φIx [tapeD l r c t, .str "turn"] = some (.int t) := rfl
theorem tp_cells : φIx [tapeD l r c t, .str "cells"] = some (.lst false (c.map .int)) := rfl
theorem st_rest : μset (tapeD l r c t) [.str "rest", .int x] = some (tapeD l x c t, .non) := rfl
theorem st_turn : μset (tapeD l r c t) [.str "turn", .int x] = some (tapeD l r c x, .non) := rfl
theorem ne_nilI {o u : Bool} {l : List Int} : φNeA [.lst o (l.map .int), .lst u []] = some (.bl (!l.isEmpty)) := by
  have := neA_of (eqD_intsL (o := o) (u := u) (l := l) (m := []))
  simp only [List.map_nil] at this
  rw [this]
  cases l <;> rfl
theorem tp_ne : popB (psub (pvar 0) (xc (.str "large"))) (consO (.e (xlst (nilA))) nilA) φNeA (some (tapeD l r c t) :: e) = some (.val (.bl (!l.isEmpty)), some (tapeD l r c t) :: e) := by
  have h : psub (pvar 0) (xc (.str "large")) (some (tapeD l r c t) :: e) = some ((0, [.k (.inr "large")]), some (tapeD l r c t) :: e) := rfl
  have h2 : atW (some (tapeD l r c t) :: e) 0 [.k (.inr "large")] = some (.lst true (l.map .int)) := rfl
  unfold popB
  rw [h]
  simp only [h2]
  have hz : (0 : Nat) ≤ SZ := Nat.zero_le _
  simp [hz, h2, ne_nilI]
theorem tp_pop : xmut (ckP "list" (psub (pvar 0) (xc (.str "large")))) (consO (.e (xc (.int 0))) (nilA)) μPopAt (some (tapeD (x :: l) r c t) :: e) = some (.val (.int x), some (tapeD l r c t) :: e) := by
  have h : ckP "list" (psub (pvar 0) (xc (.str "large"))) (some (tapeD (x :: l) r c t) :: e) = some ((0, [.k (.inr "large")]), some (tapeD (x :: l) r c t) :: e) := rfl
  have h2 : atW (some (tapeD (x :: l) r c t) :: e) 0 [.k (.inr "large")] = some (.lst true ((x :: l).map .int)) := rfl
  have hp : μPopAt (.lst true ((x :: l).map .int)) [.int 0] = some (.lst true (l.map .int), .int x) := by
    have hs : seqIndex? 0 ((x :: l).map D.int).length = some 0 := by simp [seqIndex?]
    show (if -(2 ^ 63) ≤ (0 : Int) ∧ (0 : Int) < 2 ^ 63 then (match seqIndex? 0 ((x :: l).map D.int).length with
      | some k => (match ((x :: l).map D.int)[k]? with
        | some d => some (D.lst true (((x :: l).map D.int).eraseIdx k), d)
        | none => none)
      | none => none) else none) = _
    rw [if_pos (by decide), hs]
    rfl
  have hm : modW (some (tapeD (x :: l) r c t) :: e) 0 [.k (.inr "large")] (fun c => μPopAt c [.int 0]) = some (.int x, some (tapeD l r c t) :: e) := by
    have h3 : modP (tapeD (x :: l) r c t) [.k (.inr "large")] (fun c => μPopAt c [.int 0]) = some (tapeD l r c t, .int x) := by
      show (modP (.lst true ((x :: l).map .int)) [] (fun c => μPopAt c [.int 0])).map _ = _
      rw [modP_nil, hp]
      rfl
    show (modP (tapeD (x :: l) r c t) [.k (.inr "large")] (fun c => μPopAt c [.int 0])).map _ = _
    rw [h3]
    rfl
  unfold xmut
  rw [h]
  simp only [h2]
  show (match modW (some (tapeD (x :: l) r c t) :: e) 0 [.k (.inr "large")] (fun c => μPopAt c [.int 0]) with
          | some (d, e3) => some (Res.val d, e3)
          | none => none) = _
  rw [hm]
end
theorem pow5 {g b : Int} (hg : g < 2147483648) (hb : 0 ≤ b ∧ b < g) : φPow [.int b, .int 5] = some (.int (b ^ 5)) := by
  show (if (0 : Int) ≤ 5 ∧ (5 : Int) ≤ 1000000 ∧ b.natAbs < 18446744073709551616 then some (D.int (b ^ (5 : Int).toNat)) else none) = _
  rw [if_pos ⟨by omega, by omega, by omega⟩]
  rfl
theorem SZ_le {n : Nat} (h : n ≤ 16777216) : n ≤ SZ := h
/-- an item of a list of frozen data -/
theorem ix_lstI {o : Bool} {xs : List D} {i : Int} (h : 0 ≤ i ∧ i < xs.length) (hf : xs.all fro = true) : ∃ x ∈ xs, φIx [.lst o xs, .int i] = some x ∧ xs[i.toNat]? = some x := by
  have hlt : i.toNat < xs.length := by omega
  have hx : xs[i.toNat]? = some xs[i.toNat] := List.getElem?_eq_getElem hlt
  have hm : xs[i.toNat] ∈ xs := List.getElem_mem hlt
  refine ⟨_, hm, ?_, hx⟩
  have := ix_lstP (o := o) (p := i.toNat) hx (List.all_eq_true.mp hf _ hm)
  rw [← this]
  have e : ((i.toNat : Nat) : Int) = i := by omega
  rw [e]
theorem ix_tupI {xs : List D} {i : Int} (h : 0 ≤ i ∧ i < xs.length) : ∃ x ∈ xs, φIx [.tup xs, .int i] = some x ∧ xs[i.toNat]? = some x := by
  have hlt : i.toNat < xs.length := by omega
  have hx : xs[i.toNat]? = some xs[i.toNat] := List.getElem?_eq_getElem hlt
  refine ⟨_, List.getElem_mem hlt, ?_, hx⟩
  have := ix_tupP (p := i.toNat) hx
  rw [← this]
  have e : ((i.toNat : Nat) : Int) = i := by omega
  rw [e]
end DL

namespace K10
open PySem PySem.Spec PyProof.Rows L2 DL
/-- a name that is bound here: its own, a cell -/
theorem loc {sc : Scope} {x : Str} (h : Loc sc x := by first | exact .inl rfl | exact .inr rfl) : Loc sc x := h
def top (i : Nat) : Stmt := PySem.Challenge.pw_fullfree_k10_whole_errors_first_due.main.body.getD i (.Pass ⟨0, 0, 0, 0⟩)
def clsBody : Stmt → List Stmt
  | .ClassDef (body := b) .. => b
  | _ => []
def bts : List String := ["NoneType", "bool", "int", "str", "tuple", "list", "dict"]
def insL : List Str := ["Lot", "School"]
def errL : List Str := ["BadNumber", "NoLot", "BadRows", "BadPlaces", "BadRow", "BadBounds", "BadShare", "BadSentence", "NoSchool", "NoRows", "BadGuesser"]
def tyTs : List Ty := bts.map .b ++ insL.map .c
def clTs : List Str := ["Lot", "School"]
def tb : List (Ty × Ty × Bool) := ["int", "bool", "tuple", "list", "dict", "str"].flatMap (fun c => tyTs.map fun t => (t, Ty.b c, decide (t = .b c) || (decide (t = .b "bool") && decide (c = "int")))) ++
  clTs.flatMap (fun c => tyTs.map fun t => (t, Ty.c c, decide (t = .c c))) ++ errL.flatMap (fun c => errL.map fun t => (Ty.c t, Ty.c c, decide (t = c)))
def ct_law_caught : Str → Option Bool := fun c => if c ∈ (["BadNumber", "NoLot", "BadRows", "BadPlaces", "BadRow", "BadBounds", "BadShare", "BadSentence", "NoSchool", "NoRows", "BadGuesser"] : List Str) then some true else none
/-- what the walks know of the globals -/
structure Gs (P : Program) (w : World) (K : PySem.W.Frag) (mg : Str → Option Value) (base : Heap) : Prop where
  f_abs : mg "abs" = none
  f_all : mg "all" = none
  f_bool : mg "bool" = none
  f_dict : mg "dict" = none
  f_enumerate : mg "enumerate" = none
  f_int : mg "int" = none
  f_isinstance : mg "isinstance" = none
  f_len : mg "len" = none
  f_list : mg "list" = none
  f_sorted : mg "sorted" = none
  f_str : mg "str" = none
  f_tuple : mg "tuple" = none
  i_MOST_BOUND : ∃ t, mg "MOST_BOUND" = some (.int 64 t)
  i_MOST_DEEP : ∃ t, mg "MOST_DEEP" = some (.int 8 t)
  i_MOST_MISTAKES : ∃ t, mg "MOST_MISTAKES" = some (.int 7 t)
  i_MOST_PLACES : ∃ t, mg "MOST_PLACES" = some (.int 6 t)
  c_BadBounds : mg "BadBounds" = some (.ref (He.ga K "BadBounds"))
  c_BadGuesser : mg "BadGuesser" = some (.ref (He.ga K "BadGuesser"))
  c_BadNumber : mg "BadNumber" = some (.ref (He.ga K "BadNumber"))
  c_BadPlaces : mg "BadPlaces" = some (.ref (He.ga K "BadPlaces"))
  c_BadRow : mg "BadRow" = some (.ref (He.ga K "BadRow"))
  c_BadSentence : mg "BadSentence" = some (.ref (He.ga K "BadSentence"))
  c_BadShare : mg "BadShare" = some (.ref (He.ga K "BadShare"))
  c_Lot : mg "Lot" = some (.ref (He.ga K "Lot"))
  c_NoLot : mg "NoLot" = some (.ref (He.ga K "NoLot"))
  c_NoRows : mg "NoRows" = some (.ref (He.ga K "NoRows"))
  c_NoSchool : mg "NoSchool" = some (.ref (He.ga K "NoSchool"))
  c_School : mg "School" = some (.ref (He.ga K "School"))
  c_always_paper : mg "always_paper" = some (.ref (He.ga K "always_paper"))
  c_forces_paper : mg "forces_paper" = some (.ref (He.ga K "forces_paper"))
  c_guesser_paper : mg "guesser_paper" = some (.ref (He.ga K "guesser_paper"))
  c_is_forces_paper : mg "is_forces_paper" = some (.ref (He.ga K "is_forces_paper"))
  c_is_keeps_paper : mg "is_keeps_paper" = some (.ref (He.ga K "is_keeps_paper"))
  c_is_share_paper : mg "is_share_paper" = some (.ref (He.ga K "is_share_paper"))
  c_keeps_paper : mg "keeps_paper" = some (.ref (He.ga K "keeps_paper"))
  c_least_share : mg "least_share" = some (.ref (He.ga K "least_share"))
  c_least_wrong : mg "least_wrong" = some (.ref (He.ga K "least_wrong"))
  c_lot_of_sentence : mg "lot_of_sentence" = some (.ref (He.ga K "lot_of_sentence"))
  c_mean_wrong : mg "mean_wrong" = some (.ref (He.ga K "mean_wrong"))
  c_most_mistakes : mg "most_mistakes" = some (.ref (He.ga K "most_mistakes"))
  c_sentence_text : mg "sentence_text" = some (.ref (He.ga K "sentence_text"))
  c_settling : mg "settling" = some (.ref (He.ga K "settling"))
  c_share_paper : mg "share_paper" = some (.ref (He.ga K "share_paper"))
  c_true_of : mg "true_of" = some (.ref (He.ga K "true_of"))
  c_wrong : mg "wrong" = some (.ref (He.ga K "wrong"))
  e_BadBounds : ExP K mg "BadBounds"
  e_BadGuesser : ExP K mg "BadGuesser"
  e_BadNumber : ExO P w K mg base "BadNumber" "part"
  e_BadPlaces : ExP K mg "BadPlaces"
  e_BadRow : ExP K mg "BadRow"
  e_BadRows : ExO P w K mg base "BadRows" "index"
  e_BadSentence : ExP K mg "BadSentence"
  e_BadShare : ExP K mg "BadShare"
  e_NoLot : ExO P w K mg base "NoLot" "part"
  e_NoRows : ExP K mg "NoRows"
  e_NoSchool : ExP K mg "NoSchool"
  fl_Lot_own_known : FldOk K ["Lot"] "own_known"
  fl_Lot_own_places : FldOk K ["Lot"] "own_places"
  fl_Lot_own_rows : FldOk K ["Lot"] "own_rows"
  isT : IsT K tb insL errL
  ct_law_caught : ∀ c b, ct_law_caught c = some b → PySem.W.exmOne K (.ref (He.ga K c)) (.ref (He.ga K "LotError")) = some b
  k_law_caught : CaughtD K mg "_law_caught" (.ref (He.ga K "LotError"))
variable {P : Program} {w : World} {K : PySem.W.Frag} {mg : Str → Option Value} {base : Heap} {T : List (Addr × Str)} {f : Addr} {k : Nat}
abbrev s__law_begun : Stmt := top 119
abbrev N__law_begun : List Str := ["script", "large", "grain"]
theorem nd__law_begun : N__law_begun.Nodup := by decide
def g__law_begun_e0 : XF := pop (consO (.e (pop (consO (.pk 2) (nilA)) (φAbs))) (consO (.e (pop (consO (.e (xc (.int 10))) (consO (.e (xc (.int 18))) nilA)) φPow)) nilA)) φSub
def g__law_begun_t1 : XF := pop (consO (.e (pop (consO (.pk 2) (nilA)) (φAbs))) (consO (.e (pop (consO (.e (xc (.int 10))) (consO (.e (xc (.int 18))) nilA)) φPow)) (nilA))) φGe
def g__law_begun : SF := sseq (sasg (xlc [2] (ix (consA (xvar 0) nilA) kAny) (aset 2) (g__law_begun_t1) (g__law_begun_e0)) (aset 1)) (sret (xdic [(xc (.str "large"), xmv 1), (xc (.str "rest"), xc (.int 0)), (xc (.str "cells"), xfz (xlc [2] (ix (consA (xvar 0) nilA) kAny) (aset 2) (xc (.bl true)) (pop (consO (.pk 2) (nilA)) (φAbs)))), (xc (.str "turn"), xc (.int 0))]))
def D__law_begun : MF := defn 1 2 false g__law_begun
theorem b__law_begun (G : Gs P w K mg base)  : BodyRd P w K mg base T N__law_begun "_law_begun" (defScope s__law_begun) f 0 false (defBody s__law_begun) g__law_begun := fun cdv A outer s H E vs hr =>
  s_cons (s_setLc (own := [("grain", 2)]) bodyOk nd__law_begun rfl rfl (show 1 ∉ ([] : List Nat) by decide) rfl rfl rfl (i_any (x_var rfl vis)) (blkOk_by (by kernel_rfl)) (fun s H L cl fp => g_name nd__law_begun rfl loc (show 2 ∉ ([] : List Nat) by decide)) (fun s H L cl fp => pts_one (t_cmp (oa := .e (pop (consO (.pk 2) (nilA)) (φAbs))) (ob := .e (pop (consO (.e (xc (.int 10))) (consO (.e (xc (.int 18))) nilA)) φPow)) (op_ge) (ok_ge) (x_e (x_callB call_abs (ok_abs) rfl G.f_abs (by decide +kernel) (px_cons (x_pk rfl vis) (px_nil)))) (x_e (x_bin (oa := .e (xc (.int 10))) (ob := .e (xc (.int 18))) op_pow ok_pow (x_e (x_int)) (x_e (x_int)))) (nomark _))) (fun s H L cl fp => x_bin (oa := .e (pop (consO (.pk 2) (nilA)) (φAbs))) (ob := .e (pop (consO (.e (xc (.int 10))) (consO (.e (xc (.int 18))) nilA)) φPow)) op_sub ok_sub (x_e (x_callB call_abs (ok_abs) rfl G.f_abs (by decide +kernel) (px_cons (x_pk rfl vis) (px_nil)))) (x_e (x_bin (oa := .e (xc (.int 10))) (ob := .e (xc (.int 18))) op_pow ok_pow (x_e (x_int)) (x_e (x_int))))) (by decide) (by decide) (show ∀ i ∈ ([] : List Nat), i ∉ ([2] : List Nat) by decide)) (s_one (s_ret (x_dic (l := [(xc (.str "large"), xmv 1), (xc (.str "rest"), xc (.int 0)), (xc (.str "cells"), xfz (xlc [2] (ix (consA (xvar 0) nilA) kAny) (aset 2) (xc (.bl true)) (pop (consO (.pk 2) (nilA)) (φAbs)))), (xc (.str "turn"), xc (.int 0))]) (ru hr (by decide)) (pps_cons (x_str) (x_mv rfl vis) (pps_cons (x_str) (x_int) (pps_cons (x_str) (x_fz (x_lc (own := [("grain", 2)]) bodyOk nd__law_begun (i_any (x_var rfl vis)) (blkOk_by (by kernel_rfl)) (fun s H L cl fp => g_name nd__law_begun rfl loc (show 2 ∉ ([] : List Nat) by decide)) (fun s H L cl fp => t_ifs0) (fun s H L cl fp => x_callB call_abs (ok_abs) rfl G.f_abs (by decide +kernel) (px_cons (x_pk rfl vis) (px_nil))) (by decide) (by decide) (show ∀ i ∈ ([] : List Nat), i ∉ ([2] : List Nat) by decide))) (pps_cons (x_str) (x_int) (pps_nil))))))))
abbrev s__law_blend : Stmt := top 120
abbrev N__law_blend : List Str := ["tape", "great", "turn", "found", "blended", "grain"]
theorem nd__law_blend : N__law_blend.Nodup := by decide
def g__law_blend_b0 : SF := sasg (pop (consO (.e (pop (consO (.e (pop (consO (.pk 4) (consO (.e (xc (.int 48271))) nilA)) φMulB)) (consO (.e (pop (consO (.pk 5) (nilA)) (φInt))) nilA)) φAdd)) (consO (.pk 1) nilA)) φMod) (aset 4)
def g__law_blend_b1 : SF := sseq (sasg (pop (consO (.e (pop (consO (.e (pop (consO (.pk 2) (consO (.e (xc (.int 69621))) nilA)) φMulB)) (consO (.e (pop (consO (.pk 1) (consO (.e (xc (.int 7))) nilA)) φDiv)) nilA)) φAdd)) (consO (.pk 1) nilA)) φMod) (aset 4)) (sseq (sfor (ix (consA (xfz (pop (consO (.pk 0) (consO (.e (xc (.str "cells"))) nilA)) φIx)) nilA) kAny) (aset 5) (g__law_blend_b0)) (sasg (pop (consO (.e (pop (consO (.pk 3) (consO (.e (xc (.int 2147483647))) nilA)) φMulB)) (consO (.e (pop (consO (.e (pop (consO (.pk 4) (consO (.e (xc (.int 5))) nilA)) φPow)) (consO (.pk 1) nilA)) φMod)) nilA)) φAdd) (aset 3)))
def g__law_blend : SF := sseq (sasg (pop (consO (.e (pop (consO (.pk 0) (consO (.e (xc (.str "turn"))) nilA)) φIx)) (consO (.e (xc (.int 1))) nilA)) φAdd) (asub (pvar 0) (xc (.str "turn")))) (sseq (spar2 2 3 (consO (.e (pop (consO (.e (pop (consO (.pk 0) (consO (.e (xc (.str "turn"))) nilA)) φIx)) (nilA)) (φInt))) (consO (.e (xc (.int 0))) (nilA)))) (sseq (sfor (ix (consA (xfz (xlst (consO (.e (xc (.int 2147483629))) (consO (.e (xc (.int 2147483587))) (consO (.e (xc (.int 2147483579))) (nilA)))))) nilA) kAny) (aset 1) (g__law_blend_b1)) (sret (xvar 3))))
def D__law_blend : MF := defn 1 5 true g__law_blend
theorem b__law_blend (G : Gs P w K mg base)  : BodyRd P w K mg base T N__law_blend "_law_blend" (defScope s__law_blend) f 0 true (defBody s__law_blend) g__law_blend := fun cdv A outer s H E vs hr =>
  s_cons (s_asg (x_bin (oa := .e (pop (consO (.pk 0) (consO (.e (xc (.str "turn"))) nilA)) φIx)) (ob := .e (xc (.int 1))) op_addA ok_add (x_e (x_ix (oa := .pk 0) (ob := .e (xc (.str "turn"))) (ix_all (ru hr (by decide))) ok_ix (x_pk rfl vis) (x_e (x_str)) (by intro _ _; rfl))) (x_e (x_int))) (g_sub (m := true) (ru hr (by decide)) base_v (p_var rfl vis) (x_str))) (s_cons (s_par2 bodyOk nd__law_blend rfl rfl (by decide) (show 2 ∉ ([0] : List Nat) by decide) (show 3 ∉ ([0] : List Nat) by decide) rfl rfl (px_cons (o := .e _) (x_e (x_callT call_int1 (ok_int1) rfl G.f_int (by decide +kernel) (px_cons (x_e (x_ix (oa := .pk 0) (ob := .e (xc (.str "turn"))) (ix_all (ru hr (by decide))) ok_ix (x_pk rfl vis) (x_e (x_str)) (by intro _ _; rfl))) (px_nil)))) (px_cons (o := .e _) (x_e (x_int)) (px_nil))) rfl) (s_cons (s_for bodyPass rfl (i_any (x_fz (x_lst (px_cons (o := .e _) (x_e (x_int)) (px_cons (o := .e _) (x_e (x_int)) (px_cons (o := .e _) (x_e (x_int)) (px_nil))))))) (g_name nd__law_blend rfl loc (show 1 ∉ ([0] : List Nat) by decide)) (s_cons (s_asg (x_bin (oa := .e (pop (consO (.e (pop (consO (.pk 2) (consO (.e (xc (.int 69621))) nilA)) φMulB)) (consO (.e (pop (consO (.pk 1) (consO (.e (xc (.int 7))) nilA)) φDiv)) nilA)) φAdd)) (ob := .pk 1) op_mod ok_mod (x_e (x_bin (oa := .e (pop (consO (.pk 2) (consO (.e (xc (.int 69621))) nilA)) φMulB)) (ob := .e (pop (consO (.pk 1) (consO (.e (xc (.int 7))) nilA)) φDiv)) op_addA ok_add (x_e (x_bin (oa := .pk 2) (ob := .e (xc (.int 69621))) op_mulB ok_mulB (x_pk rfl vis) (x_e (x_int)))) (x_e (x_bin (oa := .pk 1) (ob := .e (xc (.int 7))) op_fdiv ok_div (x_pk rfl vis) (x_e (x_int)))))) (x_pk rfl vis)) (g_name nd__law_blend rfl loc (show 4 ∉ ([0] : List Nat) by decide))) (s_cons (s_for bodyPass rfl (i_any (x_fz (x_ix (oa := .pk 0) (ob := .e (xc (.str "cells"))) (ix_all (ru hr (by decide))) ok_ix (x_pk rfl vis) (x_e (x_str)) (by intro _ _; rfl)))) (g_name nd__law_blend rfl loc (show 5 ∉ ([0] : List Nat) by decide)) (s_one (s_asg (x_bin (oa := .e (pop (consO (.e (pop (consO (.pk 4) (consO (.e (xc (.int 48271))) nilA)) φMulB)) (consO (.e (pop (consO (.pk 5) (nilA)) (φInt))) nilA)) φAdd)) (ob := .pk 1) op_mod ok_mod (x_e (x_bin (oa := .e (pop (consO (.pk 4) (consO (.e (xc (.int 48271))) nilA)) φMulB)) (ob := .e (pop (consO (.pk 5) (nilA)) (φInt))) op_addA ok_add (x_e (x_bin (oa := .pk 4) (ob := .e (xc (.int 48271))) op_mulB ok_mulB (x_pk rfl vis) (x_e (x_int)))) (x_e (x_callT call_int1 (ok_int1) rfl G.f_int (by decide +kernel) (px_cons (x_pk rfl vis) (px_nil)))))) (x_pk rfl vis)) (g_name nd__law_blend rfl loc (show 4 ∉ ([0] : List Nat) by decide))))) (s_one (s_asg (x_bin (oa := .e (pop (consO (.pk 3) (consO (.e (xc (.int 2147483647))) nilA)) φMulB)) (ob := .e (pop (consO (.e (pop (consO (.pk 4) (consO (.e (xc (.int 5))) nilA)) φPow)) (consO (.pk 1) nilA)) φMod)) op_addA ok_add (x_e (x_bin (oa := .pk 3) (ob := .e (xc (.int 2147483647))) op_mulB ok_mulB (x_pk rfl vis) (x_e (x_int)))) (x_e (x_bin (oa := .e (pop (consO (.pk 4) (consO (.e (xc (.int 5))) nilA)) φPow)) (ob := .pk 1) op_mod ok_mod (x_e (x_bin (oa := .pk 4) (ob := .e (xc (.int 5))) op_pow ok_pow (x_pk rfl vis) (x_e (x_int)))) (x_pk rfl vis)))) (g_name nd__law_blend rfl loc (show 3 ∉ ([0] : List Nat) by decide))))))) (s_one (s_ret (x_var rfl vis)))))
abbrev s__law_draw : Stmt := top 121
abbrev N__law_draw : List Str := ["tape", "size", "found"]
theorem nd__law_draw : N__law_draw.Nodup := by decide
def g__law_draw_s0 : SF := sif (pop (consO (.e (pop (consO (.pk 0) (consO (.e (xc (.str "rest"))) nilA)) φIx)) (consO (.e (xc (.int 0))) (nilA))) φEqA) (sasg (xif (popB (psub (pvar 0) (xc (.str "large"))) (consO (.e (xlst (nilA))) nilA) φNeA) (xmut (ckP "list" (psub (pvar 0) (xc (.str "large")))) (consO (.e (xc (.int 0))) (nilA)) μPopAt) (xcallR D__law_blend 0 (nilA))) (asub (pvar 0) (xc (.str "rest")))) (snx)
def g__law_draw : SF := sseq (g__law_draw_s0) (sseq (sasg (pop (consO (.e (pop (consO (.e (pop (consO (.pk 0) (consO (.e (xc (.str "rest"))) nilA)) φIx)) (nilA)) (φInt))) (consO (.pk 1) nilA)) φMod) (aset 2)) (sseq (sasg (pop (consO (.e (pop (consO (.e (pop (consO (.pk 0) (consO (.e (xc (.str "rest"))) nilA)) φIx)) (nilA)) (φInt))) (consO (.pk 1) nilA)) φDiv) (asub (pvar 0) (xc (.str "rest")))) (sret (xvar 2))))
def D__law_draw : MF := defn 2 1 true g__law_draw
theorem b__law_draw (G : Gs P w K mg base) (h__law_blend : FnD P w K mg base T 1 "_law_blend" 1 true [] D__law_blend) : BodyRd P w K mg base T N__law_draw "_law_draw" (defScope s__law_draw) f 1 true (defBody s__law_draw) g__law_draw := fun cdv A outer s H E vs hr =>
  s_cons (s_if (t_cmp (oa := .e (pop (consO (.pk 0) (consO (.e (xc (.str "rest"))) nilA)) φIx)) (ob := .e (xc (.int 0))) (op_eqA (ru hr (by decide))) (ok_eqA) (x_e (x_ix (oa := .pk 0) (ob := .e (xc (.str "rest"))) (ix_all (ru hr (by decide))) ok_ix (x_pk rfl vis) (x_e (x_str)) (by intro _ _; rfl))) (x_e (x_int)) (nomark _)) (s_one (s_asg (x_ifx (t_up (t_cmpB (m := false) (ob := .e (xlst (nilA))) (op_neA (ru hr (by decide))) (ok_neA) base_f (p_sub (ru hr (by decide)) base_v (p_var rfl vis) (x_str) (by intro _ _; rfl)) (x_e (x_lst (px_nil))) (nomark _))) (x_mut1 (m := false) PySem.F.plainAttrs_list PySem.F.slot_list_pop PySem.F.type_list_pop mt_popAt ok_popAt base_f (p_sub (ru hr (by decide)) base_v (p_var rfl vis) (x_str) (by intro _ _; rfl)) (px_cons (o := .e _) (x_e (x_int)) (px_nil))) (x_callR bodyOk h__law_blend defn_len (hr.mono (by decide)) rfl rfl vis (px_nil))) (g_sub (m := true) (ru hr (by decide)) base_v (p_var rfl vis) (x_str)))) (s_nil)) (s_cons (s_asg (x_bin (oa := .e (pop (consO (.e (pop (consO (.pk 0) (consO (.e (xc (.str "rest"))) nilA)) φIx)) (nilA)) (φInt))) (ob := .pk 1) op_mod ok_mod (x_e (x_callT call_int1 (ok_int1) rfl G.f_int (by decide +kernel) (px_cons (x_e (x_ix (oa := .pk 0) (ob := .e (xc (.str "rest"))) (ix_all (ru hr (by decide))) ok_ix (x_pk rfl vis) (x_e (x_str)) (by intro _ _; rfl))) (px_nil)))) (x_pk rfl vis)) (g_name nd__law_draw rfl loc (show 2 ∉ ([0] : List Nat) by decide))) (s_cons (s_asg (x_bin (oa := .e (pop (consO (.e (pop (consO (.pk 0) (consO (.e (xc (.str "rest"))) nilA)) φIx)) (nilA)) (φInt))) (ob := .pk 1) op_fdiv ok_div (x_e (x_callT call_int1 (ok_int1) rfl G.f_int (by decide +kernel) (px_cons (x_e (x_ix (oa := .pk 0) (ob := .e (xc (.str "rest"))) (ix_all (ru hr (by decide))) ok_ix (x_pk rfl vis) (x_e (x_str)) (by intro _ _; rfl))) (px_nil)))) (x_pk rfl vis)) (g_sub (m := true) (ru hr (by decide)) base_v (p_var rfl vis) (x_str))) (s_one (s_ret (x_var rfl vis)))))
abbrev s__law_pick : Stmt := top 122
abbrev N__law_pick : List Str := ["tape", "several"]
theorem nd__law_pick : N__law_pick.Nodup := by decide
def g__law_pick : SF := sret (pop (consO (.pk 1) (consO (.e (xcallR D__law_draw 0 (consO (.e (pop (consO (.pk 1) (nilA)) (φLenA))) (nilA)))) nilA)) φIx)
def D__law_pick : MF := defn 2 0 true g__law_pick
theorem b__law_pick (G : Gs P w K mg base) (h__law_draw : FnD P w K mg base T 2 "_law_draw" 2 true [] D__law_draw) : BodyRd P w K mg base T N__law_pick "_law_pick" (defScope s__law_pick) f 2 true (defBody s__law_pick) g__law_pick := fun cdv A outer s H E vs hr =>
  s_one (s_ret (x_ix (oa := .pk 1) (ob := .e (xcallR D__law_draw 0 (consO (.e (pop (consO (.pk 1) (nilA)) (φLenA))) (nilA)))) (ix_all (ru hr (by decide))) ok_ix (x_pk rfl vis) (x_e (x_callR bodyOk h__law_draw defn_len (hr.mono (by decide)) rfl rfl vis (px_cons (o := .e _) (x_e (x_callB call_lenA (ok_lenA) rfl G.f_len (by decide +kernel) (px_cons (x_pk rfl vis) (px_nil)))) (px_nil)))) (by intro _ _; rfl)))
abbrev s_is_list : Stmt := top 20
abbrev N_is_list : List Str := ["thing"]
theorem nd_is_list : N_is_list.Nodup := by decide
def g_is_list : SF := sret (pop (consO (.pk 0) (consO (.e (xtup (consO (.e (xc (.ty "list"))) (consO (.e (xc (.ty "tuple"))) (nilA))))) (nilA))) (φIsI tb insL errL))
def D_is_list : MF := defn 1 0 false g_is_list
theorem b_is_list (G : Gs P w K mg base)  : BodyRd P w K mg base T N_is_list "is_list" (defScope s_is_list) f 0 false (defBody s_is_list) g_is_list := fun cdv A outer s H E vs hr =>
  s_one (s_ret (x_callB call_isA (ok_isI G.isT) rfl G.f_isinstance (by decide +kernel) (px_cons (x_pk rfl vis) (px_cons (x_e (x_tup (px_cons (o := .e _) (x_e (x_ty rfl G.f_list (by decide +kernel))) (px_cons (o := .e _) (x_e (x_ty rfl G.f_tuple (by decide +kernel))) (px_nil))))) (px_nil)))))
abbrev s_is_number : Stmt := top 18
abbrev N_is_number : List Str := ["thing"]
theorem nd_is_number : N_is_number.Nodup := by decide
def g_is_number : SF := sret (xand (pop (consO (.pk 0) (consO (.e (xc (.ty "int"))) (nilA))) (φIsI tb insL errL)) (xnot (pop (consO (.pk 0) (consO (.e (xc (.ty "bool"))) (nilA))) (φIsI tb insL errL))))
def D_is_number : MF := defn 1 0 false g_is_number
theorem b_is_number (G : Gs P w K mg base)  : BodyRd P w K mg base T N_is_number "is_number" (defScope s_is_number) f 0 false (defBody s_is_number) g_is_number := fun cdv A outer s H E vs hr =>
  s_one (s_ret (x_and (x_callB call_isA (ok_isI G.isT) rfl G.f_isinstance (by decide +kernel) (px_cons (x_pk rfl vis) (px_cons (x_e (x_ty rfl G.f_int (by decide +kernel))) (px_nil)))) (x_one (x_not (x_callB call_isA (ok_isI G.isT) rfl G.f_isinstance (by decide +kernel) (px_cons (x_pk rfl vis) (px_cons (x_e (x_ty rfl G.f_bool (by decide +kernel))) (px_nil))))))))
abbrev s_is_between : Stmt := top 19
abbrev N_is_between : List Str := ["thing", "low", "high"]
theorem nd_is_between : N_is_between.Nodup := by decide
def g_is_between : SF := sret (xand (xcall D_is_number [] (consO (.e (xvar 0)) (nilA))) (xchain (.pk 1) (.pk 0) (.pk 2) φLe φLe))
def D_is_between : MF := defn 3 0 false g_is_between
theorem b_is_between (G : Gs P w K mg base) (h_is_number : FnD P w K mg base T 1 "is_number" 1 false [] D_is_number) : BodyRd P w K mg base T N_is_between "is_between" (defScope s_is_between) f 1 false (defBody s_is_between) g_is_between := fun cdv A outer s H E vs hr =>
  s_one (s_ret (x_and (x_call bodyOk h_is_number defn_len (hr.mono (by decide)) rfl (px_cons (o := .e _) (x_e (x_var rfl vis)) (px_nil))) (x_one (x_chain (a := _) (oa := .pk 1) (ob := .pk 0) (oc := .pk 2) (op_le) (ok_le) (op_le) (ok_le) (x_pk rfl vis) (x_pk rfl vis) (x_pk rfl vis)))))
abbrev s_is_tuple_of : Stmt := top 22
abbrev N_is_tuple_of : List Str := ["thing", "many", "low", "high", "item"]
theorem nd_is_tuple_of : N_is_tuple_of.Nodup := by decide
def g_is_tuple_of_e0 : XF := xcall D_is_between [] (consO (.e (xvar 4)) (consO (.e (xvar 2)) (consO (.e (xvar 3)) (nilA))))
def g_is_tuple_of : SF := sret (xand (pop (consO (.pk 0) (consO (.e (xc (.ty "tuple"))) (nilA))) (φIsI tb insL errL)) (xand (pop (consO (.e (pop (consO (.pk 0) (nilA)) (φLenA))) (consO (.pk 1) (nilA))) φEqA) (pop (consO (.e (xlc [4] (ix (consA (xvar 0) nilA) kAny) (aset 4) (xc (.bl true)) (g_is_tuple_of_e0))) (nilA)) (φAll))))
def D_is_tuple_of : MF := defn 4 1 false g_is_tuple_of
theorem b_is_tuple_of (G : Gs P w K mg base) (h_is_between : FnD P w K mg base T 2 "is_between" 3 false [] D_is_between) : BodyRd P w K mg base T N_is_tuple_of "is_tuple_of" (defScope s_is_tuple_of) f 2 false (defBody s_is_tuple_of) g_is_tuple_of := fun cdv A outer s H E vs hr =>
  s_one (s_ret (x_and (x_callB call_isA (ok_isI G.isT) rfl G.f_isinstance (by decide +kernel) (px_cons (x_pk rfl vis) (px_cons (x_e (x_ty rfl G.f_tuple (by decide +kernel))) (px_nil)))) (x_and (x_cmp (oa := .e (pop (consO (.pk 0) (nilA)) (φLenA))) (ob := .pk 1) (op_eqA (ru hr (by decide))) (ok_eqA) (x_e (x_callB call_lenA (ok_lenA) rfl G.f_len (by decide +kernel) (px_cons (x_pk rfl vis) (px_nil)))) (x_pk rfl vis) (nomark _)) (x_one (x_callB (cr_all rfl) (ok_all) rfl G.f_all (by decide +kernel) (px_cons (x_e (x_lc (own := [("item", 4)]) bodyOk nd_is_tuple_of (i_any (x_var rfl vis)) (blkOk_by (by kernel_rfl)) (fun s H L cl fp => g_name nd_is_tuple_of rfl loc (show 4 ∉ ([] : List Nat) by decide)) (fun s H L cl fp => t_ifs0) (fun s H L cl fp => x_call (Ctx.blkOk bodyOk) h_is_between defn_len (hr.mono (by decide)) rfl (px_cons (o := .e _) (x_e (x_var rfl vis)) (px_cons (o := .e _) (x_e (x_var rfl vis)) (px_cons (o := .e _) (x_e (x_var rfl vis)) (px_nil))))) (by decide) (by decide) (show ∀ i ∈ ([] : List Nat), i ∉ ([4] : List Nat) by decide))) (px_nil)))))))
abbrev s_is_row : Stmt := top 29
abbrev N_is_row : List Str := ["places", "thing"]
theorem nd_is_row : N_is_row.Nodup := by decide
def g_is_row : SF := sret (xcall D_is_tuple_of [] (consO (.e (xvar 1)) (consO (.e (xvar 0)) (consO (.e (xc (.int 0))) (consO (.e (xc (.int 1))) (nilA))))))
def D_is_row : MF := defn 2 0 false g_is_row
theorem b_is_row (G : Gs P w K mg base) (h_is_tuple_of : FnD P w K mg base T 3 "is_tuple_of" 4 false [] D_is_tuple_of) : BodyRd P w K mg base T N_is_row "is_row" (defScope s_is_row) f 3 false (defBody s_is_row) g_is_row := fun cdv A outer s H E vs hr =>
  s_one (s_ret (x_call bodyOk h_is_tuple_of defn_len (hr.mono (by decide)) rfl (px_cons (o := .e _) (x_e (x_var rfl vis)) (px_cons (o := .e _) (x_e (x_var rfl vis)) (px_cons (o := .e _) (x_e (x_int)) (px_cons (o := .e _) (x_e (x_int)) (px_nil)))))))
abbrev s_need_rows : Stmt := top 30
abbrev N_need_rows : List Str := ["places", "rows", "known", "index", "row"]
theorem nd_need_rows : N_need_rows.Nodup := by decide
def g_need_rows_b0 : SF := sseq (sif (xor (xnot (xcall D_is_row [] (consO (.e (xvar 0)) (consO (.e (xvar 4)) (nilA))))) (pop (consO (.pk 4) (consO (.pk 2) (nilA))) φInA)) (sraiseO "BadRows" "index" (consO (.e (xvar 3)) (nilA))) (snx)) (sasg (xc (.bl true)) (asub (pvar 2) (xvar 4)))
def g_need_rows : SF := sseq (sif (xnot (xcall D_is_list [] (consO (.e (xvar 1)) (nilA)))) (sraiseO "BadRows" "index" (consO (.e (xc .non)) (nilA))) (snx)) (sseq (sasg (xdic []) (aset 2)) (sfor (ix (consO (.e (xvar 1)) (nilA)) kEnum) (atup [aset 3, aset 4]) (g_need_rows_b0)))
def D_need_rows : MF := defn 2 3 false g_need_rows
theorem b_need_rows (G : Gs P w K mg base) (h_is_list : FnD P w K mg base T 1 "is_list" 1 false [] D_is_list) (h_is_row : FnD P w K mg base T 4 "is_row" 2 false [] D_is_row) : BodyRd P w K mg base T N_need_rows "need_rows" (defScope s_need_rows) f 4 false (defBody s_need_rows) g_need_rows := fun cdv A outer s H E vs hr =>
  s_cons (s_if (t_not (t_val (x_call bodyOk h_is_list defn_len (hr.mono (by decide)) rfl (px_cons (o := .e _) (x_e (x_var rfl vis)) (px_nil))))) (s_one (s_raiseX (k := 0) bodyOk G.e_BadRows (hr.mono (by decide)) rfl (px_cons (o := .e _) (x_e (x_non)) (px_nil)))) (s_nil)) (s_cons (s_asg (x_dic0) (g_name nd_need_rows rfl loc (show 2 ∉ ([] : List Nat) by decide))) (s_one (s_for bodyPass rfl (i_enum rfl G.f_enumerate (px_cons (o := .e _) (x_e (x_var rfl vis)) (px_nil))) (g_tup rfl (gs_cons (g_name nd_need_rows rfl loc (show 3 ∉ ([] : List Nat) by decide)) (gs_cons (g_name nd_need_rows rfl loc (show 4 ∉ ([] : List Nat) by decide)) (gs_nil)))) (s_cons (s_if (PW.pt (t_or (t_not (t_val (x_call bodyOk h_is_row defn_len (hr.mono (by decide)) rfl (px_cons (o := .e _) (x_e (x_var rfl vis)) (px_cons (o := .e _) (x_e (x_var rfl vis)) (px_nil)))))) (t_one_or (t_cmp (oa := .pk 4) (ob := .pk 2) (op_inA (ru hr (by decide))) (ok_inA) (x_pk rfl vis) (x_pk rfl vis) (by with_unfolding_all rfl))))) (s_one (s_raiseX (k := 0) bodyOk G.e_BadRows (hr.mono (by decide)) rfl (px_cons (o := .e _) (x_e (x_var rfl vis)) (px_nil)))) (s_nil)) (s_one (s_asg (x_bl) (g_sub (m := true) (ru hr (by decide)) base_v (p_var rfl vis) (x_var rfl vis))))))))
abbrev s_Lot___init__ : Stmt := (clsBody (top 31)).getD 0 (.Pass ⟨0, 0, 0, 0⟩)
abbrev N_Lot___init__ : List Str := ["self", "places", "rows", "row"]
theorem nd_Lot___init__ : N_Lot___init__.Nodup := by decide
def g_Lot___init__ : SF := sseq (sif (xnot (xcall D_is_between [] (consO (.e (xvar 1)) (consO (.e (xc (.int 1))) (consO (.e (xc (.int 6))) (nilA)))))) (sraise "BadPlaces") (snx)) (sseq (sexpr (xcall D_need_rows [] (consO (.e (xvar 1)) (consO (.e (xvar 2)) (nilA))))) (sseq (sfld ["Lot"] "own_places" (xvar 1) (pvar 0)) (sseq (sfld ["Lot"] "own_rows" (pop (consO (.e (pop (consO (.pk 2) (nilA)) (φSorted))) (nilA)) (φTuple)) (pvar 0)) (sfld ["Lot"] "own_known" (xdc [3] (ix (consA (pop (consO (.pk 0) nilA) (φFld ["Lot"] "own_rows")) nilA) kAny) (aset 3) (xc (.bl true)) (xvar 3) (xc (.bl true))) (pvar 0)))))
def D_Lot___init__ : MF := defn 3 1 true g_Lot___init__
theorem b_Lot___init__ (G : Gs P w K mg base) (h_is_between : FnD P w K mg base T 2 "is_between" 3 false [] D_is_between) (h_need_rows : FnD P w K mg base T 5 "need_rows" 2 false [] D_need_rows) : BodyRd P w K mg base T N_Lot___init__ "Lot.__init__" (defScope s_Lot___init__) f 5 true (defBody s_Lot___init__) g_Lot___init__ := fun cdv A outer s H E vs hr =>
  s_cons (s_if (t_not (t_val (x_call bodyOk h_is_between defn_len (hr.mono (by decide)) rfl (px_cons (o := .e _) (x_e (x_var rfl vis)) (px_cons (o := .e _) (x_e (x_int)) (px_cons (o := .e _) (x_e (x_gint rfl G.i_MOST_PLACES)) (px_nil))))))) (s_one (s_raiseP bodyOk G.e_BadPlaces rfl)) (s_nil)) (s_cons (s_expr (x_call bodyOk h_need_rows defn_len (hr.mono (by decide)) rfl (px_cons (o := .e _) (x_e (x_var rfl vis)) (px_cons (o := .e _) (x_e (x_var rfl vis)) (px_nil))))) (s_cons (s_fld G.fl_Lot_own_places (x_var rfl vis) (p_var rfl vis)) (s_cons (s_fld G.fl_Lot_own_rows (x_callT call_tuple_of (ok_tuple) rfl G.f_tuple (by decide +kernel) (px_cons (x_e (x_callB (call_sortD (ru hr (by decide))) (ok_sorted) rfl G.f_sorted (by decide +kernel) (px_cons (x_pk rfl vis) (px_nil)))) (px_nil))) (p_var rfl vis)) (s_one (s_fld G.fl_Lot_own_known (x_dc (own := [("row", 3)]) (ru hr (by decide)) bodyOk nd_Lot___init__ (i_any (x_fld (o := .pk 0) G.fl_Lot_own_rows (x_pk rfl vis))) (blkOk_by (by kernel_rfl)) (fun s H L cl fp => g_name nd_Lot___init__ rfl loc (show 3 ∉ ([0] : List Nat) by decide)) (fun s H L cl fp => t_ifs0) (fun s H L cl fp => x_var rfl vis) (fun s H L cl fp => x_bl) (by decide) (by decide) (show ∀ i ∈ ([0] : List Nat), i ∉ ([3] : List Nat) by decide)) (p_var rfl vis))))))
abbrev s__law_named : Stmt := top 124
abbrev N__law_named : List Str := ["caught"]
theorem nd__law_named : N__law_named.Nodup := by decide
def g__law_named : SF := sseq (sif (pop (consO (.pk 0) (consO (.e (xc (.glob "NoLot"))) (nilA))) (φIsI tb insL errL)) (sret (xc (.str "lot"))) (snx)) (sseq (sif (pop (consO (.pk 0) (consO (.e (xc (.glob "NoRows"))) (nilA))) (φIsI tb insL errL)) (sret (xc (.str "rows"))) (snx)) (sseq (sif (pop (consO (.pk 0) (consO (.e (xc (.glob "BadGuesser"))) (nilA))) (φIsI tb insL errL)) (sret (xc (.str "guesser"))) (snx)) (sseq (sif (pop (consO (.pk 0) (consO (.e (xc (.glob "BadBounds"))) (nilA))) (φIsI tb insL errL)) (sret (xc (.str "bounds"))) (snx)) (sseq (sif (pop (consO (.pk 0) (consO (.e (xc (.glob "BadShare"))) (nilA))) (φIsI tb insL errL)) (sret (xc (.str "share"))) (snx)) (sseq (sif (pop (consO (.pk 0) (consO (.e (xc (.glob "BadNumber"))) (nilA))) (φIsI tb insL errL)) (sret (xc (.str "number"))) (snx)) (sseq (sif (pop (consO (.pk 0) (consO (.e (xc (.glob "BadSentence"))) (nilA))) (φIsI tb insL errL)) (sret (xc (.str "sentence"))) (snx)) (sseq (sif (pop (consO (.pk 0) (consO (.e (xc (.glob "BadRow"))) (nilA))) (φIsI tb insL errL)) (sret (xc (.str "row"))) (snx)) (sseq (sif (pop (consO (.pk 0) (consO (.e (xc (.glob "BadPlaces"))) (nilA))) (φIsI tb insL errL)) (sret (xc (.str "places"))) (snx)) (sret (xif (pop (consO (.pk 0) (consO (.e (xc (.glob "NoSchool"))) (nilA))) (φIsI tb insL errL)) (xc (.str "school")) (xc .non)))))))))))
def D__law_named : MF := defn 1 0 false g__law_named
theorem b__law_named (G : Gs P w K mg base)  : BodyRd P w K mg base T N__law_named "_law_named" (defScope s__law_named) f 0 false (defBody s__law_named) g__law_named := fun cdv A outer s H E vs hr =>
  s_cons (s_if (t_val (x_callB call_isA (ok_isI G.isT) rfl G.f_isinstance (by decide +kernel) (px_cons (x_pk rfl vis) (px_cons (x_e (x_glob rfl G.c_NoLot)) (px_nil))))) (s_one (s_ret (x_str))) (s_nil)) (s_cons (s_if (t_val (x_callB call_isA (ok_isI G.isT) rfl G.f_isinstance (by decide +kernel) (px_cons (x_pk rfl vis) (px_cons (x_e (x_glob rfl G.c_NoRows)) (px_nil))))) (s_one (s_ret (x_str))) (s_nil)) (s_cons (s_if (t_val (x_callB call_isA (ok_isI G.isT) rfl G.f_isinstance (by decide +kernel) (px_cons (x_pk rfl vis) (px_cons (x_e (x_glob rfl G.c_BadGuesser)) (px_nil))))) (s_one (s_ret (x_str))) (s_nil)) (s_cons (s_if (t_val (x_callB call_isA (ok_isI G.isT) rfl G.f_isinstance (by decide +kernel) (px_cons (x_pk rfl vis) (px_cons (x_e (x_glob rfl G.c_BadBounds)) (px_nil))))) (s_one (s_ret (x_str))) (s_nil)) (s_cons (s_if (t_val (x_callB call_isA (ok_isI G.isT) rfl G.f_isinstance (by decide +kernel) (px_cons (x_pk rfl vis) (px_cons (x_e (x_glob rfl G.c_BadShare)) (px_nil))))) (s_one (s_ret (x_str))) (s_nil)) (s_cons (s_if (t_val (x_callB call_isA (ok_isI G.isT) rfl G.f_isinstance (by decide +kernel) (px_cons (x_pk rfl vis) (px_cons (x_e (x_glob rfl G.c_BadNumber)) (px_nil))))) (s_one (s_ret (x_str))) (s_nil)) (s_cons (s_if (t_val (x_callB call_isA (ok_isI G.isT) rfl G.f_isinstance (by decide +kernel) (px_cons (x_pk rfl vis) (px_cons (x_e (x_glob rfl G.c_BadSentence)) (px_nil))))) (s_one (s_ret (x_str))) (s_nil)) (s_cons (s_if (t_val (x_callB call_isA (ok_isI G.isT) rfl G.f_isinstance (by decide +kernel) (px_cons (x_pk rfl vis) (px_cons (x_e (x_glob rfl G.c_BadRow)) (px_nil))))) (s_one (s_ret (x_str))) (s_nil)) (s_cons (s_if (t_val (x_callB call_isA (ok_isI G.isT) rfl G.f_isinstance (by decide +kernel) (px_cons (x_pk rfl vis) (px_cons (x_e (x_glob rfl G.c_BadPlaces)) (px_nil))))) (s_one (s_ret (x_str))) (s_nil)) (s_one (s_ret (x_ifx (t_val (x_callB call_isA (ok_isI G.isT) rfl G.f_isinstance (by decide +kernel) (px_cons (x_pk rfl vis) (px_cons (x_e (x_glob rfl G.c_NoSchool)) (px_nil))))) (x_str) (x_non))))))))))))
abbrev s_need_lot : Stmt := top 32
abbrev N_need_lot : List Str := ["lot", "part"]
theorem nd_need_lot : N_need_lot.Nodup := by decide
def g_need_lot : SF := sif (xnot (pop (consO (.pk 0) (consO (.e (xc (.glob "Lot"))) (nilA))) (φIsI tb insL errL))) (sraiseO "NoLot" "part" (consO (.e (xvar 1)) (nilA))) (snx)
def D_need_lot : MF := defn 2 0 false g_need_lot
theorem b_need_lot (G : Gs P w K mg base)  : BodyRd P w K mg base T N_need_lot "need_lot" (defScope s_need_lot) f 2 false (defBody s_need_lot) g_need_lot := fun cdv A outer s H E vs hr =>
  s_one (s_if (t_not (t_val (x_callB call_isA (ok_isI G.isT) rfl G.f_isinstance (by decide +kernel) (px_cons (x_pk rfl vis) (px_cons (x_e (x_glob rfl G.c_Lot)) (px_nil)))))) (s_one (s_raiseX (k := 0) bodyOk G.e_NoLot (hr.mono (by decide)) rfl (px_cons (o := .e _) (x_e (x_var rfl vis)) (px_nil)))) (s_nil))
-- dead in sentence_right if thing[0] not in PARTS or len(thing) != 1 + PARTS[thing[0]]:     ret :: Todo('name PARTS')
abbrev s_sentence_right : Stmt := top 106
abbrev N_sentence_right : List Str := ["places", "thing", "depth", "part"]
theorem nd_sentence_right : N_sentence_right.Nodup := by decide
def g_sentence_right_s0 : SF := sif (xor (xnot (pop (consO (.pk 1) (consO (.e (xc (.ty "tuple"))) (nilA))) (φIsI tb insL errL))) (xor (pop (consO (.pk 1) (consO (.e (xtup (nilA))) (nilA))) φEqA) (xor (xnot (pop (consO (.e (pop (consO (.pk 1) (consO (.e (xc (.int 0))) nilA)) φIx)) (consO (.e (xc (.ty "str"))) (nilA))) (φIsI tb insL errL))) (pop (consO (.pk 2) (consO (.e (xc (.int 0))) (nilA))) φEqA)))) (sret (xc (.bl false))) (snx)
def g_sentence_right_s1 : SF := sif (pop (consO (.e (pop (consO (.pk 1) (consO (.e (xc (.int 0))) nilA)) φIx)) (consO (.e (xc (.str "is"))) (nilA))) φEqA) (sret (xand (pop (consO (.e (pop (consO (.pk 1) (nilA)) (φLenA))) (consO (.e (xc (.int 3))) (nilA))) φEqA) (xand (xcall D_is_between [] (consO (.e (pop (consO (.pk 1) (consO (.e (xc (.int 1))) nilA)) φIx)) (consO (.e (xc (.int 0))) (consO (.e (pop (consO (.pk 0) (consO (.e (xc (.int 1))) nilA)) φSub)) (nilA))))) (xcall D_is_between [] (consO (.e (pop (consO (.pk 1) (consO (.e (xc (.int 2))) nilA)) φIx)) (consO (.e (xc (.int 0))) (consO (.e (xc (.int 1))) (nilA)))))))) (snx)
def g_sentence_right : SF := sseq (g_sentence_right_s0) (sseq (g_sentence_right_s1) (sdead))
def D_sentence_right : MF := defn 3 1 false g_sentence_right
theorem b_sentence_right (G : Gs P w K mg base) (h_is_between : FnD P w K mg base T 2 "is_between" 3 false [] D_is_between) : BodyRd P w K mg base T N_sentence_right "sentence_right" (defScope s_sentence_right) f 2 false (defBody s_sentence_right) g_sentence_right := fun cdv A outer s H E vs hr =>
  s_cons (s_if (PW.pt (t_or (t_not (t_val (x_callB call_isA (ok_isI G.isT) rfl G.f_isinstance (by decide +kernel) (px_cons (x_pk rfl vis) (px_cons (x_e (x_ty rfl G.f_tuple (by decide +kernel))) (px_nil)))))) (t_or (t_cmp (oa := .pk 1) (ob := .e (xtup (nilA))) (op_eqA (ru hr (by decide))) (ok_eqA) (x_pk rfl vis) (x_e (x_tup (px_nil))) (nomark _)) (t_or (t_not (t_val (x_callB call_isA (ok_isI G.isT) rfl G.f_isinstance (by decide +kernel) (px_cons (x_e (x_ix (oa := .pk 1) (ob := .e (xc (.int 0))) (ix_all (ru hr (by decide))) ok_ix (x_pk rfl vis) (x_e (x_int)) (by intro _ _; rfl))) (px_cons (x_e (x_ty rfl G.f_str (by decide +kernel))) (px_nil)))))) (t_one_or (t_cmp (oa := .pk 2) (ob := .e (xc (.int 0))) (op_eqA (ru hr (by decide))) (ok_eqA) (x_pk rfl vis) (x_e (x_int)) (nomark _))))))) (s_one (s_ret (x_bl))) (s_nil)) (s_cons (s_if (t_cmp (oa := .e (pop (consO (.pk 1) (consO (.e (xc (.int 0))) nilA)) φIx)) (ob := .e (xc (.str "is"))) (op_eqA (ru hr (by decide))) (ok_eqA) (x_e (x_ix (oa := .pk 1) (ob := .e (xc (.int 0))) (ix_all (ru hr (by decide))) ok_ix (x_pk rfl vis) (x_e (x_int)) (by intro _ _; rfl))) (x_e (x_str)) (nomark _)) (s_one (s_ret (x_and (x_cmp (oa := .e (pop (consO (.pk 1) (nilA)) (φLenA))) (ob := .e (xc (.int 3))) (op_eqA (ru hr (by decide))) (ok_eqA) (x_e (x_callB call_lenA (ok_lenA) rfl G.f_len (by decide +kernel) (px_cons (x_pk rfl vis) (px_nil)))) (x_e (x_int)) (nomark _)) (x_and (x_call bodyOk h_is_between defn_len (hr.mono (by decide)) rfl (px_cons (o := .e _) (x_e (x_ix (oa := .pk 1) (ob := .e (xc (.int 1))) (ix_all (ru hr (by decide))) ok_ix (x_pk rfl vis) (x_e (x_int)) (by intro _ _; rfl))) (px_cons (o := .e _) (x_e (x_int)) (px_cons (o := .e _) (x_e (x_bin (oa := .pk 0) (ob := .e (xc (.int 1))) op_sub ok_sub (x_pk rfl vis) (x_e (x_int)))) (px_nil))))) (x_one (x_call bodyOk h_is_between defn_len (hr.mono (by decide)) rfl (px_cons (o := .e _) (x_e (x_ix (oa := .pk 1) (ob := .e (xc (.int 2))) (ix_all (ru hr (by decide))) ok_ix (x_pk rfl vis) (x_e (x_int)) (by intro _ _; rfl))) (px_cons (o := .e _) (x_e (x_int)) (px_cons (o := .e _) (x_e (x_int)) (px_nil)))))))))) (s_nil)) (s_dead))
abbrev s_need_sentence : Stmt := top 107
abbrev N_need_sentence : List Str := ["places", "sentence"]
theorem nd_need_sentence : N_need_sentence.Nodup := by decide
def g_need_sentence : SF := sif (xnot (xcall D_sentence_right [] (consO (.e (xvar 0)) (consO (.e (xvar 1)) (consO (.e (xc (.int 8))) (nilA)))))) (sraise "BadSentence") (snx)
def D_need_sentence : MF := defn 2 0 false g_need_sentence
theorem b_need_sentence (G : Gs P w K mg base) (h_sentence_right : FnD P w K mg base T 3 "sentence_right" 3 false [] D_sentence_right) : BodyRd P w K mg base T N_need_sentence "need_sentence" (defScope s_need_sentence) f 3 false (defBody s_need_sentence) g_need_sentence := fun cdv A outer s H E vs hr =>
  s_one (s_if (t_not (t_val (x_call bodyOk h_sentence_right defn_len (hr.mono (by decide)) rfl (px_cons (o := .e _) (x_e (x_var rfl vis)) (px_cons (o := .e _) (x_e (x_var rfl vis)) (px_cons (o := .e _) (x_e (x_gint rfl G.i_MOST_DEEP)) (px_nil))))))) (s_one (s_raiseP bodyOk G.e_BadSentence rfl)) (s_nil))
abbrev s_Lot_places : Stmt := (clsBody (top 31)).getD 1 (.Pass ⟨0, 0, 0, 0⟩)
abbrev N_Lot_places : List Str := ["self"]
theorem nd_Lot_places : N_Lot_places.Nodup := by decide
def g_Lot_places : SF := sret (pop (consO (.pk 0) nilA) (φFld ["Lot"] "own_places"))
def D_Lot_places : MF := defn 1 0 false g_Lot_places
theorem b_Lot_places (G : Gs P w K mg base)  : BodyRd P w K mg base T N_Lot_places "Lot.places" (defScope s_Lot_places) f 0 false (defBody s_Lot_places) g_Lot_places := fun cdv A outer s H E vs hr =>
  s_one (s_ret (x_fld (o := .pk 0) G.fl_Lot_own_places (x_pk rfl vis)))
-- dead in always_paper cut
abbrev s_always_paper : Stmt := top 112
abbrev N_always_paper : List Str := ["lot", "sentence", "row"]
theorem nd_always_paper : N_always_paper.Nodup := by decide
def g_always_paper : SF := sseq (sexpr (xcall D_need_lot [.non] (consO (.e (xvar 0)) (nilA)))) (sseq (sexpr (xcall D_need_sentence [] (consO (.e (xprop "Lot" D_Lot_places (xvar 0))) (consO (.e (xvar 1)) (nilA))))) (sdead))
def D_always_paper : MF := defn 2 1 false g_always_paper
theorem b_always_paper (G : Gs P w K mg base) (h_need_lot : FnD P w K mg base T 3 "need_lot" 2 false [.non] D_need_lot) (h_need_sentence : FnD P w K mg base T 4 "need_sentence" 2 false [] D_need_sentence) (h_Lot_places : PropD P w K mg base T 1 "Lot" "places" D_Lot_places) : BodyRd P w K mg base T N_always_paper "always_paper" (defScope s_always_paper) f 4 false (defBody s_always_paper) g_always_paper := fun cdv A outer s H E vs hr =>
  s_cons (s_expr (x_call bodyOk h_need_lot defn_len (hr.mono (by decide)) rfl (px_cons (o := .e _) (x_e (x_var rfl vis)) (px_nil)))) (s_cons (s_expr (x_call bodyOk h_need_sentence defn_len (hr.mono (by decide)) rfl (px_cons (o := .e _) (x_e (x_propD h_Lot_places defn_len (hr.mono (by decide)) (x_var rfl vis))) (px_cons (o := .e _) (x_e (x_var rfl vis)) (px_nil))))) (s_dead))
abbrev s_need_place_count : Stmt := top 110
abbrev N_need_place_count : List Str := ["places"]
theorem nd_need_place_count : N_need_place_count.Nodup := by decide
def g_need_place_count : SF := sif (xnot (xcall D_is_between [] (consO (.e (xvar 0)) (consO (.e (xc (.int 1))) (consO (.e (xc (.int 6))) (nilA)))))) (sraise "BadPlaces") (snx)
def D_need_place_count : MF := defn 1 0 false g_need_place_count
theorem b_need_place_count (G : Gs P w K mg base) (h_is_between : FnD P w K mg base T 2 "is_between" 3 false [] D_is_between) : BodyRd P w K mg base T N_need_place_count "need_place_count" (defScope s_need_place_count) f 2 false (defBody s_need_place_count) g_need_place_count := fun cdv A outer s H E vs hr =>
  s_one (s_if (t_not (t_val (x_call bodyOk h_is_between defn_len (hr.mono (by decide)) rfl (px_cons (o := .e _) (x_e (x_var rfl vis)) (px_cons (o := .e _) (x_e (x_int)) (px_cons (o := .e _) (x_e (x_gint rfl G.i_MOST_PLACES)) (px_nil))))))) (s_one (s_raiseP bodyOk G.e_BadPlaces rfl)) (s_nil))
-- dead in lot_of_sentence cut
abbrev s_lot_of_sentence : Stmt := top 111
abbrev N_lot_of_sentence : List Str := ["places", "sentence", "row"]
theorem nd_lot_of_sentence : N_lot_of_sentence.Nodup := by decide
def g_lot_of_sentence : SF := sseq (sexpr (xcall D_need_place_count [] (consO (.e (xvar 0)) (nilA)))) (sseq (sexpr (xcall D_need_sentence [] (consO (.e (xvar 0)) (consO (.e (xvar 1)) (nilA))))) (sdead))
def D_lot_of_sentence : MF := defn 2 1 false g_lot_of_sentence
theorem b_lot_of_sentence (G : Gs P w K mg base) (h_need_place_count : FnD P w K mg base T 3 "need_place_count" 1 false [] D_need_place_count) (h_need_sentence : FnD P w K mg base T 4 "need_sentence" 2 false [] D_need_sentence) : BodyRd P w K mg base T N_lot_of_sentence "lot_of_sentence" (defScope s_lot_of_sentence) f 4 false (defBody s_lot_of_sentence) g_lot_of_sentence := fun cdv A outer s H E vs hr =>
  s_cons (s_expr (x_call bodyOk h_need_place_count defn_len (hr.mono (by decide)) rfl (px_cons (o := .e _) (x_e (x_var rfl vis)) (px_nil)))) (s_cons (s_expr (x_call bodyOk h_need_sentence defn_len (hr.mono (by decide)) rfl (px_cons (o := .e _) (x_e (x_var rfl vis)) (px_cons (o := .e _) (x_e (x_var rfl vis)) (px_nil))))) (s_dead))
-- dead in sentence_text cut
abbrev s_sentence_text : Stmt := top 117
abbrev N_sentence_text : List Str := ["places", "sentence"]
theorem nd_sentence_text : N_sentence_text.Nodup := by decide
def g_sentence_text : SF := sseq (sexpr (xcall D_need_place_count [] (consO (.e (xvar 0)) (nilA)))) (sseq (sexpr (xcall D_need_sentence [] (consO (.e (xvar 0)) (consO (.e (xvar 1)) (nilA))))) (sdead))
def D_sentence_text : MF := defn 2 0 false g_sentence_text
theorem b_sentence_text (G : Gs P w K mg base) (h_need_place_count : FnD P w K mg base T 3 "need_place_count" 1 false [] D_need_place_count) (h_need_sentence : FnD P w K mg base T 4 "need_sentence" 2 false [] D_need_sentence) : BodyRd P w K mg base T N_sentence_text "sentence_text" (defScope s_sentence_text) f 4 false (defBody s_sentence_text) g_sentence_text := fun cdv A outer s H E vs hr =>
  s_cons (s_expr (x_call bodyOk h_need_place_count defn_len (hr.mono (by decide)) rfl (px_cons (o := .e _) (x_e (x_var rfl vis)) (px_nil)))) (s_cons (s_expr (x_call bodyOk h_need_sentence defn_len (hr.mono (by decide)) rfl (px_cons (o := .e _) (x_e (x_var rfl vis)) (px_cons (o := .e _) (x_e (x_var rfl vis)) (px_nil))))) (s_dead))
-- dead in is_guesser cut
abbrev s_is_guesser : Stmt := top 42
abbrev N_is_guesser : List Str := ["lot", "thing"]
theorem nd_is_guesser : N_is_guesser.Nodup := by decide
def g_is_guesser : SF := sseq (sexpr (xcall D_need_lot [.non] (consO (.e (xvar 0)) (nilA)))) (sdead)
def D_is_guesser : MF := defn 2 0 false g_is_guesser
theorem b_is_guesser (G : Gs P w K mg base) (h_need_lot : FnD P w K mg base T 3 "need_lot" 2 false [.non] D_need_lot) : BodyRd P w K mg base T N_is_guesser "is_guesser" (defScope s_is_guesser) f 3 false (defBody s_is_guesser) g_is_guesser := fun cdv A outer s H E vs hr =>
  s_cons (s_expr (x_call bodyOk h_need_lot defn_len (hr.mono (by decide)) rfl (px_cons (o := .e _) (x_e (x_var rfl vis)) (px_nil)))) (s_dead)
abbrev s_is_edge : Stmt := top 43
abbrev N_is_edge : List Str := ["thing", "answer"]
theorem nd_is_edge : N_is_edge.Nodup := by decide
def g_is_edge_e0 : XF := xor (pop (consO (.pk 1) (consO (.e (xc .non)) (nilA))) φIs) (xcall D_is_number [] (consO (.e (xvar 1)) (nilA)))
def g_is_edge_s1 : SF := sif (xor (xnot (pop (consO (.pk 0) (consO (.e (xc (.ty "tuple"))) (nilA))) (φIsI tb insL errL))) (xor (pop (consO (.e (pop (consO (.pk 0) (nilA)) (φLenA))) (consO (.e (xc (.int 2))) (nilA))) φNeA) (xor (xnot (pop (consO (.e (pop (consO (.pk 0) (consO (.e (xc (.int 0))) nilA)) φIx)) (consO (.e (xc (.ty "tuple"))) (nilA))) (φIsI tb insL errL))) (xnot (xcall D_is_number [] (consO (.e (pop (consO (.pk 0) (consO (.e (xc (.int 1))) nilA)) φIx)) (nilA))))))) (sret (xc (.bl false))) (snx)
def g_is_edge : SF := sseq (g_is_edge_s1) (sret (pop (consO (.e (xlc [1] (ix (consA (xfz (pop (consO (.pk 0) (consO (.e (xc (.int 0))) nilA)) φIx)) nilA) kAny) (aset 1) (xc (.bl true)) (g_is_edge_e0))) (nilA)) (φAll)))
def D_is_edge : MF := defn 1 1 false g_is_edge
theorem b_is_edge (G : Gs P w K mg base) (h_is_number : FnD P w K mg base T 1 "is_number" 1 false [] D_is_number) : BodyRd P w K mg base T N_is_edge "is_edge" (defScope s_is_edge) f 1 false (defBody s_is_edge) g_is_edge := fun cdv A outer s H E vs hr =>
  s_cons (s_if (PW.pt (t_or (t_not (t_val (x_callB call_isA (ok_isI G.isT) rfl G.f_isinstance (by decide +kernel) (px_cons (x_pk rfl vis) (px_cons (x_e (x_ty rfl G.f_tuple (by decide +kernel))) (px_nil)))))) (t_or (t_cmp (oa := .e (pop (consO (.pk 0) (nilA)) (φLenA))) (ob := .e (xc (.int 2))) (op_neA (ru hr (by decide))) (ok_neA) (x_e (x_callB call_lenA (ok_lenA) rfl G.f_len (by decide +kernel) (px_cons (x_pk rfl vis) (px_nil)))) (x_e (x_int)) (nomark _)) (t_or (t_not (t_val (x_callB call_isA (ok_isI G.isT) rfl G.f_isinstance (by decide +kernel) (px_cons (x_e (x_ix (oa := .pk 0) (ob := .e (xc (.int 0))) (ix_all (ru hr (by decide))) ok_ix (x_pk rfl vis) (x_e (x_int)) (by intro _ _; rfl))) (px_cons (x_e (x_ty rfl G.f_tuple (by decide +kernel))) (px_nil)))))) (t_one_or (t_not (t_val (x_call bodyOk h_is_number defn_len (hr.mono (by decide)) rfl (px_cons (o := .e _) (x_e (x_ix (oa := .pk 0) (ob := .e (xc (.int 1))) (ix_all (ru hr (by decide))) ok_ix (x_pk rfl vis) (x_e (x_int)) (by intro _ _; rfl))) (px_nil)))))))))) (s_one (s_ret (x_bl))) (s_nil)) (s_one (s_ret (x_callB (cr_all rfl) (ok_all) rfl G.f_all (by decide +kernel) (px_cons (x_e (x_lc (own := [("answer", 1)]) bodyOk nd_is_edge (i_any (x_fz (x_ix (oa := .pk 0) (ob := .e (xc (.int 0))) (ix_all (ru hr (by decide))) ok_ix (x_pk rfl vis) (x_e (x_int)) (by intro _ _; rfl)))) (blkOk_by (by kernel_rfl)) (fun s H L cl fp => g_name nd_is_edge rfl loc (show 1 ∉ ([] : List Nat) by decide)) (fun s H L cl fp => t_ifs0) (fun s H L cl fp => x_or (x_cmp (oa := .pk 1) (ob := .e (xc .non)) (op_is) (ok_is) (x_pk rfl vis) (x_e (x_non)) (nomark _)) (x_one (x_call (Ctx.blkOk bodyOk) h_is_number defn_len (hr.mono (by decide)) rfl (px_cons (o := .e _) (x_e (x_var rfl vis)) (px_nil))))) (by decide) (by decide) (show ∀ i ∈ ([] : List Nat), i ∉ ([1] : List Nat) by decide))) (px_nil)))))
abbrev s_guesses_right : Stmt := top 44
abbrev N_guesses_right : List Str := ["edges", "thing", "edge", "key"]
theorem nd_guesses_right : N_guesses_right.Nodup := by decide
def g_guesses_right_e0 : XF := xand (pop (consO (.pk 2) (consO (.pk 1) (nilA))) φInA) (xcall D_is_between [] (consO (.e (pop (consO (.pk 1) (consO (.pk 2) nilA)) φIx)) (consO (.e (xc (.int 0))) (consO (.e (xc (.int 1))) (nilA)))))
def g_guesses_right_s1 : SF := sif (xor (xnot (pop (consO (.pk 1) (consO (.e (xc (.ty "dict"))) (nilA))) (φIsI tb insL errL))) (xor (pop (consO (.e (pop (consO (.pk 1) (nilA)) (φLenA))) (consO (.e (pop (consO (.pk 0) (nilA)) (φLenA))) (nilA))) φNeA) (xnot (pop (consO (.e (xlc [3] (ix (consA (xvar 1) nilA) kAny) (aset 3) (xc (.bl true)) (xcall D_is_edge [] (consO (.e (xvar 3)) (nilA))))) (nilA)) (φAll))))) (sret (xc (.bl false))) (snx)
def g_guesses_right : SF := sseq (g_guesses_right_s1) (sret (pop (consO (.e (xlc [2] (ix (consA (xvar 0) nilA) kAny) (aset 2) (xc (.bl true)) (g_guesses_right_e0))) (nilA)) (φAll)))
def D_guesses_right : MF := defn 2 2 false g_guesses_right
theorem b_guesses_right (G : Gs P w K mg base) (h_is_between : FnD P w K mg base T 2 "is_between" 3 false [] D_is_between) (h_is_edge : FnD P w K mg base T 2 "is_edge" 1 false [] D_is_edge) : BodyRd P w K mg base T N_guesses_right "guesses_right" (defScope s_guesses_right) f 2 false (defBody s_guesses_right) g_guesses_right := fun cdv A outer s H E vs hr =>
  s_cons (s_if (PW.pt (t_or (t_not (t_val (x_callB call_isA (ok_isI G.isT) rfl G.f_isinstance (by decide +kernel) (px_cons (x_pk rfl vis) (px_cons (x_e (x_ty rfl G.f_dict (by decide +kernel))) (px_nil)))))) (t_or (t_cmp (oa := .e (pop (consO (.pk 1) (nilA)) (φLenA))) (ob := .e (pop (consO (.pk 0) (nilA)) (φLenA))) (op_neA (ru hr (by decide))) (ok_neA) (x_e (x_callB call_lenA (ok_lenA) rfl G.f_len (by decide +kernel) (px_cons (x_pk rfl vis) (px_nil)))) (x_e (x_callB call_lenA (ok_lenA) rfl G.f_len (by decide +kernel) (px_cons (x_pk rfl vis) (px_nil)))) (nomark _)) (t_one_or (t_not (t_val (x_callB (cr_all rfl) (ok_all) rfl G.f_all (by decide +kernel) (px_cons (x_e (x_lc (own := [("key", 3)]) bodyOk nd_guesses_right (i_any (x_var rfl vis)) (blkOk_by (by kernel_rfl)) (fun s H L cl fp => g_name nd_guesses_right rfl loc (show 3 ∉ ([] : List Nat) by decide)) (fun s H L cl fp => t_ifs0) (fun s H L cl fp => x_call (Ctx.blkOk bodyOk) h_is_edge defn_len (hr.mono (by decide)) rfl (px_cons (o := .e _) (x_e (x_var rfl vis)) (px_nil))) (by decide) (by decide) (show ∀ i ∈ ([] : List Nat), i ∉ ([3] : List Nat) by decide))) (px_nil))))))))) (s_one (s_ret (x_bl))) (s_nil)) (s_one (s_ret (x_callB (cr_all rfl) (ok_all) rfl G.f_all (by decide +kernel) (px_cons (x_e (x_lc (own := [("edge", 2)]) bodyOk nd_guesses_right (i_any (x_var rfl vis)) (blkOk_by (by kernel_rfl)) (fun s H L cl fp => g_name nd_guesses_right rfl loc (show 2 ∉ ([] : List Nat) by decide)) (fun s H L cl fp => t_ifs0) (fun s H L cl fp => x_and (x_cmp (oa := .pk 2) (ob := .pk 1) (op_inA (ru hr (by decide))) (ok_inA) (x_pk rfl vis) (x_pk rfl vis) (by with_unfolding_all rfl)) (x_one (x_call (Ctx.blkOk bodyOk) h_is_between defn_len (hr.mono (by decide)) rfl (px_cons (o := .e _) (x_e (x_ix (oa := .pk 1) (ob := .pk 2) (ix_all (ru hr (by decide))) ok_ix (x_pk rfl vis) (x_pk rfl vis) (by intro _ _; rfl))) (px_cons (o := .e _) (x_e (x_int)) (px_cons (o := .e _) (x_e (x_int)) (px_nil))))))) (by decide) (by decide) (show ∀ i ∈ ([] : List Nat), i ∉ ([2] : List Nat) by decide))) (px_nil)))))
abbrev s_Lot_rows : Stmt := (clsBody (top 31)).getD 2 (.Pass ⟨0, 0, 0, 0⟩)
abbrev N_Lot_rows : List Str := ["self"]
theorem nd_Lot_rows : N_Lot_rows.Nodup := by decide
def g_Lot_rows : SF := sret (pop (consO (.pk 0) nilA) (φFld ["Lot"] "own_rows"))
def D_Lot_rows : MF := defn 1 0 false g_Lot_rows
theorem b_Lot_rows (G : Gs P w K mg base)  : BodyRd P w K mg base T N_Lot_rows "Lot.rows" (defScope s_Lot_rows) f 0 false (defBody s_Lot_rows) g_Lot_rows := fun cdv A outer s H E vs hr =>
  s_one (s_ret (x_fld (o := .pk 0) G.fl_Lot_own_rows (x_pk rfl vis)))
abbrev s_Lot_has : Stmt := (clsBody (top 31)).getD 3 (.Pass ⟨0, 0, 0, 0⟩)
abbrev N_Lot_has : List Str := ["self", "row"]
theorem nd_Lot_has : N_Lot_has.Nodup := by decide
def g_Lot_has : SF := sret (xand (xcall D_is_row [] (consO (.e (pop (consO (.pk 0) nilA) (φFld ["Lot"] "own_places"))) (consO (.e (xvar 1)) (nilA)))) (pop (consO (.pk 1) (consO (.e (pop (consO (.pk 0) nilA) (φFld ["Lot"] "own_known"))) (nilA))) φInA))
def D_Lot_has : MF := defn 2 0 false g_Lot_has
theorem b_Lot_has (G : Gs P w K mg base) (h_is_row : FnD P w K mg base T 4 "is_row" 2 false [] D_is_row) : BodyRd P w K mg base T N_Lot_has "Lot.has" (defScope s_Lot_has) f 4 false (defBody s_Lot_has) g_Lot_has := fun cdv A outer s H E vs hr =>
  s_one (s_ret (x_and (x_call bodyOk h_is_row defn_len (hr.mono (by decide)) rfl (px_cons (o := .e _) (x_e (x_fld (o := .pk 0) G.fl_Lot_own_places (x_pk rfl vis))) (px_cons (o := .e _) (x_e (x_var rfl vis)) (px_nil)))) (x_one (x_cmp (oa := .pk 1) (ob := .e (pop (consO (.pk 0) nilA) (φFld ["Lot"] "own_known"))) (op_inA (ru hr (by decide))) (ok_inA) (x_pk rfl vis) (x_e (x_fld (o := .pk 0) G.fl_Lot_own_known (x_pk rfl vis))) (by with_unfolding_all rfl)))))
abbrev s_filled : Stmt := top 39
abbrev N_filled : List Str := ["told", "place", "answer"]
theorem nd_filled : N_filled.Nodup := by decide
def g_filled : SF := sret (xtup (consS (pop (consO (.pk 0) (consA (ckX "int" (xvar 1)) (nilA))) φSl01) (consO (.e (xvar 2)) (consS (pop (consO (.pk 0) (consA (ckX "int" (pop (consO (.pk 1) (consO (.e (xc (.int 1))) nilA)) φAdd)) (nilA))) φSl10) (nilA)))))
def D_filled : MF := defn 3 0 false g_filled
theorem b_filled (G : Gs P w K mg base)  : BodyRd P w K mg base T N_filled "filled" (defScope s_filled) f 0 false (defBody s_filled) g_filled := fun cdv A outer s H E vs hr =>
  s_one (s_ret (x_tup (px_star (x_sl01 (o := .pk 0) (x_pk rfl vis) (x_var rfl vis)) (px_cons (o := .e _) (x_e (x_var rfl vis)) (px_star (x_sl10 (o := .pk 0) (x_pk rfl vis) (x_bin (oa := .pk 1) (ob := .e (xc (.int 1))) op_addA ok_add (x_pk rfl vis) (x_e (x_int)))) (px_nil))))))
abbrev s_edges_of : Stmt := top 40
abbrev N_edges_of : List Str := ["lot", "found", "row", "place", "answer"]
theorem nd_edges_of : N_edges_of.Nodup := by decide
def g_edges_of_b0 : SF := sif (xand (pop (consO (.pk 4) (consO (.e (xc (.int 0))) (nilA))) φEqA) (xmeth "Lot" "has" D_Lot_has [] (xvar 0) (consO (.e (xcall D_filled [] (consO (.e (xvar 2)) (consO (.e (xvar 3)) (consO (.e (xc (.int 1))) (nilA)))))) (nilA)))) (sexpr (xmut (ckP "list" (pvar 1)) (consO (.e (xtup (consO (.e (xfz (xcall D_filled [] (consO (.e (xvar 2)) (consO (.e (xvar 3)) (consO (.e (xc .non)) (nilA))))))) (consO (.e (xvar 3)) (nilA))))) (nilA)) μAppend)) (snx)
def g_edges_of_b1 : SF := sfor (ix (consO (.e (xvar 2)) (nilA)) kEnum) (atup [aset 3, aset 4]) (g_edges_of_b0)
def g_edges_of : SF := sseq (sasg (xlst (nilA)) (aset 1)) (sseq (sfor (ix (consA (xprop "Lot" D_Lot_rows (xvar 0)) nilA) kAny) (aset 2) (g_edges_of_b1)) (sret (xvar 1)))
def D_edges_of : MF := defn 1 4 false g_edges_of
theorem b_edges_of (G : Gs P w K mg base) (h_filled : FnD P w K mg base T 1 "filled" 3 false [] D_filled) (h_Lot_rows : PropD P w K mg base T 1 "Lot" "rows" D_Lot_rows) (h_Lot_has : MethD P w K mg base T 5 "Lot" "has" 2 [] D_Lot_has) : BodyRd P w K mg base T N_edges_of "edges_of" (defScope s_edges_of) f 5 false (defBody s_edges_of) g_edges_of := fun cdv A outer s H E vs hr =>
  s_cons (s_asg (x_lst (px_nil)) (g_name nd_edges_of rfl loc (show 1 ∉ ([] : List Nat) by decide))) (s_cons (s_for bodyPass rfl (i_any (x_propD h_Lot_rows defn_len (hr.mono (by decide)) (x_var rfl vis))) (g_name nd_edges_of rfl loc (show 2 ∉ ([] : List Nat) by decide)) (s_one (s_for bodyPass rfl (i_enum rfl G.f_enumerate (px_cons (o := .e _) (x_e (x_var rfl vis)) (px_nil))) (g_tup rfl (gs_cons (g_name nd_edges_of rfl loc (show 3 ∉ ([] : List Nat) by decide)) (gs_cons (g_name nd_edges_of rfl loc (show 4 ∉ ([] : List Nat) by decide)) (gs_nil)))) (s_one (s_if (PW.pt (t_and (t_cmp (oa := .pk 4) (ob := .e (xc (.int 0))) (op_eqA (ru hr (by decide))) (ok_eqA) (x_pk rfl vis) (x_e (x_int)) (nomark _)) (t_one_and (t_val (x_methD bodyOk h_Lot_has defn_len (hr.mono (by decide)) (x_var rfl vis) (px_cons (o := .e _) (x_e (x_call bodyOk h_filled defn_len (hr.mono (by decide)) rfl (px_cons (o := .e _) (x_e (x_var rfl vis)) (px_cons (o := .e _) (x_e (x_var rfl vis)) (px_cons (o := .e _) (x_e (x_int)) (px_nil)))))) (px_nil))))))) (s_one (s_expr (x_mut1 (m := true) PySem.F.plainAttrs_list PySem.F.slot_list_append PySem.F.type_list_append mt_append ok_append base_v (p_var rfl vis) (px_cons (o := .e _) (x_e (x_tup (px_cons (o := .e _) (x_e (x_fz (x_call bodyOk h_filled defn_len (hr.mono (by decide)) rfl (px_cons (o := .e _) (x_e (x_var rfl vis)) (px_cons (o := .e _) (x_e (x_var rfl vis)) (px_cons (o := .e _) (x_e (x_non)) (px_nil))))))) (px_cons (o := .e _) (x_e (x_var rfl vis)) (px_nil))))) (px_nil))))) (s_nil)))))) (s_one (s_ret (x_var rfl vis))))
-- dead in wrong cut
abbrev s_wrong : Stmt := top 46
abbrev N_wrong : List Str := ["lot", "guesser"]
theorem nd_wrong : N_wrong.Nodup := by decide
def g_wrong : SF := sseq (sexpr (xcall D_need_lot [.non] (consO (.e (xvar 0)) (nilA)))) (sseq (sif (xnot (xcall D_guesses_right [] (consO (.e (xcall D_edges_of [] (consO (.e (xvar 0)) (nilA)))) (consO (.e (xvar 1)) (nilA))))) (sraise "BadGuesser") (snx)) (sdead))
def D_wrong : MF := defn 2 0 false g_wrong
theorem b_wrong (G : Gs P w K mg base) (h_edges_of : FnD P w K mg base T 6 "edges_of" 1 false [] D_edges_of) (h_guesses_right : FnD P w K mg base T 3 "guesses_right" 2 false [] D_guesses_right) (h_need_lot : FnD P w K mg base T 3 "need_lot" 2 false [.non] D_need_lot) : BodyRd P w K mg base T N_wrong "wrong" (defScope s_wrong) f 6 false (defBody s_wrong) g_wrong := fun cdv A outer s H E vs hr =>
  s_cons (s_expr (x_call bodyOk h_need_lot defn_len (hr.mono (by decide)) rfl (px_cons (o := .e _) (x_e (x_var rfl vis)) (px_nil)))) (s_cons (s_if (t_not (t_val (x_call bodyOk h_guesses_right defn_len (hr.mono (by decide)) rfl (px_cons (o := .e _) (x_e (x_call bodyOk h_edges_of defn_len (hr.mono (by decide)) rfl (px_cons (o := .e _) (x_e (x_var rfl vis)) (px_nil)))) (px_cons (o := .e _) (x_e (x_var rfl vis)) (px_nil)))))) (s_one (s_raiseP bodyOk G.e_BadGuesser rfl)) (s_nil)) (s_dead))
abbrev s_bounds_right : Stmt := top 47
abbrev N_bounds_right : List Str := ["lot", "thing", "row", "number"]
theorem nd_bounds_right : N_bounds_right.Nodup := by decide
def g_bounds_right_e0 : XF := xand (xmeth "Lot" "has" D_Lot_has [] (xvar 0) (consO (.e (xvar 2)) (nilA))) (xcall D_is_between [] (consO (.e (xvar 3)) (consO (.e (xc (.int 0))) (consO (.e (xc (.int 64))) (nilA)))))
def g_bounds_right_s1 : SF := sif (xor (xnot (pop (consO (.pk 1) (consO (.e (xc (.ty "dict"))) (nilA))) (φIsI tb insL errL))) (pop (consO (.e (pop (consO (.pk 1) (nilA)) (φLenA))) (consO (.e (pop (consO (.e (xprop "Lot" D_Lot_rows (xvar 0))) (nilA)) (φLenA))) (nilA))) φNeA)) (sret (xc (.bl false))) (snx)
def g_bounds_right : SF := sseq (g_bounds_right_s1) (sret (pop (consO (.e (xlc [2, 3] (ix (consA (xvar 1) nilA) kItems) (atup [aset 2, aset 3]) (xc (.bl true)) (g_bounds_right_e0))) (nilA)) (φAll)))
def D_bounds_right : MF := defn 2 2 false g_bounds_right
theorem b_bounds_right (G : Gs P w K mg base) (h_is_between : FnD P w K mg base T 2 "is_between" 3 false [] D_is_between) (h_Lot_rows : PropD P w K mg base T 1 "Lot" "rows" D_Lot_rows) (h_Lot_has : MethD P w K mg base T 5 "Lot" "has" 2 [] D_Lot_has) : BodyRd P w K mg base T N_bounds_right "bounds_right" (defScope s_bounds_right) f 5 false (defBody s_bounds_right) g_bounds_right := fun cdv A outer s H E vs hr =>
  s_cons (s_if (PW.pt (t_or (t_not (t_val (x_callB call_isA (ok_isI G.isT) rfl G.f_isinstance (by decide +kernel) (px_cons (x_pk rfl vis) (px_cons (x_e (x_ty rfl G.f_dict (by decide +kernel))) (px_nil)))))) (t_one_or (t_cmp (oa := .e (pop (consO (.pk 1) (nilA)) (φLenA))) (ob := .e (pop (consO (.e (xprop "Lot" D_Lot_rows (xvar 0))) (nilA)) (φLenA))) (op_neA (ru hr (by decide))) (ok_neA) (x_e (x_callB call_lenA (ok_lenA) rfl G.f_len (by decide +kernel) (px_cons (x_pk rfl vis) (px_nil)))) (x_e (x_callB call_lenA (ok_lenA) rfl G.f_len (by decide +kernel) (px_cons (x_e (x_propD h_Lot_rows defn_len (hr.mono (by decide)) (x_var rfl vis))) (px_nil)))) (nomark _))))) (s_one (s_ret (x_bl))) (s_nil)) (s_one (s_ret (x_callB (cr_all rfl) (ok_all) rfl G.f_all (by decide +kernel) (px_cons (x_e (x_lc (own := [("row", 2), ("number", 3)]) bodyOk nd_bounds_right (i_items (x_var rfl vis)) (blkOk_by (by kernel_rfl)) (fun s H L cl fp => g_tup rfl (gs_cons (g_name nd_bounds_right rfl loc (show 2 ∉ ([] : List Nat) by decide)) (gs_cons (g_name nd_bounds_right rfl loc (show 3 ∉ ([] : List Nat) by decide)) (gs_nil)))) (fun s H L cl fp => t_ifs0) (fun s H L cl fp => x_and (x_methD (Ctx.blkOk bodyOk) h_Lot_has defn_len (hr.mono (by decide)) (x_var rfl vis) (px_cons (o := .e _) (x_e (x_var rfl vis)) (px_nil))) (x_one (x_call (Ctx.blkOk bodyOk) h_is_between defn_len (hr.mono (by decide)) rfl (px_cons (o := .e _) (x_e (x_var rfl vis)) (px_cons (o := .e _) (x_e (x_int)) (px_cons (o := .e _) (x_e (x_gint rfl G.i_MOST_BOUND)) (px_nil))))))) (by decide) (by decide) (show ∀ i ∈ ([] : List Nat), i ∉ ([2, 3] : List Nat) by decide))) (px_nil)))))
abbrev s_need_bounds : Stmt := top 48
abbrev N_need_bounds : List Str := ["lot", "bounds"]
theorem nd_need_bounds : N_need_bounds.Nodup := by decide
def g_need_bounds : SF := sseq (sexpr (xcall D_need_lot [.non] (consO (.e (xvar 0)) (nilA)))) (sif (xnot (xcall D_bounds_right [] (consO (.e (xvar 0)) (consO (.e (xvar 1)) (nilA))))) (sraise "BadBounds") (snx))
def D_need_bounds : MF := defn 2 0 false g_need_bounds
theorem b_need_bounds (G : Gs P w K mg base) (h_bounds_right : FnD P w K mg base T 6 "bounds_right" 2 false [] D_bounds_right) (h_need_lot : FnD P w K mg base T 3 "need_lot" 2 false [.non] D_need_lot) : BodyRd P w K mg base T N_need_bounds "need_bounds" (defScope s_need_bounds) f 6 false (defBody s_need_bounds) g_need_bounds := fun cdv A outer s H E vs hr =>
  s_cons (s_expr (x_call bodyOk h_need_lot defn_len (hr.mono (by decide)) rfl (px_cons (o := .e _) (x_e (x_var rfl vis)) (px_nil)))) (s_one (s_if (t_not (t_val (x_call bodyOk h_bounds_right defn_len (hr.mono (by decide)) rfl (px_cons (o := .e _) (x_e (x_var rfl vis)) (px_cons (o := .e _) (x_e (x_var rfl vis)) (px_nil)))))) (s_one (s_raiseP bodyOk G.e_BadBounds rfl)) (s_nil)))
-- dead in guesser_paper cut
abbrev s_guesser_paper : Stmt := top 53
abbrev N_guesser_paper : List Str := ["lot", "bounds", "guesser", "crowd"]
theorem nd_guesser_paper : N_guesser_paper.Nodup := by decide
def g_guesser_paper : SF := sseq (sexpr (xcall D_need_bounds [] (consO (.e (xvar 0)) (consO (.e (xvar 1)) (nilA))))) (sdead)
def D_guesser_paper : MF := defn 2 2 false g_guesser_paper
theorem b_guesser_paper (G : Gs P w K mg base) (h_need_bounds : FnD P w K mg base T 7 "need_bounds" 2 false [] D_need_bounds) : BodyRd P w K mg base T N_guesser_paper "guesser_paper" (defScope s_guesser_paper) f 7 false (defBody s_guesser_paper) g_guesser_paper := fun cdv A outer s H E vs hr =>
  s_cons (s_expr (x_call bodyOk h_need_bounds defn_len (hr.mono (by decide)) rfl (px_cons (o := .e _) (x_e (x_var rfl vis)) (px_cons (o := .e _) (x_e (x_var rfl vis)) (px_nil))))) (s_dead)
abbrev s_need_rowed : Stmt := top 38
abbrev N_need_rowed : List Str := ["lot"]
theorem nd_need_rowed : N_need_rowed.Nodup := by decide
def g_need_rowed : SF := sseq (sexpr (xcall D_need_lot [.non] (consO (.e (xvar 0)) (nilA)))) (sif (pop (consO (.e (xprop "Lot" D_Lot_rows (xvar 0))) (consO (.e (xtup (nilA))) (nilA))) φEqA) (sraise "NoRows") (snx))
def D_need_rowed : MF := defn 1 0 false g_need_rowed
theorem b_need_rowed (G : Gs P w K mg base) (h_need_lot : FnD P w K mg base T 3 "need_lot" 2 false [.non] D_need_lot) (h_Lot_rows : PropD P w K mg base T 1 "Lot" "rows" D_Lot_rows) : BodyRd P w K mg base T N_need_rowed "need_rowed" (defScope s_need_rowed) f 3 false (defBody s_need_rowed) g_need_rowed := fun cdv A outer s H E vs hr =>
  s_cons (s_expr (x_call bodyOk h_need_lot defn_len (hr.mono (by decide)) rfl (px_cons (o := .e _) (x_e (x_var rfl vis)) (px_nil)))) (s_one (s_if (t_cmp (oa := .e (xprop "Lot" D_Lot_rows (xvar 0))) (ob := .e (xtup (nilA))) (op_eqA (ru hr (by decide))) (ok_eqA) (x_e (x_propD h_Lot_rows defn_len (hr.mono (by decide)) (x_var rfl vis))) (x_e (x_tup (px_nil))) (nomark _)) (s_one (s_raiseP bodyOk G.e_NoRows rfl)) (s_nil)))
-- dead in least_wrong cut
abbrev s_least_wrong : Stmt := top 57
abbrev N_least_wrong : List Str := ["lot", "number", "row"]
theorem nd_least_wrong : N_least_wrong.Nodup := by decide
def g_least_wrong : SF := sseq (sexpr (xcall D_need_rowed [] (consO (.e (xvar 0)) (nilA)))) (sdead)
def D_least_wrong : MF := defn 1 2 false g_least_wrong
theorem b_least_wrong (G : Gs P w K mg base) (h_need_rowed : FnD P w K mg base T 4 "need_rowed" 1 false [] D_need_rowed) : BodyRd P w K mg base T N_least_wrong "least_wrong" (defScope s_least_wrong) f 4 false (defBody s_least_wrong) g_least_wrong := fun cdv A outer s H E vs hr =>
  s_cons (s_expr (x_call bodyOk h_need_rowed defn_len (hr.mono (by decide)) rfl (px_cons (o := .e _) (x_e (x_var rfl vis)) (px_nil)))) (s_dead)
-- dead in least_share cut
abbrev s_least_share : Stmt := top 68
abbrev N_least_share : List Str := ["lot", "top", "bottom", "crowd"]
theorem nd_least_share : N_least_share.Nodup := by decide
def g_least_share : SF := sseq (sexpr (xcall D_need_rowed [] (consO (.e (xvar 0)) (nilA)))) (sdead)
def D_least_share : MF := defn 1 3 false g_least_share
theorem b_least_share (G : Gs P w K mg base) (h_need_rowed : FnD P w K mg base T 4 "need_rowed" 1 false [] D_need_rowed) : BodyRd P w K mg base T N_least_share "least_share" (defScope s_least_share) f 4 false (defBody s_least_share) g_least_share := fun cdv A outer s H E vs hr =>
  s_cons (s_expr (x_call bodyOk h_need_rowed defn_len (hr.mono (by decide)) rfl (px_cons (o := .e _) (x_e (x_var rfl vis)) (px_nil)))) (s_dead)
-- dead in most_mistakes cut
abbrev s_most_mistakes : Stmt := top 82
abbrev N_most_mistakes : List Str := ["lot"]
theorem nd_most_mistakes : N_most_mistakes.Nodup := by decide
def g_most_mistakes : SF := sseq (sexpr (xcall D_need_rowed [] (consO (.e (xvar 0)) (nilA)))) (sdead)
def D_most_mistakes : MF := defn 1 0 false g_most_mistakes
theorem b_most_mistakes (G : Gs P w K mg base) (h_need_rowed : FnD P w K mg base T 4 "need_rowed" 1 false [] D_need_rowed) : BodyRd P w K mg base T N_most_mistakes "most_mistakes" (defScope s_most_mistakes) f 4 false (defBody s_most_mistakes) g_most_mistakes := fun cdv A outer s H E vs hr =>
  s_cons (s_expr (x_call bodyOk h_need_rowed defn_len (hr.mono (by decide)) rfl (px_cons (o := .e _) (x_e (x_var rfl vis)) (px_nil)))) (s_dead)
-- dead in is_bound return is_between(thing[0], 0, 10 * MOST_BOTTOM) and is_between(thing[ :: Todo('name MOST_BOTTOM')
abbrev s_is_bound : Stmt := top 61
abbrev N_is_bound : List Str := ["thing"]
theorem nd_is_bound : N_is_bound.Nodup := by decide
def g_is_bound : SF := sseq (sif (xor (xnot (pop (consO (.pk 0) (consO (.e (xc (.ty "tuple"))) (nilA))) (φIsI tb insL errL))) (pop (consO (.e (pop (consO (.pk 0) (nilA)) (φLenA))) (consO (.e (xc (.int 2))) (nilA))) φNeA)) (sret (xc (.bl false))) (snx)) (sdead)
def D_is_bound : MF := defn 1 0 false g_is_bound
theorem b_is_bound (G : Gs P w K mg base)  : BodyRd P w K mg base T N_is_bound "is_bound" (defScope s_is_bound) f 0 false (defBody s_is_bound) g_is_bound := fun cdv A outer s H E vs hr =>
  s_cons (s_if (PW.pt (t_or (t_not (t_val (x_callB call_isA (ok_isI G.isT) rfl G.f_isinstance (by decide +kernel) (px_cons (x_pk rfl vis) (px_cons (x_e (x_ty rfl G.f_tuple (by decide +kernel))) (px_nil)))))) (t_one_or (t_cmp (oa := .e (pop (consO (.pk 0) (nilA)) (φLenA))) (ob := .e (xc (.int 2))) (op_neA (ru hr (by decide))) (ok_neA) (x_e (x_callB call_lenA (ok_lenA) rfl G.f_len (by decide +kernel) (px_cons (x_pk rfl vis) (px_nil)))) (x_e (x_int)) (nomark _))))) (s_one (s_ret (x_bl))) (s_nil)) (s_dead)
abbrev s_need_share : Stmt := top 60
abbrev N_need_share : List Str := ["lot", "share"]
theorem nd_need_share : N_need_share.Nodup := by decide
def g_need_share : SF := sseq (sexpr (xcall D_need_rowed [] (consO (.e (xvar 0)) (nilA)))) (sif (xnot (xcall D_is_bound [] (consO (.e (xvar 1)) (nilA)))) (sraise "BadShare") (snx))
def D_need_share : MF := defn 2 0 false g_need_share
theorem b_need_share (G : Gs P w K mg base) (h_is_bound : FnD P w K mg base T 1 "is_bound" 1 false [] D_is_bound) (h_need_rowed : FnD P w K mg base T 4 "need_rowed" 1 false [] D_need_rowed) : BodyRd P w K mg base T N_need_share "need_share" (defScope s_need_share) f 4 false (defBody s_need_share) g_need_share := fun cdv A outer s H E vs hr =>
  s_cons (s_expr (x_call bodyOk h_need_rowed defn_len (hr.mono (by decide)) rfl (px_cons (o := .e _) (x_e (x_var rfl vis)) (px_nil)))) (s_one (s_if (t_not (t_val (x_call bodyOk h_is_bound defn_len (hr.mono (by decide)) rfl (px_cons (o := .e _) (x_e (x_var rfl vis)) (px_nil))))) (s_one (s_raiseP bodyOk G.e_BadShare rfl)) (s_nil)))
-- dead in share_paper cut
abbrev s_share_paper : Stmt := top 67
abbrev N_share_paper : List Str := ["lot", "share", "flows", "crowd", "edge", "part"]
theorem nd_share_paper : N_share_paper.Nodup := by decide
def g_share_paper : SF := sseq (sexpr (xcall D_need_share [] (consO (.e (xvar 0)) (consO (.e (xvar 1)) (nilA))))) (sdead)
def D_share_paper : MF := defn 2 4 false g_share_paper
theorem b_share_paper (G : Gs P w K mg base) (h_need_share : FnD P w K mg base T 5 "need_share" 2 false [] D_need_share) : BodyRd P w K mg base T N_share_paper "share_paper" (defScope s_share_paper) f 5 false (defBody s_share_paper) g_share_paper := fun cdv A outer s H E vs hr =>
  s_cons (s_expr (x_call bodyOk h_need_share defn_len (hr.mono (by decide)) rfl (px_cons (o := .e _) (x_e (x_var rfl vis)) (px_cons (o := .e _) (x_e (x_var rfl vis)) (px_nil))))) (s_dead)
abbrev s_divisor_of : Stmt := top 24
abbrev N_divisor_of : List Str := ["one", "other"]
theorem nd_divisor_of : N_divisor_of.Nodup := by decide
def g_divisor_of_b0 : SF := spar2 0 1 (consO (.e (xvar 1)) (consO (.e (pop (consO (.pk 0) (consO (.pk 1) nilA)) φMod)) (nilA)))
def g_divisor_of : SF := sseq (whileL (pop (consO (.pk 1) (consO (.e (xc (.int 0))) (nilA))) φNeA) (g_divisor_of_b0) 4096) (sret (xvar 0))
def D_divisor_of : MF := defn 2 0 false g_divisor_of
theorem b_divisor_of (G : Gs P w K mg base)  : BodyRd P w K mg base T N_divisor_of "divisor_of" (defScope s_divisor_of) f 0 false (defBody s_divisor_of) g_divisor_of := fun cdv A outer s H E vs hr =>
  s_cons (s_while bodyPass (t_cmp (oa := .pk 1) (ob := .e (xc (.int 0))) (op_neA (ru hr (by decide))) (ok_neA) (x_pk rfl vis) (x_e (x_int)) (nomark _)) (s_one (s_par2 bodyOk nd_divisor_of rfl rfl (by decide) (show 0 ∉ ([] : List Nat) by decide) (show 1 ∉ ([] : List Nat) by decide) rfl rfl (px_cons (o := .e _) (x_e (x_var rfl vis)) (px_cons (o := .e _) (x_e (x_bin (oa := .pk 0) (ob := .pk 1) op_mod ok_mod (x_pk rfl vis) (x_pk rfl vis))) (px_nil))) rfl))) (s_one (s_ret (x_var rfl vis)))
abbrev s_lowest_of : Stmt := top 25
abbrev N_lowest_of : List Str := ["top", "bottom", "common"]
theorem nd_lowest_of : N_lowest_of.Nodup := by decide
def g_lowest_of : SF := sseq (sasg (xcall D_divisor_of [] (consO (.e (pop (consO (.pk 0) (nilA)) (φAbs))) (consO (.e (xvar 1)) (nilA)))) (aset 2)) (sret (xtup (consO (.e (pop (consO (.pk 0) (consO (.pk 2) nilA)) φDiv)) (consO (.e (pop (consO (.pk 1) (consO (.pk 2) nilA)) φDiv)) (nilA)))))
def D_lowest_of : MF := defn 2 1 false g_lowest_of
theorem b_lowest_of (G : Gs P w K mg base) (h_divisor_of : FnD P w K mg base T 1 "divisor_of" 2 false [] D_divisor_of) : BodyRd P w K mg base T N_lowest_of "lowest_of" (defScope s_lowest_of) f 1 false (defBody s_lowest_of) g_lowest_of := fun cdv A outer s H E vs hr =>
  s_cons (s_asg (x_call bodyOk h_divisor_of defn_len (hr.mono (by decide)) rfl (px_cons (o := .e _) (x_e (x_callB call_abs (ok_abs) rfl G.f_abs (by decide +kernel) (px_cons (x_pk rfl vis) (px_nil)))) (px_cons (o := .e _) (x_e (x_var rfl vis)) (px_nil)))) (g_name nd_lowest_of rfl loc (show 2 ∉ ([] : List Nat) by decide))) (s_one (s_ret (x_tup (px_cons (o := .e _) (x_e (x_bin (oa := .pk 0) (ob := .pk 2) op_fdiv ok_div (x_pk rfl vis) (x_pk rfl vis))) (px_cons (o := .e _) (x_e (x_bin (oa := .pk 1) (ob := .pk 2) op_fdiv ok_div (x_pk rfl vis) (x_pk rfl vis))) (px_nil))))))
abbrev s_is_fraction : Stmt := top 26
abbrev N_is_fraction : List Str := ["thing"]
theorem nd_is_fraction : N_is_fraction.Nodup := by decide
def g_is_fraction_s0 : SF := sret (xand (pop (consO (.e (pop (consO (.pk 0) (consO (.e (xc (.int 1))) nilA)) φIx)) (consO (.e (xc (.int 0))) (nilA))) φGt) (pop (consO (.e (xcall D_lowest_of [] (consO (.e (pop (consO (.pk 0) (consO (.e (xc (.int 0))) nilA)) φIx)) (consO (.e (pop (consO (.pk 0) (consO (.e (xc (.int 1))) nilA)) φIx)) (nilA))))) (consO (.pk 0) (nilA))) φEqA))
def g_is_fraction_s1 : SF := sif (xor (xnot (pop (consO (.pk 0) (consO (.e (xc (.ty "tuple"))) (nilA))) (φIsI tb insL errL))) (xor (pop (consO (.e (pop (consO (.pk 0) (nilA)) (φLenA))) (consO (.e (xc (.int 2))) (nilA))) φNeA) (xor (xnot (xcall D_is_number [] (consO (.e (pop (consO (.pk 0) (consO (.e (xc (.int 0))) nilA)) φIx)) (nilA)))) (xnot (xcall D_is_number [] (consO (.e (pop (consO (.pk 0) (consO (.e (xc (.int 1))) nilA)) φIx)) (nilA))))))) (sret (xc (.bl false))) (snx)
def g_is_fraction_s2 : SF := sret (xand (pop (consO (.e (pop (consO (.pk 0) (consO (.e (xc (.int 1))) nilA)) φIx)) (consO (.e (xc (.int 0))) (nilA))) φGt) (pop (consO (.e (xcall D_lowest_of [] (consO (.e (pop (consO (.pk 0) (consO (.e (xc (.int 0))) nilA)) φIx)) (consO (.e (pop (consO (.pk 0) (consO (.e (xc (.int 1))) nilA)) φIx)) (nilA))))) (consO (.pk 0) (nilA))) φEqA))
def g_is_fraction : SF := sseq (g_is_fraction_s1) (g_is_fraction_s0)
def D_is_fraction : MF := defn 1 0 false g_is_fraction
theorem b_is_fraction (G : Gs P w K mg base) (h_is_number : FnD P w K mg base T 1 "is_number" 1 false [] D_is_number) (h_lowest_of : FnD P w K mg base T 2 "lowest_of" 2 false [] D_lowest_of) : BodyRd P w K mg base T N_is_fraction "is_fraction" (defScope s_is_fraction) f 2 false (defBody s_is_fraction) g_is_fraction := fun cdv A outer s H E vs hr =>
  s_cons (s_if (PW.pt (t_or (t_not (t_val (x_callB call_isA (ok_isI G.isT) rfl G.f_isinstance (by decide +kernel) (px_cons (x_pk rfl vis) (px_cons (x_e (x_ty rfl G.f_tuple (by decide +kernel))) (px_nil)))))) (t_or (t_cmp (oa := .e (pop (consO (.pk 0) (nilA)) (φLenA))) (ob := .e (xc (.int 2))) (op_neA (ru hr (by decide))) (ok_neA) (x_e (x_callB call_lenA (ok_lenA) rfl G.f_len (by decide +kernel) (px_cons (x_pk rfl vis) (px_nil)))) (x_e (x_int)) (nomark _)) (t_or (t_not (t_val (x_call bodyOk h_is_number defn_len (hr.mono (by decide)) rfl (px_cons (o := .e _) (x_e (x_ix (oa := .pk 0) (ob := .e (xc (.int 0))) (ix_all (ru hr (by decide))) ok_ix (x_pk rfl vis) (x_e (x_int)) (by intro _ _; rfl))) (px_nil))))) (t_one_or (t_not (t_val (x_call bodyOk h_is_number defn_len (hr.mono (by decide)) rfl (px_cons (o := .e _) (x_e (x_ix (oa := .pk 0) (ob := .e (xc (.int 1))) (ix_all (ru hr (by decide))) ok_ix (x_pk rfl vis) (x_e (x_int)) (by intro _ _; rfl))) (px_nil)))))))))) (s_one (s_ret (x_bl))) (s_nil)) (s_one (s_ret (x_and (x_cmp (oa := .e (pop (consO (.pk 0) (consO (.e (xc (.int 1))) nilA)) φIx)) (ob := .e (xc (.int 0))) (op_gt) (ok_gt) (x_e (x_ix (oa := .pk 0) (ob := .e (xc (.int 1))) (ix_all (ru hr (by decide))) ok_ix (x_pk rfl vis) (x_e (x_int)) (by intro _ _; rfl))) (x_e (x_int)) (nomark _)) (x_one (x_cmp (oa := .e (xcall D_lowest_of [] (consO (.e (pop (consO (.pk 0) (consO (.e (xc (.int 0))) nilA)) φIx)) (consO (.e (pop (consO (.pk 0) (consO (.e (xc (.int 1))) nilA)) φIx)) (nilA))))) (ob := .pk 0) (op_eqA (ru hr (by decide))) (ok_eqA) (x_e (x_call bodyOk h_lowest_of defn_len (hr.mono (by decide)) rfl (px_cons (o := .e _) (x_e (x_ix (oa := .pk 0) (ob := .e (xc (.int 0))) (ix_all (ru hr (by decide))) ok_ix (x_pk rfl vis) (x_e (x_int)) (by intro _ _; rfl))) (px_cons (o := .e _) (x_e (x_ix (oa := .pk 0) (ob := .e (xc (.int 1))) (ix_all (ru hr (by decide))) ok_ix (x_pk rfl vis) (x_e (x_int)) (by intro _ _; rfl))) (px_nil))))) (x_pk rfl vis) (nomark _))))))
abbrev s_shares_right : Stmt := top 69
abbrev N_shares_right : List Str := ["edges", "thing", "edge", "key"]
theorem nd_shares_right : N_shares_right.Nodup := by decide
def g_shares_right_e0 : XF := xand (pop (consO (.pk 2) (consO (.pk 1) (nilA))) φInA) (xcall D_is_fraction [] (consO (.e (pop (consO (.pk 1) (consO (.pk 2) nilA)) φIx)) (nilA)))
def g_shares_right_e1 : XF := xchain (.e (xc (.int 0))) (.e (pop (consO (.e (pop (consO (.pk 1) (consO (.pk 2) nilA)) φIx)) (consO (.e (xc (.int 0))) nilA)) φIx)) (.e (pop (consO (.e (pop (consO (.pk 1) (consO (.pk 2) nilA)) φIx)) (consO (.e (xc (.int 1))) nilA)) φIx)) φLe φLe
def g_shares_right_s2 : SF := sif (xor (xnot (pop (consO (.pk 1) (consO (.e (xc (.ty "dict"))) (nilA))) (φIsI tb insL errL))) (xor (pop (consO (.e (pop (consO (.pk 1) (nilA)) (φLenA))) (consO (.e (pop (consO (.pk 0) (nilA)) (φLenA))) (nilA))) φNeA) (xnot (pop (consO (.e (xlc [3] (ix (consA (xvar 1) nilA) kAny) (aset 3) (xc (.bl true)) (xcall D_is_edge [] (consO (.e (xvar 3)) (nilA))))) (nilA)) (φAll))))) (sret (xc (.bl false))) (snx)
def g_shares_right : SF := sseq (g_shares_right_s2) (sseq (sif (xnot (pop (consO (.e (xlc [2] (ix (consA (xvar 0) nilA) kAny) (aset 2) (xc (.bl true)) (g_shares_right_e0))) (nilA)) (φAll))) (sret (xc (.bl false))) (snx)) (sret (pop (consO (.e (xlc [2] (ix (consA (xvar 0) nilA) kAny) (aset 2) (xc (.bl true)) (g_shares_right_e1))) (nilA)) (φAll))))
def D_shares_right : MF := defn 2 2 false g_shares_right
theorem b_shares_right (G : Gs P w K mg base) (h_is_edge : FnD P w K mg base T 2 "is_edge" 1 false [] D_is_edge) (h_is_fraction : FnD P w K mg base T 3 "is_fraction" 1 false [] D_is_fraction) : BodyRd P w K mg base T N_shares_right "shares_right" (defScope s_shares_right) f 3 false (defBody s_shares_right) g_shares_right := fun cdv A outer s H E vs hr =>
  s_cons (s_if (PW.pt (t_or (t_not (t_val (x_callB call_isA (ok_isI G.isT) rfl G.f_isinstance (by decide +kernel) (px_cons (x_pk rfl vis) (px_cons (x_e (x_ty rfl G.f_dict (by decide +kernel))) (px_nil)))))) (t_or (t_cmp (oa := .e (pop (consO (.pk 1) (nilA)) (φLenA))) (ob := .e (pop (consO (.pk 0) (nilA)) (φLenA))) (op_neA (ru hr (by decide))) (ok_neA) (x_e (x_callB call_lenA (ok_lenA) rfl G.f_len (by decide +kernel) (px_cons (x_pk rfl vis) (px_nil)))) (x_e (x_callB call_lenA (ok_lenA) rfl G.f_len (by decide +kernel) (px_cons (x_pk rfl vis) (px_nil)))) (nomark _)) (t_one_or (t_not (t_val (x_callB (cr_all rfl) (ok_all) rfl G.f_all (by decide +kernel) (px_cons (x_e (x_lc (own := [("key", 3)]) bodyOk nd_shares_right (i_any (x_var rfl vis)) (blkOk_by (by kernel_rfl)) (fun s H L cl fp => g_name nd_shares_right rfl loc (show 3 ∉ ([] : List Nat) by decide)) (fun s H L cl fp => t_ifs0) (fun s H L cl fp => x_call (Ctx.blkOk bodyOk) h_is_edge defn_len (hr.mono (by decide)) rfl (px_cons (o := .e _) (x_e (x_var rfl vis)) (px_nil))) (by decide) (by decide) (show ∀ i ∈ ([] : List Nat), i ∉ ([3] : List Nat) by decide))) (px_nil))))))))) (s_one (s_ret (x_bl))) (s_nil)) (s_cons (s_if (t_not (t_val (x_callB (cr_all rfl) (ok_all) rfl G.f_all (by decide +kernel) (px_cons (x_e (x_lc (own := [("edge", 2)]) bodyOk nd_shares_right (i_any (x_var rfl vis)) (blkOk_by (by kernel_rfl)) (fun s H L cl fp => g_name nd_shares_right rfl loc (show 2 ∉ ([] : List Nat) by decide)) (fun s H L cl fp => t_ifs0) (fun s H L cl fp => x_and (x_cmp (oa := .pk 2) (ob := .pk 1) (op_inA (ru hr (by decide))) (ok_inA) (x_pk rfl vis) (x_pk rfl vis) (by with_unfolding_all rfl)) (x_one (x_call (Ctx.blkOk bodyOk) h_is_fraction defn_len (hr.mono (by decide)) rfl (px_cons (o := .e _) (x_e (x_ix (oa := .pk 1) (ob := .pk 2) (ix_all (ru hr (by decide))) ok_ix (x_pk rfl vis) (x_pk rfl vis) (by intro _ _; rfl))) (px_nil))))) (by decide) (by decide) (show ∀ i ∈ ([] : List Nat), i ∉ ([2] : List Nat) by decide))) (px_nil))))) (s_one (s_ret (x_bl))) (s_nil)) (s_one (s_ret (x_callB (cr_all rfl) (ok_all) rfl G.f_all (by decide +kernel) (px_cons (x_e (x_lc (own := [("edge", 2)]) bodyOk nd_shares_right (i_any (x_var rfl vis)) (blkOk_by (by kernel_rfl)) (fun s H L cl fp => g_name nd_shares_right rfl loc (show 2 ∉ ([] : List Nat) by decide)) (fun s H L cl fp => t_ifs0) (fun s H L cl fp => x_chain (a := _) (oa := .e (xc (.int 0))) (ob := .e (pop (consO (.e (pop (consO (.pk 1) (consO (.pk 2) nilA)) φIx)) (consO (.e (xc (.int 0))) nilA)) φIx)) (oc := .e (pop (consO (.e (pop (consO (.pk 1) (consO (.pk 2) nilA)) φIx)) (consO (.e (xc (.int 1))) nilA)) φIx)) (op_le) (ok_le) (op_le) (ok_le) (x_e (x_int)) (x_e (x_ix (oa := .e (pop (consO (.pk 1) (consO (.pk 2) nilA)) φIx)) (ob := .e (xc (.int 0))) (ix_all (ru hr (by decide))) ok_ix (x_e (x_ix (oa := .pk 1) (ob := .pk 2) (ix_all (ru hr (by decide))) ok_ix (x_pk rfl vis) (x_pk rfl vis) (by intro _ _; rfl))) (x_e (x_int)) (by intro _ _; rfl))) (x_e (x_ix (oa := .e (pop (consO (.pk 1) (consO (.pk 2) nilA)) φIx)) (ob := .e (xc (.int 1))) (ix_all (ru hr (by decide))) ok_ix (x_e (x_ix (oa := .pk 1) (ob := .pk 2) (ix_all (ru hr (by decide))) ok_ix (x_pk rfl vis) (x_pk rfl vis) (by intro _ _; rfl))) (x_e (x_int)) (by intro _ _; rfl)))) (by decide) (by decide) (show ∀ i ∈ ([] : List Nat), i ∉ ([2] : List Nat) by decide))) (px_nil))))))
-- dead in mean_wrong cut
abbrev s_mean_wrong : Stmt := top 71
abbrev N_mean_wrong : List Str := ["lot", "shares"]
theorem nd_mean_wrong : N_mean_wrong.Nodup := by decide
def g_mean_wrong : SF := sseq (sexpr (xcall D_need_rowed [] (consO (.e (xvar 0)) (nilA)))) (sseq (sif (xnot (xcall D_shares_right [] (consO (.e (xcall D_edges_of [] (consO (.e (xvar 0)) (nilA)))) (consO (.e (xvar 1)) (nilA))))) (sraise "BadShare") (snx)) (sdead))
def D_mean_wrong : MF := defn 2 0 false g_mean_wrong
theorem b_mean_wrong (G : Gs P w K mg base) (h_edges_of : FnD P w K mg base T 6 "edges_of" 1 false [] D_edges_of) (h_need_rowed : FnD P w K mg base T 4 "need_rowed" 1 false [] D_need_rowed) (h_shares_right : FnD P w K mg base T 4 "shares_right" 2 false [] D_shares_right) : BodyRd P w K mg base T N_mean_wrong "mean_wrong" (defScope s_mean_wrong) f 6 false (defBody s_mean_wrong) g_mean_wrong := fun cdv A outer s H E vs hr =>
  s_cons (s_expr (x_call bodyOk h_need_rowed defn_len (hr.mono (by decide)) rfl (px_cons (o := .e _) (x_e (x_var rfl vis)) (px_nil)))) (s_cons (s_if (t_not (t_val (x_call bodyOk h_shares_right defn_len (hr.mono (by decide)) rfl (px_cons (o := .e _) (x_e (x_call bodyOk h_edges_of defn_len (hr.mono (by decide)) rfl (px_cons (o := .e _) (x_e (x_var rfl vis)) (px_nil)))) (px_cons (o := .e _) (x_e (x_var rfl vis)) (px_nil)))))) (s_one (s_raiseP bodyOk G.e_BadShare rfl)) (s_nil)) (s_dead))
abbrev s_need_count : Stmt := top 83
abbrev N_need_count : List Str := ["lot", "number"]
theorem nd_need_count : N_need_count.Nodup := by decide
def g_need_count : SF := sseq (sexpr (xcall D_need_rowed [] (consO (.e (xvar 0)) (nilA)))) (sif (xnot (xcall D_is_between [] (consO (.e (xvar 1)) (consO (.e (xc (.int 0))) (consO (.e (xc (.int 7))) (nilA)))))) (sraiseO "BadNumber" "part" (consO (.e (xc (.str "number"))) (nilA))) (snx))
def D_need_count : MF := defn 2 0 false g_need_count
theorem b_need_count (G : Gs P w K mg base) (h_is_between : FnD P w K mg base T 2 "is_between" 3 false [] D_is_between) (h_need_rowed : FnD P w K mg base T 4 "need_rowed" 1 false [] D_need_rowed) : BodyRd P w K mg base T N_need_count "need_count" (defScope s_need_count) f 4 false (defBody s_need_count) g_need_count := fun cdv A outer s H E vs hr =>
  s_cons (s_expr (x_call bodyOk h_need_rowed defn_len (hr.mono (by decide)) rfl (px_cons (o := .e _) (x_e (x_var rfl vis)) (px_nil)))) (s_one (s_if (t_not (t_val (x_call bodyOk h_is_between defn_len (hr.mono (by decide)) rfl (px_cons (o := .e _) (x_e (x_var rfl vis)) (px_cons (o := .e _) (x_e (x_int)) (px_cons (o := .e _) (x_e (x_gint rfl G.i_MOST_MISTAKES)) (px_nil))))))) (s_one (s_raiseX (k := 0) bodyOk G.e_BadNumber (hr.mono (by decide)) rfl (px_cons (o := .e _) (x_e (x_str)) (px_nil)))) (s_nil)))
-- dead in keeps_paper cut
abbrev s_keeps_paper : Stmt := top 84
abbrev N_keeps_paper : List Str := ["lot", "number", "found"]
theorem nd_keeps_paper : N_keeps_paper.Nodup := by decide
def g_keeps_paper : SF := sseq (sexpr (xcall D_need_count [] (consO (.e (xvar 0)) (consO (.e (xvar 1)) (nilA))))) (sdead)
def D_keeps_paper : MF := defn 2 1 false g_keeps_paper
theorem b_keeps_paper (G : Gs P w K mg base) (h_need_count : FnD P w K mg base T 5 "need_count" 2 false [] D_need_count) : BodyRd P w K mg base T N_keeps_paper "keeps_paper" (defScope s_keeps_paper) f 5 false (defBody s_keeps_paper) g_keeps_paper := fun cdv A outer s H E vs hr =>
  s_cons (s_expr (x_call bodyOk h_need_count defn_len (hr.mono (by decide)) rfl (px_cons (o := .e _) (x_e (x_var rfl vis)) (px_cons (o := .e _) (x_e (x_var rfl vis)) (px_nil))))) (s_dead)
-- dead in forces_paper cut
abbrev s_forces_paper : Stmt := top 90
abbrev N_forces_paper : List Str := ["lot", "number", "numbers"]
theorem nd_forces_paper : N_forces_paper.Nodup := by decide
def g_forces_paper : SF := sseq (sexpr (xcall D_need_count [] (consO (.e (xvar 0)) (consO (.e (xvar 1)) (nilA))))) (sdead)
def D_forces_paper : MF := defn 2 1 false g_forces_paper
theorem b_forces_paper (G : Gs P w K mg base) (h_need_count : FnD P w K mg base T 5 "need_count" 2 false [] D_need_count) : BodyRd P w K mg base T N_forces_paper "forces_paper" (defScope s_forces_paper) f 5 false (defBody s_forces_paper) g_forces_paper := fun cdv A outer s H E vs hr =>
  s_cons (s_expr (x_call bodyOk h_need_count defn_len (hr.mono (by decide)) rfl (px_cons (o := .e _) (x_e (x_var rfl vis)) (px_cons (o := .e _) (x_e (x_var rfl vis)) (px_nil))))) (s_dead)
-- dead in is_share_paper cut
abbrev s_is_share_paper : Stmt := top 72
abbrev N_is_share_paper : List Str := ["lot", "share", "thing", "mean"]
theorem nd_is_share_paper : N_is_share_paper.Nodup := by decide
def g_is_share_paper : SF := sseq (sexpr (xcall D_need_share [] (consO (.e (xvar 0)) (consO (.e (xvar 1)) (nilA))))) (sdead)
def D_is_share_paper : MF := defn 3 1 false g_is_share_paper
theorem b_is_share_paper (G : Gs P w K mg base) (h_need_share : FnD P w K mg base T 5 "need_share" 2 false [] D_need_share) : BodyRd P w K mg base T N_is_share_paper "is_share_paper" (defScope s_is_share_paper) f 5 false (defBody s_is_share_paper) g_is_share_paper := fun cdv A outer s H E vs hr =>
  s_cons (s_expr (x_call bodyOk h_need_share defn_len (hr.mono (by decide)) rfl (px_cons (o := .e _) (x_e (x_var rfl vis)) (px_cons (o := .e _) (x_e (x_var rfl vis)) (px_nil))))) (s_dead)
-- dead in is_keeps_paper cut
abbrev s_is_keeps_paper : Stmt := top 87
abbrev N_is_keeps_paper : List Str := ["lot", "number", "thing", "told", "count"]
theorem nd_is_keeps_paper : N_is_keeps_paper.Nodup := by decide
def g_is_keeps_paper : SF := sseq (sexpr (xcall D_need_count [] (consO (.e (xvar 0)) (consO (.e (xvar 1)) (nilA))))) (sdead)
def D_is_keeps_paper : MF := defn 3 2 false g_is_keeps_paper
theorem b_is_keeps_paper (G : Gs P w K mg base) (h_need_count : FnD P w K mg base T 5 "need_count" 2 false [] D_need_count) : BodyRd P w K mg base T N_is_keeps_paper "is_keeps_paper" (defScope s_is_keeps_paper) f 5 false (defBody s_is_keeps_paper) g_is_keeps_paper := fun cdv A outer s H E vs hr =>
  s_cons (s_expr (x_call bodyOk h_need_count defn_len (hr.mono (by decide)) rfl (px_cons (o := .e _) (x_e (x_var rfl vis)) (px_cons (o := .e _) (x_e (x_var rfl vis)) (px_nil))))) (s_dead)
-- dead in is_forces_paper cut
abbrev s_is_forces_paper : Stmt := top 93
abbrev N_is_forces_paper : List Str := ["lot", "number", "thing"]
theorem nd_is_forces_paper : N_is_forces_paper.Nodup := by decide
def g_is_forces_paper : SF := sseq (sexpr (xcall D_need_count [] (consO (.e (xvar 0)) (consO (.e (xvar 1)) (nilA))))) (sdead)
def D_is_forces_paper : MF := defn 3 0 false g_is_forces_paper
theorem b_is_forces_paper (G : Gs P w K mg base) (h_need_count : FnD P w K mg base T 5 "need_count" 2 false [] D_need_count) : BodyRd P w K mg base T N_is_forces_paper "is_forces_paper" (defScope s_is_forces_paper) f 5 false (defBody s_is_forces_paper) g_is_forces_paper := fun cdv A outer s H E vs hr =>
  s_cons (s_expr (x_call bodyOk h_need_count defn_len (hr.mono (by decide)) rfl (px_cons (o := .e _) (x_e (x_var rfl vis)) (px_cons (o := .e _) (x_e (x_var rfl vis)) (px_nil))))) (s_dead)
abbrev s_need_row : Stmt := top 33
abbrev N_need_row : List Str := ["lot", "row"]
theorem nd_need_row : N_need_row.Nodup := by decide
def g_need_row : SF := sif (xnot (xmeth "Lot" "has" D_Lot_has [] (xvar 0) (consO (.e (xvar 1)) (nilA)))) (sraise "BadRow") (snx)
def D_need_row : MF := defn 2 0 false g_need_row
theorem b_need_row (G : Gs P w K mg base)  (h_Lot_has : MethD P w K mg base T 5 "Lot" "has" 2 [] D_Lot_has) : BodyRd P w K mg base T N_need_row "need_row" (defScope s_need_row) f 5 false (defBody s_need_row) g_need_row := fun cdv A outer s H E vs hr =>
  s_one (s_if (t_not (t_val (x_methD bodyOk h_Lot_has defn_len (hr.mono (by decide)) (x_var rfl vis) (px_cons (o := .e _) (x_e (x_var rfl vis)) (px_nil))))) (s_one (s_raiseP bodyOk G.e_BadRow rfl)) (s_nil))
-- dead in true_of cut
abbrev s_true_of : Stmt := top 109
abbrev N_true_of : List Str := ["lot", "sentence", "row"]
theorem nd_true_of : N_true_of.Nodup := by decide
def g_true_of : SF := sseq (sexpr (xcall D_need_lot [.non] (consO (.e (xvar 0)) (nilA)))) (sseq (sexpr (xcall D_need_sentence [] (consO (.e (xprop "Lot" D_Lot_places (xvar 0))) (consO (.e (xvar 1)) (nilA))))) (sseq (sexpr (xcall D_need_row [] (consO (.e (xvar 0)) (consO (.e (xvar 2)) (nilA))))) (sdead)))
def D_true_of : MF := defn 3 0 false g_true_of
theorem b_true_of (G : Gs P w K mg base) (h_need_lot : FnD P w K mg base T 3 "need_lot" 2 false [.non] D_need_lot) (h_need_row : FnD P w K mg base T 6 "need_row" 2 false [] D_need_row) (h_need_sentence : FnD P w K mg base T 4 "need_sentence" 2 false [] D_need_sentence) (h_Lot_places : PropD P w K mg base T 1 "Lot" "places" D_Lot_places) : BodyRd P w K mg base T N_true_of "true_of" (defScope s_true_of) f 6 false (defBody s_true_of) g_true_of := fun cdv A outer s H E vs hr =>
  s_cons (s_expr (x_call bodyOk h_need_lot defn_len (hr.mono (by decide)) rfl (px_cons (o := .e _) (x_e (x_var rfl vis)) (px_nil)))) (s_cons (s_expr (x_call bodyOk h_need_sentence defn_len (hr.mono (by decide)) rfl (px_cons (o := .e _) (x_e (x_propD h_Lot_places defn_len (hr.mono (by decide)) (x_var rfl vis))) (px_cons (o := .e _) (x_e (x_var rfl vis)) (px_nil))))) (s_cons (s_expr (x_call bodyOk h_need_row defn_len (hr.mono (by decide)) rfl (px_cons (o := .e _) (x_e (x_var rfl vis)) (px_cons (o := .e _) (x_e (x_var rfl vis)) (px_nil))))) (s_dead)))
-- dead in settling cut
abbrev s_settling : Stmt := top 115
abbrev N_settling : List Str := ["lot", "sentence", "row", "asked"]
theorem nd_settling : N_settling.Nodup := by decide
def g_settling : SF := sseq (sexpr (xcall D_need_lot [.non] (consO (.e (xvar 0)) (nilA)))) (sseq (sexpr (xcall D_need_sentence [] (consO (.e (xprop "Lot" D_Lot_places (xvar 0))) (consO (.e (xvar 1)) (nilA))))) (sseq (sexpr (xcall D_need_row [] (consO (.e (xvar 0)) (consO (.e (xvar 2)) (nilA))))) (sdead)))
def D_settling : MF := defn 3 1 false g_settling
theorem b_settling (G : Gs P w K mg base) (h_need_lot : FnD P w K mg base T 3 "need_lot" 2 false [.non] D_need_lot) (h_need_row : FnD P w K mg base T 6 "need_row" 2 false [] D_need_row) (h_need_sentence : FnD P w K mg base T 4 "need_sentence" 2 false [] D_need_sentence) (h_Lot_places : PropD P w K mg base T 1 "Lot" "places" D_Lot_places) : BodyRd P w K mg base T N_settling "settling" (defScope s_settling) f 6 false (defBody s_settling) g_settling := fun cdv A outer s H E vs hr =>
  s_cons (s_expr (x_call bodyOk h_need_lot defn_len (hr.mono (by decide)) rfl (px_cons (o := .e _) (x_e (x_var rfl vis)) (px_nil)))) (s_cons (s_expr (x_call bodyOk h_need_sentence defn_len (hr.mono (by decide)) rfl (px_cons (o := .e _) (x_e (x_propD h_Lot_places defn_len (hr.mono (by decide)) (x_var rfl vis))) (px_cons (o := .e _) (x_e (x_var rfl vis)) (px_nil))))) (s_cons (s_expr (x_call bodyOk h_need_row defn_len (hr.mono (by decide)) rfl (px_cons (o := .e _) (x_e (x_var rfl vis)) (px_cons (o := .e _) (x_e (x_var rfl vis)) (px_nil))))) (s_dead)))
-- dead in is_guesser_paper cut
abbrev s_is_guesser_paper : Stmt := top 56
abbrev N_is_guesser_paper : List Str := ["lot", "bounds", "thing", "counts", "row"]
theorem nd_is_guesser_paper : N_is_guesser_paper.Nodup := by decide
def g_is_guesser_paper : SF := sseq (sexpr (xcall D_need_bounds [] (consO (.e (xvar 0)) (consO (.e (xvar 1)) (nilA))))) (sdead)
def D_is_guesser_paper : MF := defn 3 2 false g_is_guesser_paper
theorem b_is_guesser_paper (G : Gs P w K mg base) (h_need_bounds : FnD P w K mg base T 7 "need_bounds" 2 false [] D_need_bounds) : BodyRd P w K mg base T N_is_guesser_paper "is_guesser_paper" (defScope s_is_guesser_paper) f 7 false (defBody s_is_guesser_paper) g_is_guesser_paper := fun cdv A outer s H E vs hr =>
  s_cons (s_expr (x_call bodyOk h_need_bounds defn_len (hr.mono (by decide)) rfl (px_cons (o := .e _) (x_e (x_var rfl vis)) (px_cons (o := .e _) (x_e (x_var rfl vis)) (px_nil))))) (s_dead)
-- dead in School___init__ cut
abbrev s_School___init__ : Stmt := (clsBody (top 101)).getD 0 (.Pass ⟨0, 0, 0, 0⟩)
abbrev N_School___init__ : List Str := ["self", "lot"]
theorem nd_School___init__ : N_School___init__.Nodup := by decide
def g_School___init__ : SF := sseq (sexpr (xcall D_need_rowed [] (consO (.e (xvar 1)) (nilA)))) (sdead)
def D_School___init__ : MF := defn 2 0 true g_School___init__
theorem b_School___init__ (G : Gs P w K mg base) (h_need_rowed : FnD P w K mg base T 4 "need_rowed" 1 false [] D_need_rowed) : BodyRd P w K mg base T N_School___init__ "School.__init__" (defScope s_School___init__) f 4 true (defBody s_School___init__) g_School___init__ := fun cdv A outer s H E vs hr =>
  s_cons (s_expr (x_call bodyOk h_need_rowed defn_len (hr.mono (by decide)) rfl (px_cons (o := .e _) (x_e (x_var rfl vis)) (px_nil)))) (s_dead)
-- dead in school_text cut
abbrev s_school_text : Stmt := top 102
abbrev N_school_text : List Str := ["school", "rows", "place", "answer"]
theorem nd_school_text : N_school_text.Nodup := by decide
def g_school_text : SF := sseq (sif (xnot (pop (consO (.pk 0) (consO (.e (xc (.glob "School"))) (nilA))) (φIsI tb insL errL))) (sraise "NoSchool") (snx)) (sdead)
def D_school_text : MF := defn 1 3 false g_school_text
theorem b_school_text (G : Gs P w K mg base)  : BodyRd P w K mg base T N_school_text "school_text" (defScope s_school_text) f 0 false (defBody s_school_text) g_school_text := fun cdv A outer s H E vs hr =>
  s_cons (s_if (t_not (t_val (x_callB call_isA (ok_isI G.isT) rfl G.f_isinstance (by decide +kernel) (px_cons (x_pk rfl vis) (px_cons (x_e (x_glob rfl G.c_School)) (px_nil)))))) (s_one (s_raiseP bodyOk G.e_NoSchool rfl)) (s_nil)) (s_dead)
abbrev s__law_words : Stmt := top 125
abbrev N__law_words : List Str := ["odd", "empty", "one", "found", "lot", "sentence", "work"]
theorem nd__law_words : N__law_words.Nodup := by decide
def v1_least_wrong_least_share_most_mistakes__law_words : List (Str × MF × List D) := [("least_wrong", D_least_wrong, []), ("least_share", D_least_share, []), ("most_mistakes", D_most_mistakes, [])]
def v2_wrong_guesser_paper_share_paper_mean_wrong_keeps_paper_forces_paper_always_paper_lot_of_sentence_sentence_text__law_words : List (Str × MF × List D) := [("wrong", D_wrong, []), ("guesser_paper", D_guesser_paper, []), ("share_paper", D_share_paper, []), ("mean_wrong", D_mean_wrong, []), ("keeps_paper", D_keeps_paper, []), ("forces_paper", D_forces_paper, []), ("always_paper", D_always_paper, []), ("lot_of_sentence", D_lot_of_sentence, []), ("sentence_text", D_sentence_text, [])]
def v3_is_share_paper_is_keeps_paper_is_forces_paper_true_of_settling__law_words : List (Str × MF × List D) := [("is_share_paper", D_is_share_paper, []), ("is_keeps_paper", D_is_keeps_paper, []), ("is_forces_paper", D_is_forces_paper, []), ("true_of", D_true_of, []), ("settling", D_settling, [])]
def g__law_words_e0 : XF := xcall D__law_named [] (consO (.e (xlam ct_law_caught (xcallV v2_wrong_guesser_paper_share_paper_mean_wrong_keeps_paper_forces_paper_always_paper_lot_of_sentence_sentence_text__law_words 6 (consO (.e (xvar 4)) (consO (.e (xvar 0)) (nilA)))))) (nilA))
def g__law_words_b1 : SF := sseq (sasg (pop (consO (.pk 3) (consO (.e (xlc [6] (ix (consA (xfz (xlst (consO (.e (xc (.glob "wrong"))) (consO (.e (xc (.glob "guesser_paper"))) (nilA))))) nilA) kAny) (aset 6) (xc (.bl true)) (g__law_words_e0))) nilA)) φAdd) (aset 3)) (sexpr (xmut (ckP "list" (pvar 3)) (consO (.e (xcall D__law_named [] (consO (.e (xlam ct_law_caught (xcall D_is_guesser_paper [] (consO (.e (xvar 4)) (consO (.e (xvar 0)) (consO (.e (xc .non)) (nilA))))))) (nilA)))) (nilA)) μAppend))
def g__law_words_e2 : XF := xcall D__law_named [] (consO (.e (xlam ct_law_caught (xcallV v1_least_wrong_least_share_most_mistakes__law_words 6 (consO (.e (xvar 4)) (nilA))))) (nilA))
def g__law_words_s3 : SF := sasg (pop (consO (.pk 3) (consO (.e (xlc [6] (ix (consA (xfz (xlst (consO (.e (xc (.glob "least_wrong"))) (consO (.e (xc (.glob "least_share"))) (consO (.e (xc (.glob "most_mistakes"))) (nilA)))))) nilA) kAny) (aset 6) (xc (.bl true)) (g__law_words_e2))) nilA)) φAdd) (aset 3)
def g__law_words_b4 : SF := sseq (g__law_words_s3) (sexpr (xmut (ckP "list" (pvar 3)) (consO (.e (xcall D__law_named [] (consO (.e (xlam ct_law_caught (xmake "School" D_School___init__ [] (consO (.e (xvar 4)) (nilA))))) (nilA)))) (nilA)) μAppend))
def g__law_words_e5 : XF := xcall D__law_named [] (consO (.e (xlam ct_law_caught (xcallV v2_wrong_guesser_paper_share_paper_mean_wrong_keeps_paper_forces_paper_always_paper_lot_of_sentence_sentence_text__law_words 6 (consO (.e (xvar 4)) (consO (.e (xvar 0)) (nilA)))))) (nilA))
def g__law_words_e6 : XF := xcall D__law_named [] (consO (.e (xlam ct_law_caught (xcallV v3_is_share_paper_is_keeps_paper_is_forces_paper_true_of_settling__law_words 6 (consO (.e (xvar 4)) (consO (.e (xvar 0)) (consO (.e (xc .non)) (nilA))))))) (nilA))
def g__law_words_s7 : SF := sasg (pop (consO (.pk 3) (consO (.e (xlc [6] (ix (consA (xfz (xlst (consO (.e (xc (.glob "is_share_paper"))) (consO (.e (xc (.glob "is_keeps_paper"))) (consO (.e (xc (.glob "is_forces_paper"))) (nilA)))))) nilA) kAny) (aset 6) (xc (.bl true)) (g__law_words_e6))) nilA)) φAdd) (aset 3)
def g__law_words_s8 : SF := sasg (pop (consO (.pk 3) (consO (.e (xlc [6] (ix (consA (xfz (xlst (consO (.e (xc (.glob "share_paper"))) (consO (.e (xc (.glob "mean_wrong"))) (consO (.e (xc (.glob "keeps_paper"))) (consO (.e (xc (.glob "forces_paper"))) (nilA))))))) nilA) kAny) (aset 6) (xc (.bl true)) (g__law_words_e5))) nilA)) φAdd) (aset 3)
def g__law_words_s9 : SF := sasg (pop (consO (.pk 3) (consO (.e (xlc [6] (ix (consA (xfz (xlst (consO (.e (xc (.glob "is_share_paper"))) (consO (.e (xc (.glob "is_keeps_paper"))) (consO (.e (xc (.glob "is_forces_paper"))) (nilA)))))) nilA) kAny) (aset 6) (xc (.bl true)) (g__law_words_e6))) nilA)) φAdd) (aset 3)
def g__law_words_e10 : XF := xcall D__law_named [] (consO (.e (xlam ct_law_caught (xcallV v3_is_share_paper_is_keeps_paper_is_forces_paper_true_of_settling__law_words 6 (consO (.e (xvar 4)) (consO (.e (xvar 5)) (consO (.e (xvar 0)) (nilA))))))) (nilA))
def g__law_words_b11 : SF := sasg (pop (consO (.pk 3) (consO (.e (xlc [6] (ix (consA (xfz (xlst (consO (.e (xc (.glob "true_of"))) (consO (.e (xc (.glob "settling"))) (nilA))))) nilA) kAny) (aset 6) (xc (.bl true)) (g__law_words_e10))) nilA)) φAdd) (aset 3)
def g__law_words_e12 : XF := xcall D__law_named [] (consO (.e (xlam ct_law_caught (xcallV v2_wrong_guesser_paper_share_paper_mean_wrong_keeps_paper_forces_paper_always_paper_lot_of_sentence_sentence_text__law_words 6 (consO (.e (xvar 0)) (consO (.e (xvar 0)) (nilA)))))) (nilA))
def g__law_words_e13 : XF := xcall D__law_named [] (consO (.e (xlam ct_law_caught (xcallV v2_wrong_guesser_paper_share_paper_mean_wrong_keeps_paper_forces_paper_always_paper_lot_of_sentence_sentence_text__law_words 6 (consO (.e (xc (.int 2))) (consO (.e (xvar 0)) (nilA)))))) (nilA))
def g__law_words_s14 : SF := sfor (ix (consA (xfz (xlst (consO (.e (xtup (consO (.e (xvar 0)) (consO (.e (xvar 0)) (nilA))))) (consO (.e (xtup (consO (.e (xvar 2)) (consO (.e (xvar 0)) (nilA))))) (consO (.e (xtup (consO (.e (xvar 2)) (consO (.e (xtup (consO (.e (xc (.str "is"))) (consO (.e (xc (.int 0))) (consO (.e (xc (.int 1))) (nilA)))))) (nilA))))) (nilA)))))) nilA) kAny) (atup [aset 4, aset 5]) (g__law_words_b11)
def g__law_words_s15 : SF := sasg (pop (consO (.pk 3) (consO (.e (xlc [6] (ix (consA (xfz (xlst (consO (.e (xc (.glob "always_paper"))) (consO (.e (xc (.glob "lot_of_sentence"))) (consO (.e (xc (.glob "sentence_text"))) (nilA)))))) nilA) kAny) (aset 6) (xc (.bl true)) (g__law_words_e12))) nilA)) φAdd) (aset 3)
def g__law_words : SF := sseq (sasg (xlst (consO (.e (xcall D__law_named [] (consO (.e (xlam ct_law_caught (xcall D_is_guesser [] (consO (.e (xvar 0)) (consO (.e (xvar 0)) (nilA)))))) (nilA)))) (nilA))) (aset 3)) (sseq (sfor (ix (consA (xfz (xlst (consO (.e (xvar 0)) (consO (.e (xvar 2)) (nilA))))) nilA) kAny) (aset 4) (g__law_words_b1)) (sseq (sfor (ix (consA (xfz (xlst (consO (.e (xvar 0)) (consO (.e (xvar 1)) (nilA))))) nilA) kAny) (aset 4) (g__law_words_b4)) (sseq (sfor (ix (consA (xfz (xlst (consO (.e (xvar 0)) (consO (.e (xvar 1)) (consO (.e (xvar 2)) (nilA)))))) nilA) kAny) (aset 4) (sseq (g__law_words_s8) (g__law_words_s7))) (sseq (g__law_words_s14) (sseq (g__law_words_s15) (sseq (sasg (pop (consO (.pk 3) (consO (.e (xlc [6] (ix (consA (xfz (xlst (consO (.e (xc (.glob "lot_of_sentence"))) (consO (.e (xc (.glob "sentence_text"))) (nilA))))) nilA) kAny) (aset 6) (xc (.bl true)) (g__law_words_e13))) nilA)) φAdd) (aset 3)) (sseq (sexpr (xmut (ckP "list" (pvar 3)) (consO (.e (xcall D__law_named [] (consO (.e (xlam ct_law_caught (xcall D_always_paper [] (consO (.e (xvar 2)) (consO (.e (xvar 0)) (nilA)))))) (nilA)))) (nilA)) μAppend)) (sret (pop (consO (.pk 3) (consO (.e (xlst (consO (.e (xcall D__law_named [] (consO (.e (xlam ct_law_caught (xcall D_school_text [] (consO (.e (xvar 0)) (nilA))))) (nilA)))) (nilA)))) nilA)) φAdd)))))))))
def D__law_words : MF := defn 3 4 false g__law_words
abbrev q__law_words : Str := (envOfC "_law_words" (defScope s__law_words) 0 0 .none).qual ++ "<lambda>"
theorem b__law_words (G : Gs P w K mg base) {c Pt : Addr} (hTB : LamX.TabB base mg c Pt) (hTm : (Pt, q__law_words) ∈ T) (hTu : ∀ p ∈ T, p.1 = Pt → p.2 = q__law_words) (h__law_named : FnD P w K mg base T 1 "_law_named" 1 false [] D__law_named) (h_always_paper : FnD P w K mg base T 5 "always_paper" 2 false [] D_always_paper) (h_is_guesser : FnD P w K mg base T 4 "is_guesser" 2 false [] D_is_guesser) (h_is_guesser_paper : FnD P w K mg base T 8 "is_guesser_paper" 3 false [] D_is_guesser_paper) (h_school_text : FnD P w K mg base T 1 "school_text" 1 false [] D_school_text) (hv_v1_least_wrong_least_share_most_mistakes : ∀ z ∈ v1_least_wrong_least_share_most_mistakes__law_words, ∃ n, FnD P w K mg base T 5 z.1 n false z.2.2 z.2.1 ∧ ∀ ds r o, z.2.1 ds = some (r, o) → ds.length = n) (hv_v2_wrong_guesser_paper_share_paper_mean_wrong_keeps_paper_forces_paper_always_paper_lot_of_sentence_sentence_text : ∀ z ∈ v2_wrong_guesser_paper_share_paper_mean_wrong_keeps_paper_forces_paper_always_paper_lot_of_sentence_sentence_text__law_words, ∃ n, FnD P w K mg base T 8 z.1 n false z.2.2 z.2.1 ∧ ∀ ds r o, z.2.1 ds = some (r, o) → ds.length = n) (hv_v3_is_share_paper_is_keeps_paper_is_forces_paper_true_of_settling : ∀ z ∈ v3_is_share_paper_is_keeps_paper_is_forces_paper_true_of_settling__law_words, ∃ n, FnD P w K mg base T 7 z.1 n false z.2.2 z.2.1 ∧ ∀ ds r o, z.2.1 ds = some (r, o) → ds.length = n) (hm_School : MakeD P w K mg base T 5 "School" 2 [] D_School___init__) : BodyRdC P w K mg base T N__law_words "_law_words" (defScope s__law_words) f c 10 false (defBody s__law_words) g__law_words := fun A outer s H E vs hr =>
  s_cons (s_asg (x_lst (px_cons (o := .e _) (x_e (x_call bodyOk h__law_named defn_len (hr.mono (by decide)) rfl (px_cons (o := .e _) (x_e (x_lamD (k := 4) G.ct_law_caught G.k_law_caught rfl hTB rfl hTm hTu (hr.mono (by decide)) (LamX.lamS_by (by kernel_rfl)) (fun A1 outer1 s1 H1 E1 f1 c1 hr1 => x_call (lam_ok A1 outer1 s1 H1 E1 _ f1 c1) h_is_guesser defn_len (hr1.mono (by decide)) rfl (px_cons (o := .e _) (x_e (x_var rfl vis)) (px_cons (o := .e _) (x_e (x_var rfl vis)) (px_nil)))))) (px_nil)))) (px_nil))) (g_name nd__law_words rfl loc (show 3 ∉ ([] : List Nat) by decide))) (s_cons (s_for bodyPass rfl (i_any (x_fz (x_lst (px_cons (o := .e _) (x_e (x_var rfl vis)) (px_cons (o := .e _) (x_e (x_var rfl vis)) (px_nil)))))) (g_name nd__law_words rfl loc (show 4 ∉ ([] : List Nat) by decide)) (s_cons (s_asg (x_bin (oa := .pk 3) (ob := .e (xlc [6] (ix (consA (xfz (xlst (consO (.e (xc (.glob "wrong"))) (consO (.e (xc (.glob "guesser_paper"))) (nilA))))) nilA) kAny) (aset 6) (xc (.bl true)) (g__law_words_e0))) op_addA ok_add (x_pk rfl vis) (x_e (x_lc (own := [("work", 6)]) bodyOk nd__law_words (i_any (x_fz (x_lst (px_cons (o := .e _) (x_e (x_glob rfl G.c_wrong)) (px_cons (o := .e _) (x_e (x_glob rfl G.c_guesser_paper)) (px_nil)))))) (blkOk_by (by kernel_rfl)) (fun s H L cl fp => g_name nd__law_words rfl loc (show 6 ∉ ([] : List Nat) by decide)) (fun s H L cl fp => t_ifs0) (fun s H L cl fp => x_call (Ctx.blkOk bodyOk) h__law_named defn_len (hr.mono (by decide)) rfl (px_cons (o := .e _) (x_e (x_lamD (k := 8) G.ct_law_caught G.k_law_caught rfl hTB rfl hTm hTu (hr.mono (by decide)) (LamX.lamS_by (by kernel_rfl)) (fun A1 outer1 s1 H1 E1 f1 c1 hr1 => x_callV (lam_ok A1 outer1 s1 H1 E1 _ f1 c1) hv_v2_wrong_guesser_paper_share_paper_mean_wrong_keeps_paper_forces_paper_always_paper_lot_of_sentence_sentence_text (hr1.mono (by decide)) rfl vis (px_cons (o := .e _) (x_e (x_var rfl vis)) (px_cons (o := .e _) (x_e (x_var rfl vis)) (px_nil)))))) (px_nil))) (by decide) (by decide) (show ∀ i ∈ ([] : List Nat), i ∉ ([6] : List Nat) by decide)))) (g_name nd__law_words rfl loc (show 3 ∉ ([] : List Nat) by decide))) (s_one (s_expr (x_mut1 (m := true) PySem.F.plainAttrs_list PySem.F.slot_list_append PySem.F.type_list_append mt_append ok_append base_v (p_var rfl vis) (px_cons (o := .e _) (x_e (x_call bodyOk h__law_named defn_len (hr.mono (by decide)) rfl (px_cons (o := .e _) (x_e (x_lamD (k := 8) G.ct_law_caught G.k_law_caught rfl hTB rfl hTm hTu (hr.mono (by decide)) (LamX.lamS_by (by kernel_rfl)) (fun A1 outer1 s1 H1 E1 f1 c1 hr1 => x_call (lam_ok A1 outer1 s1 H1 E1 _ f1 c1) h_is_guesser_paper defn_len (hr1.mono (by decide)) rfl (px_cons (o := .e _) (x_e (x_var rfl vis)) (px_cons (o := .e _) (x_e (x_var rfl vis)) (px_cons (o := .e _) (x_e (x_non)) (px_nil))))))) (px_nil)))) (px_nil))))))) (s_cons (s_for bodyPass rfl (i_any (x_fz (x_lst (px_cons (o := .e _) (x_e (x_var rfl vis)) (px_cons (o := .e _) (x_e (x_var rfl vis)) (px_nil)))))) (g_name nd__law_words rfl loc (show 4 ∉ ([] : List Nat) by decide)) (s_cons (s_asg (x_bin (oa := .pk 3) (ob := .e (xlc [6] (ix (consA (xfz (xlst (consO (.e (xc (.glob "least_wrong"))) (consO (.e (xc (.glob "least_share"))) (consO (.e (xc (.glob "most_mistakes"))) (nilA)))))) nilA) kAny) (aset 6) (xc (.bl true)) (g__law_words_e2))) op_addA ok_add (x_pk rfl vis) (x_e (x_lc (own := [("work", 6)]) bodyOk nd__law_words (i_any (x_fz (x_lst (px_cons (o := .e _) (x_e (x_glob rfl G.c_least_wrong)) (px_cons (o := .e _) (x_e (x_glob rfl G.c_least_share)) (px_cons (o := .e _) (x_e (x_glob rfl G.c_most_mistakes)) (px_nil))))))) (blkOk_by (by kernel_rfl)) (fun s H L cl fp => g_name nd__law_words rfl loc (show 6 ∉ ([] : List Nat) by decide)) (fun s H L cl fp => t_ifs0) (fun s H L cl fp => x_call (Ctx.blkOk bodyOk) h__law_named defn_len (hr.mono (by decide)) rfl (px_cons (o := .e _) (x_e (x_lamD (k := 8) G.ct_law_caught G.k_law_caught rfl hTB rfl hTm hTu (hr.mono (by decide)) (LamX.lamS_by (by kernel_rfl)) (fun A1 outer1 s1 H1 E1 f1 c1 hr1 => x_callV (lam_ok A1 outer1 s1 H1 E1 _ f1 c1) hv_v1_least_wrong_least_share_most_mistakes (hr1.mono (by decide)) rfl vis (px_cons (o := .e _) (x_e (x_var rfl vis)) (px_nil))))) (px_nil))) (by decide) (by decide) (show ∀ i ∈ ([] : List Nat), i ∉ ([6] : List Nat) by decide)))) (g_name nd__law_words rfl loc (show 3 ∉ ([] : List Nat) by decide))) (s_one (s_expr (x_mut1 (m := true) PySem.F.plainAttrs_list PySem.F.slot_list_append PySem.F.type_list_append mt_append ok_append base_v (p_var rfl vis) (px_cons (o := .e _) (x_e (x_call bodyOk h__law_named defn_len (hr.mono (by decide)) rfl (px_cons (o := .e _) (x_e (x_lamD (k := 8) G.ct_law_caught G.k_law_caught rfl hTB rfl hTm hTu (hr.mono (by decide)) (LamX.lamS_by (by kernel_rfl)) (fun A1 outer1 s1 H1 E1 f1 c1 hr1 => x_makeD (lam_ok A1 outer1 s1 H1 E1 _ f1 c1) hm_School defn_len (hr1.mono (by decide)) rfl (px_cons (o := .e _) (x_e (x_var rfl vis)) (px_nil))))) (px_nil)))) (px_nil))))))) (s_cons (s_for bodyPass rfl (i_any (x_fz (x_lst (px_cons (o := .e _) (x_e (x_var rfl vis)) (px_cons (o := .e _) (x_e (x_var rfl vis)) (px_cons (o := .e _) (x_e (x_var rfl vis)) (px_nil))))))) (g_name nd__law_words rfl loc (show 4 ∉ ([] : List Nat) by decide)) (s_cons (s_asg (x_bin (oa := .pk 3) (ob := .e (xlc [6] (ix (consA (xfz (xlst (consO (.e (xc (.glob "share_paper"))) (consO (.e (xc (.glob "mean_wrong"))) (consO (.e (xc (.glob "keeps_paper"))) (consO (.e (xc (.glob "forces_paper"))) (nilA))))))) nilA) kAny) (aset 6) (xc (.bl true)) (g__law_words_e5))) op_addA ok_add (x_pk rfl vis) (x_e (x_lc (own := [("work", 6)]) bodyOk nd__law_words (i_any (x_fz (x_lst (px_cons (o := .e _) (x_e (x_glob rfl G.c_share_paper)) (px_cons (o := .e _) (x_e (x_glob rfl G.c_mean_wrong)) (px_cons (o := .e _) (x_e (x_glob rfl G.c_keeps_paper)) (px_cons (o := .e _) (x_e (x_glob rfl G.c_forces_paper)) (px_nil)))))))) (blkOk_by (by kernel_rfl)) (fun s H L cl fp => g_name nd__law_words rfl loc (show 6 ∉ ([] : List Nat) by decide)) (fun s H L cl fp => t_ifs0) (fun s H L cl fp => x_call (Ctx.blkOk bodyOk) h__law_named defn_len (hr.mono (by decide)) rfl (px_cons (o := .e _) (x_e (x_lamD (k := 8) G.ct_law_caught G.k_law_caught rfl hTB rfl hTm hTu (hr.mono (by decide)) (LamX.lamS_by (by kernel_rfl)) (fun A1 outer1 s1 H1 E1 f1 c1 hr1 => x_callV (lam_ok A1 outer1 s1 H1 E1 _ f1 c1) hv_v2_wrong_guesser_paper_share_paper_mean_wrong_keeps_paper_forces_paper_always_paper_lot_of_sentence_sentence_text (hr1.mono (by decide)) rfl vis (px_cons (o := .e _) (x_e (x_var rfl vis)) (px_cons (o := .e _) (x_e (x_var rfl vis)) (px_nil)))))) (px_nil))) (by decide) (by decide) (show ∀ i ∈ ([] : List Nat), i ∉ ([6] : List Nat) by decide)))) (g_name nd__law_words rfl loc (show 3 ∉ ([] : List Nat) by decide))) (s_one (s_asg (x_bin (oa := .pk 3) (ob := .e (xlc [6] (ix (consA (xfz (xlst (consO (.e (xc (.glob "is_share_paper"))) (consO (.e (xc (.glob "is_keeps_paper"))) (consO (.e (xc (.glob "is_forces_paper"))) (nilA)))))) nilA) kAny) (aset 6) (xc (.bl true)) (g__law_words_e6))) op_addA ok_add (x_pk rfl vis) (x_e (x_lc (own := [("work", 6)]) bodyOk nd__law_words (i_any (x_fz (x_lst (px_cons (o := .e _) (x_e (x_glob rfl G.c_is_share_paper)) (px_cons (o := .e _) (x_e (x_glob rfl G.c_is_keeps_paper)) (px_cons (o := .e _) (x_e (x_glob rfl G.c_is_forces_paper)) (px_nil))))))) (blkOk_by (by kernel_rfl)) (fun s H L cl fp => g_name nd__law_words rfl loc (show 6 ∉ ([] : List Nat) by decide)) (fun s H L cl fp => t_ifs0) (fun s H L cl fp => x_call (Ctx.blkOk bodyOk) h__law_named defn_len (hr.mono (by decide)) rfl (px_cons (o := .e _) (x_e (x_lamD (k := 8) G.ct_law_caught G.k_law_caught rfl hTB rfl hTm hTu (hr.mono (by decide)) (LamX.lamS_by (by kernel_rfl)) (fun A1 outer1 s1 H1 E1 f1 c1 hr1 => x_callV (lam_ok A1 outer1 s1 H1 E1 _ f1 c1) hv_v3_is_share_paper_is_keeps_paper_is_forces_paper_true_of_settling (hr1.mono (by decide)) rfl vis (px_cons (o := .e _) (x_e (x_var rfl vis)) (px_cons (o := .e _) (x_e (x_var rfl vis)) (px_cons (o := .e _) (x_e (x_non)) (px_nil))))))) (px_nil))) (by decide) (by decide) (show ∀ i ∈ ([] : List Nat), i ∉ ([6] : List Nat) by decide)))) (g_name nd__law_words rfl loc (show 3 ∉ ([] : List Nat) by decide)))))) (s_cons (s_for bodyPass rfl (i_any (x_fz (x_lst (px_cons (o := .e _) (x_e (x_tup (px_cons (o := .e _) (x_e (x_var rfl vis)) (px_cons (o := .e _) (x_e (x_var rfl vis)) (px_nil))))) (px_cons (o := .e _) (x_e (x_tup (px_cons (o := .e _) (x_e (x_var rfl vis)) (px_cons (o := .e _) (x_e (x_var rfl vis)) (px_nil))))) (px_cons (o := .e _) (x_e (x_tup (px_cons (o := .e _) (x_e (x_var rfl vis)) (px_cons (o := .e _) (x_e (x_tup (px_cons (o := .e _) (x_e (x_str)) (px_cons (o := .e _) (x_e (x_int)) (px_cons (o := .e _) (x_e (x_int)) (px_nil)))))) (px_nil))))) (px_nil))))))) (g_tup rfl (gs_cons (g_name nd__law_words rfl loc (show 4 ∉ ([] : List Nat) by decide)) (gs_cons (g_name nd__law_words rfl loc (show 5 ∉ ([] : List Nat) by decide)) (gs_nil)))) (s_one (s_asg (x_bin (oa := .pk 3) (ob := .e (xlc [6] (ix (consA (xfz (xlst (consO (.e (xc (.glob "true_of"))) (consO (.e (xc (.glob "settling"))) (nilA))))) nilA) kAny) (aset 6) (xc (.bl true)) (g__law_words_e10))) op_addA ok_add (x_pk rfl vis) (x_e (x_lc (own := [("work", 6)]) bodyOk nd__law_words (i_any (x_fz (x_lst (px_cons (o := .e _) (x_e (x_glob rfl G.c_true_of)) (px_cons (o := .e _) (x_e (x_glob rfl G.c_settling)) (px_nil)))))) (blkOk_by (by kernel_rfl)) (fun s H L cl fp => g_name nd__law_words rfl loc (show 6 ∉ ([] : List Nat) by decide)) (fun s H L cl fp => t_ifs0) (fun s H L cl fp => x_call (Ctx.blkOk bodyOk) h__law_named defn_len (hr.mono (by decide)) rfl (px_cons (o := .e _) (x_e (x_lamD (k := 8) G.ct_law_caught G.k_law_caught rfl hTB rfl hTm hTu (hr.mono (by decide)) (LamX.lamS_by (by kernel_rfl)) (fun A1 outer1 s1 H1 E1 f1 c1 hr1 => x_callV (lam_ok A1 outer1 s1 H1 E1 _ f1 c1) hv_v3_is_share_paper_is_keeps_paper_is_forces_paper_true_of_settling (hr1.mono (by decide)) rfl vis (px_cons (o := .e _) (x_e (x_var rfl vis)) (px_cons (o := .e _) (x_e (x_var rfl vis)) (px_cons (o := .e _) (x_e (x_var rfl vis)) (px_nil))))))) (px_nil))) (by decide) (by decide) (show ∀ i ∈ ([] : List Nat), i ∉ ([6] : List Nat) by decide)))) (g_name nd__law_words rfl loc (show 3 ∉ ([] : List Nat) by decide))))) (s_cons (s_asg (x_bin (oa := .pk 3) (ob := .e (xlc [6] (ix (consA (xfz (xlst (consO (.e (xc (.glob "always_paper"))) (consO (.e (xc (.glob "lot_of_sentence"))) (consO (.e (xc (.glob "sentence_text"))) (nilA)))))) nilA) kAny) (aset 6) (xc (.bl true)) (g__law_words_e12))) op_addA ok_add (x_pk rfl vis) (x_e (x_lc (own := [("work", 6)]) bodyOk nd__law_words (i_any (x_fz (x_lst (px_cons (o := .e _) (x_e (x_glob rfl G.c_always_paper)) (px_cons (o := .e _) (x_e (x_glob rfl G.c_lot_of_sentence)) (px_cons (o := .e _) (x_e (x_glob rfl G.c_sentence_text)) (px_nil))))))) (blkOk_by (by kernel_rfl)) (fun s H L cl fp => g_name nd__law_words rfl loc (show 6 ∉ ([] : List Nat) by decide)) (fun s H L cl fp => t_ifs0) (fun s H L cl fp => x_call (Ctx.blkOk bodyOk) h__law_named defn_len (hr.mono (by decide)) rfl (px_cons (o := .e _) (x_e (x_lamD (k := 8) G.ct_law_caught G.k_law_caught rfl hTB rfl hTm hTu (hr.mono (by decide)) (LamX.lamS_by (by kernel_rfl)) (fun A1 outer1 s1 H1 E1 f1 c1 hr1 => x_callV (lam_ok A1 outer1 s1 H1 E1 _ f1 c1) hv_v2_wrong_guesser_paper_share_paper_mean_wrong_keeps_paper_forces_paper_always_paper_lot_of_sentence_sentence_text (hr1.mono (by decide)) rfl vis (px_cons (o := .e _) (x_e (x_var rfl vis)) (px_cons (o := .e _) (x_e (x_var rfl vis)) (px_nil)))))) (px_nil))) (by decide) (by decide) (show ∀ i ∈ ([] : List Nat), i ∉ ([6] : List Nat) by decide)))) (g_name nd__law_words rfl loc (show 3 ∉ ([] : List Nat) by decide))) (s_cons (s_asg (x_bin (oa := .pk 3) (ob := .e (xlc [6] (ix (consA (xfz (xlst (consO (.e (xc (.glob "lot_of_sentence"))) (consO (.e (xc (.glob "sentence_text"))) (nilA))))) nilA) kAny) (aset 6) (xc (.bl true)) (g__law_words_e13))) op_addA ok_add (x_pk rfl vis) (x_e (x_lc (own := [("work", 6)]) bodyOk nd__law_words (i_any (x_fz (x_lst (px_cons (o := .e _) (x_e (x_glob rfl G.c_lot_of_sentence)) (px_cons (o := .e _) (x_e (x_glob rfl G.c_sentence_text)) (px_nil)))))) (blkOk_by (by kernel_rfl)) (fun s H L cl fp => g_name nd__law_words rfl loc (show 6 ∉ ([] : List Nat) by decide)) (fun s H L cl fp => t_ifs0) (fun s H L cl fp => x_call (Ctx.blkOk bodyOk) h__law_named defn_len (hr.mono (by decide)) rfl (px_cons (o := .e _) (x_e (x_lamD (k := 8) G.ct_law_caught G.k_law_caught rfl hTB rfl hTm hTu (hr.mono (by decide)) (LamX.lamS_by (by kernel_rfl)) (fun A1 outer1 s1 H1 E1 f1 c1 hr1 => x_callV (lam_ok A1 outer1 s1 H1 E1 _ f1 c1) hv_v2_wrong_guesser_paper_share_paper_mean_wrong_keeps_paper_forces_paper_always_paper_lot_of_sentence_sentence_text (hr1.mono (by decide)) rfl vis (px_cons (o := .e _) (x_e (x_int)) (px_cons (o := .e _) (x_e (x_var rfl vis)) (px_nil)))))) (px_nil))) (by decide) (by decide) (show ∀ i ∈ ([] : List Nat), i ∉ ([6] : List Nat) by decide)))) (g_name nd__law_words rfl loc (show 3 ∉ ([] : List Nat) by decide))) (s_cons (s_expr (x_mut1 (m := true) PySem.F.plainAttrs_list PySem.F.slot_list_append PySem.F.type_list_append mt_append ok_append base_v (p_var rfl vis) (px_cons (o := .e _) (x_e (x_call bodyOk h__law_named defn_len (hr.mono (by decide)) rfl (px_cons (o := .e _) (x_e (x_lamD (k := 8) G.ct_law_caught G.k_law_caught rfl hTB rfl hTm hTu (hr.mono (by decide)) (LamX.lamS_by (by kernel_rfl)) (fun A1 outer1 s1 H1 E1 f1 c1 hr1 => x_call (lam_ok A1 outer1 s1 H1 E1 _ f1 c1) h_always_paper defn_len (hr1.mono (by decide)) rfl (px_cons (o := .e _) (x_e (x_var rfl vis)) (px_cons (o := .e _) (x_e (x_var rfl vis)) (px_nil)))))) (px_nil)))) (px_nil)))) (s_one (s_ret (x_bin (oa := .pk 3) (ob := .e (xlst (consO (.e (xcall D__law_named [] (consO (.e (xlam ct_law_caught (xcall D_school_text [] (consO (.e (xvar 0)) (nilA))))) (nilA)))) (nilA)))) op_addA ok_add (x_pk rfl vis) (x_e (x_lst (px_cons (o := .e _) (x_e (x_call bodyOk h__law_named defn_len (hr.mono (by decide)) rfl (px_cons (o := .e _) (x_e (x_lamD (k := 8) G.ct_law_caught G.k_law_caught rfl hTB rfl hTm hTu (hr.mono (by decide)) (LamX.lamS_by (by kernel_rfl)) (fun A1 outer1 s1 H1 E1 f1 c1 hr1 => x_call (lam_ok A1 outer1 s1 H1 E1 _ f1 c1) h_school_text defn_len (hr1.mono (by decide)) rfl (px_cons (o := .e _) (x_e (x_var rfl vis)) (px_nil))))) (px_nil)))) (px_nil))))))))))))))
abbrev s_law : Stmt := top 126
abbrev N_law : List Str := ["script", "tape", "due", "odd", "empty", "one"]
theorem nd_law : N_law.Nodup := by decide
def g_law_s0 : SF := sret (pop (consO (.e (xcall D__law_words [] (consO (.e (xvar 3)) (consO (.e (xvar 4)) (consO (.e (xvar 5)) (nilA)))))) (consO (.e (pop (consO (.pk 2) (consO (.e (xlst (consO (.e (xc (.str "lot"))) (consO (.e (xc (.str "places"))) (consO (.e (xc (.str "places"))) (consO (.e (xc (.str "sentence"))) (consO (.e (xc (.str "sentence"))) (consO (.e (xc (.str "sentence"))) (consO (.e (xc (.str "school"))) (nilA)))))))))) nilA)) φAdd)) (nilA))) φEqA)
def g_law_s1 : SF := spar3 3 4 5 (consO (.e (xcallR D__law_pick 1 (consO (.e (xlst (consO (.e (xc .non)) (consO (.e (xc (.str "x"))) (consO (.e (xtup (consO (.e (xc .non)) (nilA)))) (consO (.e (xc (.int 9))) (nilA))))))) (nilA)))) (consO (.e (xmake "Lot" D_Lot___init__ [] (consO (.e (xc (.int 2))) (consO (.e (xlst (nilA))) (nilA))))) (consO (.e (xmake "Lot" D_Lot___init__ [] (consO (.e (xc (.int 2))) (consO (.e (xlst (consO (.e (xtup (consO (.e (xc (.int 0))) (consO (.e (xc (.int 0))) (nilA))))) (consO (.e (xtup (consO (.e (xc (.int 0))) (consO (.e (xc (.int 1))) (nilA))))) (consO (.e (xtup (consO (.e (xc (.int 1))) (consO (.e (xc (.int 0))) (nilA))))) (nilA)))))) (nilA))))) (nilA))))
def g_law_s2 : SF := sasg (pop (consO (.e (pop (consO (.e (pop (consO (.e (pop (consO (.e (pop (consO (.e (pop (consO (.e (xlst (consO (.e (xc (.str "lot"))) (nilA)))) (consO (.e (xc (.int 4))) nilA)) φMulB)) (consO (.e (xlst (consO (.e (xc (.str "guesser"))) (consO (.e (xc (.str "bounds"))) (consO (.e (xc (.str "bounds"))) (nilA)))))) nilA)) φAdd)) (consO (.e (pop (consO (.e (xlst (consO (.e (xc (.str "lot"))) (nilA)))) (consO (.e (xc (.int 4))) nilA)) φMulB)) nilA)) φAdd)) (consO (.e (pop (consO (.e (xlst (consO (.e (xc (.str "rows"))) (nilA)))) (consO (.e (xc (.int 4))) nilA)) φMulB)) nilA)) φAdd)) (consO (.e (pop (consO (.e (xlst (consO (.e (xc (.str "lot"))) (nilA)))) (consO (.e (xc (.int 7))) nilA)) φMulB)) nilA)) φAdd)) (consO (.e (pop (consO (.e (xlst (consO (.e (xc (.str "rows"))) (nilA)))) (consO (.e (xc (.int 7))) nilA)) φMulB)) nilA)) φAdd) (aset 2)
def g_law_s3 : SF := sasg (pop (consO (.e (pop (consO (.e (pop (consO (.e (pop (consO (.pk 2) (consO (.e (xlst (consO (.e (xc (.str "share"))) (consO (.e (xc (.str "share"))) (consO (.e (xc (.str "number"))) (consO (.e (xc (.str "number"))) (consO (.e (xc (.str "share"))) (consO (.e (xc (.str "number"))) (consO (.e (xc (.str "number"))) (nilA)))))))))) nilA)) φAdd)) (consO (.e (pop (consO (.e (xlst (consO (.e (xc (.str "lot"))) (nilA)))) (consO (.e (xc (.int 2))) nilA)) φMulB)) nilA)) φAdd)) (consO (.e (pop (consO (.e (xlst (consO (.e (xc (.str "sentence"))) (nilA)))) (consO (.e (xc (.int 2))) nilA)) φMulB)) nilA)) φAdd)) (consO (.e (pop (consO (.e (xlst (consO (.e (xc (.str "row"))) (nilA)))) (consO (.e (xc (.int 2))) nilA)) φMulB)) nilA)) φAdd) (aset 2)
def g_law_s4 : SF := sret (pop (consO (.e (xcall D__law_words [] (consO (.e (xvar 3)) (consO (.e (xvar 4)) (consO (.e (xvar 5)) (nilA)))))) (consO (.e (pop (consO (.pk 2) (consO (.e (xlst (consO (.e (xc (.str "lot"))) (consO (.e (xc (.str "places"))) (consO (.e (xc (.str "places"))) (consO (.e (xc (.str "sentence"))) (consO (.e (xc (.str "sentence"))) (consO (.e (xc (.str "sentence"))) (consO (.e (xc (.str "school"))) (nilA)))))))))) nilA)) φAdd)) (nilA))) φEqA)
def g_law : SF := sseq (sasg (xcall D__law_begun [] (consO (.e (xvar 0)) (nilA))) (aset 1)) (sseq (g_law_s1) (sseq (g_law_s2) (sseq (g_law_s3) (g_law_s0))))
def D_law : MF := defn 1 5 false g_law
theorem b_law (G : Gs P w K mg base) (h__law_begun : FnD P w K mg base T 1 "_law_begun" 1 false [] D__law_begun) (h__law_pick : FnD P w K mg base T 3 "_law_pick" 2 true [] D__law_pick) (h__law_words : FnD P w K mg base T 11 "_law_words" 3 false [] D__law_words) (hm_Lot : MakeD P w K mg base T 6 "Lot" 3 [] D_Lot___init__) : BodyRd P w K mg base T N_law "law" (defScope s_law) f 11 false (defBody s_law) g_law := fun cdv A outer s H E vs hr =>
  s_cons (s_asg (x_call bodyOk h__law_begun defn_len (hr.mono (by decide)) rfl (px_cons (o := .e _) (x_e (x_var rfl vis)) (px_nil))) (g_name nd_law rfl loc (show 1 ∉ ([] : List Nat) by decide))) (s_cons (s_par3 bodyOk nd_law rfl rfl rfl (by decide) (by decide) (by decide) (show 3 ∉ ([] : List Nat) by decide) (show 4 ∉ ([] : List Nat) by decide) (show 5 ∉ ([] : List Nat) by decide) rfl rfl rfl (px_cons (o := .e _) (x_e (x_callR bodyOk h__law_pick defn_len (hr.mono (by decide)) rfl rfl vis (px_cons (o := .e _) (x_e (x_lst (px_cons (o := .e _) (x_e (x_non)) (px_cons (o := .e _) (x_e (x_str)) (px_cons (o := .e _) (x_e (x_tup (px_cons (o := .e _) (x_e (x_non)) (px_nil)))) (px_cons (o := .e _) (x_e (x_int)) (px_nil))))))) (px_nil)))) (px_cons (o := .e _) (x_e (x_makeD bodyOk hm_Lot defn_len (hr.mono (by decide)) rfl (px_cons (o := .e _) (x_e (x_int)) (px_cons (o := .e _) (x_e (x_lst (px_nil))) (px_nil))))) (px_cons (o := .e _) (x_e (x_makeD bodyOk hm_Lot defn_len (hr.mono (by decide)) rfl (px_cons (o := .e _) (x_e (x_int)) (px_cons (o := .e _) (x_e (x_lst (px_cons (o := .e _) (x_e (x_tup (px_cons (o := .e _) (x_e (x_int)) (px_cons (o := .e _) (x_e (x_int)) (px_nil))))) (px_cons (o := .e _) (x_e (x_tup (px_cons (o := .e _) (x_e (x_int)) (px_cons (o := .e _) (x_e (x_int)) (px_nil))))) (px_cons (o := .e _) (x_e (x_tup (px_cons (o := .e _) (x_e (x_int)) (px_cons (o := .e _) (x_e (x_int)) (px_nil))))) (px_nil)))))) (px_nil))))) (px_nil)))) rfl) (s_cons (s_asg (x_bin (oa := .e (pop (consO (.e (pop (consO (.e (pop (consO (.e (pop (consO (.e (pop (consO (.e (xlst (consO (.e (xc (.str "lot"))) (nilA)))) (consO (.e (xc (.int 4))) nilA)) φMulB)) (consO (.e (xlst (consO (.e (xc (.str "guesser"))) (consO (.e (xc (.str "bounds"))) (consO (.e (xc (.str "bounds"))) (nilA)))))) nilA)) φAdd)) (consO (.e (pop (consO (.e (xlst (consO (.e (xc (.str "lot"))) (nilA)))) (consO (.e (xc (.int 4))) nilA)) φMulB)) nilA)) φAdd)) (consO (.e (pop (consO (.e (xlst (consO (.e (xc (.str "rows"))) (nilA)))) (consO (.e (xc (.int 4))) nilA)) φMulB)) nilA)) φAdd)) (consO (.e (pop (consO (.e (xlst (consO (.e (xc (.str "lot"))) (nilA)))) (consO (.e (xc (.int 7))) nilA)) φMulB)) nilA)) φAdd)) (ob := .e (pop (consO (.e (xlst (consO (.e (xc (.str "rows"))) (nilA)))) (consO (.e (xc (.int 7))) nilA)) φMulB)) op_addA ok_add (x_e (x_bin (oa := .e (pop (consO (.e (pop (consO (.e (pop (consO (.e (pop (consO (.e (xlst (consO (.e (xc (.str "lot"))) (nilA)))) (consO (.e (xc (.int 4))) nilA)) φMulB)) (consO (.e (xlst (consO (.e (xc (.str "guesser"))) (consO (.e (xc (.str "bounds"))) (consO (.e (xc (.str "bounds"))) (nilA)))))) nilA)) φAdd)) (consO (.e (pop (consO (.e (xlst (consO (.e (xc (.str "lot"))) (nilA)))) (consO (.e (xc (.int 4))) nilA)) φMulB)) nilA)) φAdd)) (consO (.e (pop (consO (.e (xlst (consO (.e (xc (.str "rows"))) (nilA)))) (consO (.e (xc (.int 4))) nilA)) φMulB)) nilA)) φAdd)) (ob := .e (pop (consO (.e (xlst (consO (.e (xc (.str "lot"))) (nilA)))) (consO (.e (xc (.int 7))) nilA)) φMulB)) op_addA ok_add (x_e (x_bin (oa := .e (pop (consO (.e (pop (consO (.e (pop (consO (.e (xlst (consO (.e (xc (.str "lot"))) (nilA)))) (consO (.e (xc (.int 4))) nilA)) φMulB)) (consO (.e (xlst (consO (.e (xc (.str "guesser"))) (consO (.e (xc (.str "bounds"))) (consO (.e (xc (.str "bounds"))) (nilA)))))) nilA)) φAdd)) (consO (.e (pop (consO (.e (xlst (consO (.e (xc (.str "lot"))) (nilA)))) (consO (.e (xc (.int 4))) nilA)) φMulB)) nilA)) φAdd)) (ob := .e (pop (consO (.e (xlst (consO (.e (xc (.str "rows"))) (nilA)))) (consO (.e (xc (.int 4))) nilA)) φMulB)) op_addA ok_add (x_e (x_bin (oa := .e (pop (consO (.e (pop (consO (.e (xlst (consO (.e (xc (.str "lot"))) (nilA)))) (consO (.e (xc (.int 4))) nilA)) φMulB)) (consO (.e (xlst (consO (.e (xc (.str "guesser"))) (consO (.e (xc (.str "bounds"))) (consO (.e (xc (.str "bounds"))) (nilA)))))) nilA)) φAdd)) (ob := .e (pop (consO (.e (xlst (consO (.e (xc (.str "lot"))) (nilA)))) (consO (.e (xc (.int 4))) nilA)) φMulB)) op_addA ok_add (x_e (x_bin (oa := .e (pop (consO (.e (xlst (consO (.e (xc (.str "lot"))) (nilA)))) (consO (.e (xc (.int 4))) nilA)) φMulB)) (ob := .e (xlst (consO (.e (xc (.str "guesser"))) (consO (.e (xc (.str "bounds"))) (consO (.e (xc (.str "bounds"))) (nilA)))))) op_addA ok_add (x_e (x_bin (oa := .e (xlst (consO (.e (xc (.str "lot"))) (nilA)))) (ob := .e (xc (.int 4))) op_mulB ok_mulB (x_e (x_lst (px_cons (o := .e _) (x_e (x_str)) (px_nil)))) (x_e (x_int)))) (x_e (x_lst (px_cons (o := .e _) (x_e (x_str)) (px_cons (o := .e _) (x_e (x_str)) (px_cons (o := .e _) (x_e (x_str)) (px_nil)))))))) (x_e (x_bin (oa := .e (xlst (consO (.e (xc (.str "lot"))) (nilA)))) (ob := .e (xc (.int 4))) op_mulB ok_mulB (x_e (x_lst (px_cons (o := .e _) (x_e (x_str)) (px_nil)))) (x_e (x_int)))))) (x_e (x_bin (oa := .e (xlst (consO (.e (xc (.str "rows"))) (nilA)))) (ob := .e (xc (.int 4))) op_mulB ok_mulB (x_e (x_lst (px_cons (o := .e _) (x_e (x_str)) (px_nil)))) (x_e (x_int)))))) (x_e (x_bin (oa := .e (xlst (consO (.e (xc (.str "lot"))) (nilA)))) (ob := .e (xc (.int 7))) op_mulB ok_mulB (x_e (x_lst (px_cons (o := .e _) (x_e (x_str)) (px_nil)))) (x_e (x_int)))))) (x_e (x_bin (oa := .e (xlst (consO (.e (xc (.str "rows"))) (nilA)))) (ob := .e (xc (.int 7))) op_mulB ok_mulB (x_e (x_lst (px_cons (o := .e _) (x_e (x_str)) (px_nil)))) (x_e (x_int))))) (g_name nd_law rfl loc (show 2 ∉ ([] : List Nat) by decide))) (s_cons (s_asg (x_bin (oa := .e (pop (consO (.e (pop (consO (.e (pop (consO (.pk 2) (consO (.e (xlst (consO (.e (xc (.str "share"))) (consO (.e (xc (.str "share"))) (consO (.e (xc (.str "number"))) (consO (.e (xc (.str "number"))) (consO (.e (xc (.str "share"))) (consO (.e (xc (.str "number"))) (consO (.e (xc (.str "number"))) (nilA)))))))))) nilA)) φAdd)) (consO (.e (pop (consO (.e (xlst (consO (.e (xc (.str "lot"))) (nilA)))) (consO (.e (xc (.int 2))) nilA)) φMulB)) nilA)) φAdd)) (consO (.e (pop (consO (.e (xlst (consO (.e (xc (.str "sentence"))) (nilA)))) (consO (.e (xc (.int 2))) nilA)) φMulB)) nilA)) φAdd)) (ob := .e (pop (consO (.e (xlst (consO (.e (xc (.str "row"))) (nilA)))) (consO (.e (xc (.int 2))) nilA)) φMulB)) op_addA ok_add (x_e (x_bin (oa := .e (pop (consO (.e (pop (consO (.pk 2) (consO (.e (xlst (consO (.e (xc (.str "share"))) (consO (.e (xc (.str "share"))) (consO (.e (xc (.str "number"))) (consO (.e (xc (.str "number"))) (consO (.e (xc (.str "share"))) (consO (.e (xc (.str "number"))) (consO (.e (xc (.str "number"))) (nilA)))))))))) nilA)) φAdd)) (consO (.e (pop (consO (.e (xlst (consO (.e (xc (.str "lot"))) (nilA)))) (consO (.e (xc (.int 2))) nilA)) φMulB)) nilA)) φAdd)) (ob := .e (pop (consO (.e (xlst (consO (.e (xc (.str "sentence"))) (nilA)))) (consO (.e (xc (.int 2))) nilA)) φMulB)) op_addA ok_add (x_e (x_bin (oa := .e (pop (consO (.pk 2) (consO (.e (xlst (consO (.e (xc (.str "share"))) (consO (.e (xc (.str "share"))) (consO (.e (xc (.str "number"))) (consO (.e (xc (.str "number"))) (consO (.e (xc (.str "share"))) (consO (.e (xc (.str "number"))) (consO (.e (xc (.str "number"))) (nilA)))))))))) nilA)) φAdd)) (ob := .e (pop (consO (.e (xlst (consO (.e (xc (.str "lot"))) (nilA)))) (consO (.e (xc (.int 2))) nilA)) φMulB)) op_addA ok_add (x_e (x_bin (oa := .pk 2) (ob := .e (xlst (consO (.e (xc (.str "share"))) (consO (.e (xc (.str "share"))) (consO (.e (xc (.str "number"))) (consO (.e (xc (.str "number"))) (consO (.e (xc (.str "share"))) (consO (.e (xc (.str "number"))) (consO (.e (xc (.str "number"))) (nilA)))))))))) op_addA ok_add (x_pk rfl vis) (x_e (x_lst (px_cons (o := .e _) (x_e (x_str)) (px_cons (o := .e _) (x_e (x_str)) (px_cons (o := .e _) (x_e (x_str)) (px_cons (o := .e _) (x_e (x_str)) (px_cons (o := .e _) (x_e (x_str)) (px_cons (o := .e _) (x_e (x_str)) (px_cons (o := .e _) (x_e (x_str)) (px_nil)))))))))))) (x_e (x_bin (oa := .e (xlst (consO (.e (xc (.str "lot"))) (nilA)))) (ob := .e (xc (.int 2))) op_mulB ok_mulB (x_e (x_lst (px_cons (o := .e _) (x_e (x_str)) (px_nil)))) (x_e (x_int)))))) (x_e (x_bin (oa := .e (xlst (consO (.e (xc (.str "sentence"))) (nilA)))) (ob := .e (xc (.int 2))) op_mulB ok_mulB (x_e (x_lst (px_cons (o := .e _) (x_e (x_str)) (px_nil)))) (x_e (x_int)))))) (x_e (x_bin (oa := .e (xlst (consO (.e (xc (.str "row"))) (nilA)))) (ob := .e (xc (.int 2))) op_mulB ok_mulB (x_e (x_lst (px_cons (o := .e _) (x_e (x_str)) (px_nil)))) (x_e (x_int))))) (g_name nd_law rfl loc (show 2 ∉ ([] : List Nat) by decide))) (s_one (s_ret (x_cmp (oa := .e (xcall D__law_words [] (consO (.e (xvar 3)) (consO (.e (xvar 4)) (consO (.e (xvar 5)) (nilA)))))) (ob := .e (pop (consO (.pk 2) (consO (.e (xlst (consO (.e (xc (.str "lot"))) (consO (.e (xc (.str "places"))) (consO (.e (xc (.str "places"))) (consO (.e (xc (.str "sentence"))) (consO (.e (xc (.str "sentence"))) (consO (.e (xc (.str "sentence"))) (consO (.e (xc (.str "school"))) (nilA)))))))))) nilA)) φAdd)) (op_eqA (ru hr (by decide))) (ok_eqA) (x_e (x_call bodyOk h__law_words defn_len (hr.mono (by decide)) rfl (px_cons (o := .e _) (x_e (x_var rfl vis)) (px_cons (o := .e _) (x_e (x_var rfl vis)) (px_cons (o := .e _) (x_e (x_var rfl vis)) (px_nil)))))) (x_e (x_bin (oa := .pk 2) (ob := .e (xlst (consO (.e (xc (.str "lot"))) (consO (.e (xc (.str "places"))) (consO (.e (xc (.str "places"))) (consO (.e (xc (.str "sentence"))) (consO (.e (xc (.str "sentence"))) (consO (.e (xc (.str "sentence"))) (consO (.e (xc (.str "school"))) (nilA)))))))))) op_addA ok_add (x_pk rfl vis) (x_e (x_lst (px_cons (o := .e _) (x_e (x_str)) (px_cons (o := .e _) (x_e (x_str)) (px_cons (o := .e _) (x_e (x_str)) (px_cons (o := .e _) (x_e (x_str)) (px_cons (o := .e _) (x_e (x_str)) (px_cons (o := .e _) (x_e (x_str)) (px_cons (o := .e _) (x_e (x_str)) (px_nil)))))))))))) (nomark _)))))))
end K10

namespace K10
open PySem PySem.Spec PyProof.Rows L2 DL
def z_0 : DefZ := ⟨fun K => He.fAd K ("_law_begun", none), "_law_begun", "_law_begun", defArgs s__law_begun, defBody s__law_begun, defScope s__law_begun, [], []⟩
def z_1 : DefZ := ⟨fun K => He.fAd K ("_law_blend", none), "_law_blend", "_law_blend", defArgs s__law_blend, defBody s__law_blend, defScope s__law_blend, [], []⟩
def z_2 : DefZ := ⟨fun K => He.fAd K ("_law_draw", none), "_law_draw", "_law_draw", defArgs s__law_draw, defBody s__law_draw, defScope s__law_draw, [], []⟩
def z_3 : DefZ := ⟨fun K => He.fAd K ("_law_pick", none), "_law_pick", "_law_pick", defArgs s__law_pick, defBody s__law_pick, defScope s__law_pick, [], []⟩
def z_4 : DefZ := ⟨fun K => He.fAd K ("is_list", none), "is_list", "is_list", defArgs s_is_list, defBody s_is_list, defScope s_is_list, [], []⟩
def z_5 : DefZ := ⟨fun K => He.fAd K ("is_number", none), "is_number", "is_number", defArgs s_is_number, defBody s_is_number, defScope s_is_number, [], []⟩
def z_6 : DefZ := ⟨fun K => He.fAd K ("is_between", none), "is_between", "is_between", defArgs s_is_between, defBody s_is_between, defScope s_is_between, [], []⟩
def z_7 : DefZ := ⟨fun K => He.fAd K ("is_tuple_of", none), "is_tuple_of", "is_tuple_of", defArgs s_is_tuple_of, defBody s_is_tuple_of, defScope s_is_tuple_of, [], []⟩
def z_8 : DefZ := ⟨fun K => He.fAd K ("is_row", none), "is_row", "is_row", defArgs s_is_row, defBody s_is_row, defScope s_is_row, [], []⟩
def z_9 : DefZ := ⟨fun K => He.fAd K ("need_rows", none), "need_rows", "need_rows", defArgs s_need_rows, defBody s_need_rows, defScope s_need_rows, [], []⟩
def z_10 : DefZ := ⟨fun K => He.fAd K ("Lot", some "__init__"), "__init__", "Lot.__init__", defArgs s_Lot___init__, defBody s_Lot___init__, defScope s_Lot___init__, [], []⟩
def z_11 : DefZ := ⟨fun K => He.fAd K ("_law_named", none), "_law_named", "_law_named", defArgs s__law_named, defBody s__law_named, defScope s__law_named, [], []⟩
def z_12 : DefZ := ⟨fun K => He.fAd K ("need_lot", none), "need_lot", "need_lot", defArgs s_need_lot, defBody s_need_lot, defScope s_need_lot, [.non], []⟩
def z_13 : DefZ := ⟨fun K => He.fAd K ("sentence_right", none), "sentence_right", "sentence_right", defArgs s_sentence_right, defBody s_sentence_right, defScope s_sentence_right, [], []⟩
def z_14 : DefZ := ⟨fun K => He.fAd K ("need_sentence", none), "need_sentence", "need_sentence", defArgs s_need_sentence, defBody s_need_sentence, defScope s_need_sentence, [], []⟩
def z_15 : DefZ := ⟨fun K => gAd K "Lot" "places", "places", "Lot.places", defArgs s_Lot_places, defBody s_Lot_places, defScope s_Lot_places, [], []⟩
def z_16 : DefZ := ⟨fun K => He.fAd K ("always_paper", none), "always_paper", "always_paper", defArgs s_always_paper, defBody s_always_paper, defScope s_always_paper, [], []⟩
def z_17 : DefZ := ⟨fun K => He.fAd K ("need_place_count", none), "need_place_count", "need_place_count", defArgs s_need_place_count, defBody s_need_place_count, defScope s_need_place_count, [], []⟩
def z_18 : DefZ := ⟨fun K => He.fAd K ("lot_of_sentence", none), "lot_of_sentence", "lot_of_sentence", defArgs s_lot_of_sentence, defBody s_lot_of_sentence, defScope s_lot_of_sentence, [], []⟩
def z_19 : DefZ := ⟨fun K => He.fAd K ("sentence_text", none), "sentence_text", "sentence_text", defArgs s_sentence_text, defBody s_sentence_text, defScope s_sentence_text, [], []⟩
def z_20 : DefZ := ⟨fun K => He.fAd K ("is_guesser", none), "is_guesser", "is_guesser", defArgs s_is_guesser, defBody s_is_guesser, defScope s_is_guesser, [], []⟩
def z_21 : DefZ := ⟨fun K => He.fAd K ("is_edge", none), "is_edge", "is_edge", defArgs s_is_edge, defBody s_is_edge, defScope s_is_edge, [], []⟩
def z_22 : DefZ := ⟨fun K => He.fAd K ("guesses_right", none), "guesses_right", "guesses_right", defArgs s_guesses_right, defBody s_guesses_right, defScope s_guesses_right, [], []⟩
def z_23 : DefZ := ⟨fun K => gAd K "Lot" "rows", "rows", "Lot.rows", defArgs s_Lot_rows, defBody s_Lot_rows, defScope s_Lot_rows, [], []⟩
def z_24 : DefZ := ⟨fun K => He.fAd K ("Lot", some "has"), "has", "Lot.has", defArgs s_Lot_has, defBody s_Lot_has, defScope s_Lot_has, [], []⟩
def z_25 : DefZ := ⟨fun K => He.fAd K ("filled", none), "filled", "filled", defArgs s_filled, defBody s_filled, defScope s_filled, [], []⟩
def z_26 : DefZ := ⟨fun K => He.fAd K ("edges_of", none), "edges_of", "edges_of", defArgs s_edges_of, defBody s_edges_of, defScope s_edges_of, [], []⟩
def z_27 : DefZ := ⟨fun K => He.fAd K ("wrong", none), "wrong", "wrong", defArgs s_wrong, defBody s_wrong, defScope s_wrong, [], []⟩
def z_28 : DefZ := ⟨fun K => He.fAd K ("bounds_right", none), "bounds_right", "bounds_right", defArgs s_bounds_right, defBody s_bounds_right, defScope s_bounds_right, [], []⟩
def z_29 : DefZ := ⟨fun K => He.fAd K ("need_bounds", none), "need_bounds", "need_bounds", defArgs s_need_bounds, defBody s_need_bounds, defScope s_need_bounds, [], []⟩
def z_30 : DefZ := ⟨fun K => He.fAd K ("guesser_paper", none), "guesser_paper", "guesser_paper", defArgs s_guesser_paper, defBody s_guesser_paper, defScope s_guesser_paper, [], []⟩
def z_31 : DefZ := ⟨fun K => He.fAd K ("need_rowed", none), "need_rowed", "need_rowed", defArgs s_need_rowed, defBody s_need_rowed, defScope s_need_rowed, [], []⟩
def z_32 : DefZ := ⟨fun K => He.fAd K ("least_wrong", none), "least_wrong", "least_wrong", defArgs s_least_wrong, defBody s_least_wrong, defScope s_least_wrong, [], []⟩
def z_33 : DefZ := ⟨fun K => He.fAd K ("least_share", none), "least_share", "least_share", defArgs s_least_share, defBody s_least_share, defScope s_least_share, [], []⟩
def z_34 : DefZ := ⟨fun K => He.fAd K ("most_mistakes", none), "most_mistakes", "most_mistakes", defArgs s_most_mistakes, defBody s_most_mistakes, defScope s_most_mistakes, [], []⟩
def z_35 : DefZ := ⟨fun K => He.fAd K ("is_bound", none), "is_bound", "is_bound", defArgs s_is_bound, defBody s_is_bound, defScope s_is_bound, [], []⟩
def z_36 : DefZ := ⟨fun K => He.fAd K ("need_share", none), "need_share", "need_share", defArgs s_need_share, defBody s_need_share, defScope s_need_share, [], []⟩
def z_37 : DefZ := ⟨fun K => He.fAd K ("share_paper", none), "share_paper", "share_paper", defArgs s_share_paper, defBody s_share_paper, defScope s_share_paper, [], []⟩
def z_38 : DefZ := ⟨fun K => He.fAd K ("divisor_of", none), "divisor_of", "divisor_of", defArgs s_divisor_of, defBody s_divisor_of, defScope s_divisor_of, [], []⟩
def z_39 : DefZ := ⟨fun K => He.fAd K ("lowest_of", none), "lowest_of", "lowest_of", defArgs s_lowest_of, defBody s_lowest_of, defScope s_lowest_of, [], []⟩
def z_40 : DefZ := ⟨fun K => He.fAd K ("is_fraction", none), "is_fraction", "is_fraction", defArgs s_is_fraction, defBody s_is_fraction, defScope s_is_fraction, [], []⟩
def z_41 : DefZ := ⟨fun K => He.fAd K ("shares_right", none), "shares_right", "shares_right", defArgs s_shares_right, defBody s_shares_right, defScope s_shares_right, [], []⟩
def z_42 : DefZ := ⟨fun K => He.fAd K ("mean_wrong", none), "mean_wrong", "mean_wrong", defArgs s_mean_wrong, defBody s_mean_wrong, defScope s_mean_wrong, [], []⟩
def z_43 : DefZ := ⟨fun K => He.fAd K ("need_count", none), "need_count", "need_count", defArgs s_need_count, defBody s_need_count, defScope s_need_count, [], []⟩
def z_44 : DefZ := ⟨fun K => He.fAd K ("keeps_paper", none), "keeps_paper", "keeps_paper", defArgs s_keeps_paper, defBody s_keeps_paper, defScope s_keeps_paper, [], []⟩
def z_45 : DefZ := ⟨fun K => He.fAd K ("forces_paper", none), "forces_paper", "forces_paper", defArgs s_forces_paper, defBody s_forces_paper, defScope s_forces_paper, [], []⟩
def z_46 : DefZ := ⟨fun K => He.fAd K ("is_share_paper", none), "is_share_paper", "is_share_paper", defArgs s_is_share_paper, defBody s_is_share_paper, defScope s_is_share_paper, [], []⟩
def z_47 : DefZ := ⟨fun K => He.fAd K ("is_keeps_paper", none), "is_keeps_paper", "is_keeps_paper", defArgs s_is_keeps_paper, defBody s_is_keeps_paper, defScope s_is_keeps_paper, [], []⟩
def z_48 : DefZ := ⟨fun K => He.fAd K ("is_forces_paper", none), "is_forces_paper", "is_forces_paper", defArgs s_is_forces_paper, defBody s_is_forces_paper, defScope s_is_forces_paper, [], []⟩
def z_49 : DefZ := ⟨fun K => He.fAd K ("need_row", none), "need_row", "need_row", defArgs s_need_row, defBody s_need_row, defScope s_need_row, [], []⟩
def z_50 : DefZ := ⟨fun K => He.fAd K ("true_of", none), "true_of", "true_of", defArgs s_true_of, defBody s_true_of, defScope s_true_of, [], []⟩
def z_51 : DefZ := ⟨fun K => He.fAd K ("settling", none), "settling", "settling", defArgs s_settling, defBody s_settling, defScope s_settling, [], []⟩
def z_52 : DefZ := ⟨fun K => He.fAd K ("is_guesser_paper", none), "is_guesser_paper", "is_guesser_paper", defArgs s_is_guesser_paper, defBody s_is_guesser_paper, defScope s_is_guesser_paper, [], []⟩
def z_53 : DefZ := ⟨fun K => He.fAd K ("School", some "__init__"), "__init__", "School.__init__", defArgs s_School___init__, defBody s_School___init__, defScope s_School___init__, [], []⟩
def z_54 : DefZ := ⟨fun K => He.fAd K ("school_text", none), "school_text", "school_text", defArgs s_school_text, defBody s_school_text, defScope s_school_text, [], []⟩
def z_55 : DefZ := ⟨fun K => He.fAd K ("_law_words", none), "_law_words", "_law_words", defArgs s__law_words, defBody s__law_words, defScope s__law_words, [], []⟩
def z_56 : DefZ := ⟨fun K => He.fAd K ("law", none), "law", "law", defArgs s_law, defBody s_law, defScope s_law, [], []⟩
def z_57 : DefZ := ⟨fun K => He.fAd K ("ItemError", some "__init__"), "__init__", "ItemError.__init__", defArgs ((clsBody (top 4)).getD 0 (.Pass ⟨0, 0, 0, 0⟩)), defBody ((clsBody (top 4)).getD 0 (.Pass ⟨0, 0, 0, 0⟩)), defScope ((clsBody (top 4)).getD 0 (.Pass ⟨0, 0, 0, 0⟩)), [], ["__class__"]⟩
def z_58 : DefZ := ⟨fun K => He.fAd K ("PartError", some "__init__"), "__init__", "PartError.__init__", defArgs ((clsBody (top 3)).getD 0 (.Pass ⟨0, 0, 0, 0⟩)), defBody ((clsBody (top 3)).getD 0 (.Pass ⟨0, 0, 0, 0⟩)), defScope ((clsBody (top 3)).getD 0 (.Pass ⟨0, 0, 0, 0⟩)), [], ["__class__"]⟩
def z_59 : DefZ := ⟨fun K => He.fAd K ("_law_caught", none), "_law_caught", "_law_caught", defArgs (top 123), defBody (top 123), defScope (top 123), [], []⟩
def zs_0 : List DefZ := [z_0, z_1, z_2, z_3, z_4, z_5, z_6, z_7, z_8, z_9, z_10, z_11, z_12, z_13, z_14, z_15, z_16, z_17, z_18, z_19]
def zs_1 : List DefZ := [z_20, z_21, z_22, z_23, z_24, z_25, z_26, z_27, z_28, z_29, z_30, z_31, z_32, z_33, z_34, z_35, z_36, z_37, z_38, z_39]
def zs_2 : List DefZ := [z_40, z_41, z_42, z_43, z_44, z_45, z_46, z_47, z_48, z_49, z_50, z_51, z_52, z_53, z_54, z_55, z_56, z_57, z_58, z_59]
def zs : List DefZ := zs_0 ++ zs_1 ++ zs_2
def fns_0 : List Str := ["BadBounds", "BadGuesser", "BadNumber", "BadPlaces", "BadRow", "BadRows", "BadSentence", "BadShare", "Lot", "LotError", "NoLot", "NoRows", "NoSchool", "School", "_law_begun", "_law_blend", "_law_caught", "_law_draw", "_law_named", "_law_pick"]
def fns_1 : List Str := ["_law_words", "always_paper", "bounds_right", "divisor_of", "edges_of", "filled", "forces_paper", "guesser_paper", "guesses_right", "is_between", "is_bound", "is_edge", "is_forces_paper", "is_fraction", "is_guesser", "is_guesser_paper", "is_keeps_paper", "is_list", "is_number", "is_row"]
def fns_2 : List Str := ["is_share_paper", "is_tuple_of", "keeps_paper", "law", "least_share", "least_wrong", "lot_of_sentence", "lowest_of", "mean_wrong", "most_mistakes", "need_bounds", "need_count", "need_lot", "need_place_count", "need_row", "need_rowed", "need_rows", "need_sentence", "need_share", "school_text"]
def fns_3 : List Str := ["sentence_right", "sentence_text", "settling", "share_paper", "shares_right", "true_of", "wrong"]
def fns : List Str := fns_0 ++ fns_1 ++ fns_2 ++ fns_3
def frees_0 : List Str := ["abs", "all", "bool", "dict", "enumerate", "int", "isinstance", "len", "list", "sorted", "str", "super", "tuple"]
def frees : List Str := frees_0
def fa : List He.Fa := fns.map .glo ++ frees.map .free
abbrev R : PySem.W.OpenRow := PySem.W.OpenLaw.row PySem.Challenge.rw_fullfree_k10_whole_errors_first_due
def ys : List (Str × Str) := [("_law_words", q__law_words)]
def exs (K : PySem.W.Frag) : List Bool := [propB K "Lot" "places", propB K "Lot" "rows", insB K "Lot", insB K "School", (He.Fa.cls "Lot").ok K, (He.Fa.cls "School").ok K, excB K "BadNumber", excB K "NoLot", excB K "BadRows", excB K "BadPlaces", excB K "BadRow", excB K "BadBounds", excB K "BadShare", excB K "BadSentence", excB K "NoSchool", excB K "NoRows", excB K "BadGuesser", kitB K tb, (He.Fa.int "MOST_BOUND" 64).ok K, (He.Fa.int "MOST_DEEP" 8).ok K] ++ [(He.Fa.int "MOST_MISTAKES" 7).ok K, (He.Fa.int "MOST_PLACES" 6).ok K, (He.Fa.noat "Lot" "own_known").ok K, (He.Fa.noat "Lot" "own_places").ok K, (He.Fa.noat "Lot" "own_rows").ok K, (He.Fa.meth "Lot" "has").ok K, (He.Fa.mkr "Lot").ok K, (He.Fa.mkr "School").ok K, (He.Fa.exc "BadBounds").ok K, (He.Fa.exc "BadGuesser").ok K, supB K "BadNumber" "PartError" "part", (He.Fa.exc "BadPlaces").ok K, (He.Fa.exc "BadRow").ok K, supB K "BadRows" "ItemError" "index", (He.Fa.exc "BadSentence").ok K, (He.Fa.exc "BadShare").ok K, supB K "NoLot" "PartError" "part", (He.Fa.exc "NoRows").ok K, (He.Fa.exc "NoSchool").ok K, (He.Fa.exm "BadNumber" "LotError" true).ok K] ++ [(He.Fa.exm "NoLot" "LotError" true).ok K, (He.Fa.exm "BadRows" "LotError" true).ok K, (He.Fa.exm "BadPlaces" "LotError" true).ok K, (He.Fa.exm "BadRow" "LotError" true).ok K, (He.Fa.exm "BadBounds" "LotError" true).ok K, (He.Fa.exm "BadShare" "LotError" true).ok K, (He.Fa.exm "BadSentence" "LotError" true).ok K, (He.Fa.exm "NoSchool" "LotError" true).ok K, (He.Fa.exm "NoRows" "LotError" true).ok K, (He.Fa.exm "BadGuesser" "LotError" true).ok K, iniB R.prog.main.file K "ItemError", iniB R.prog.main.file K "PartError", nodupB (ys.map fun y => (He.cT K (y.1, none)).2)]
def ex (K : PySem.W.Frag) : Bool := (exs K).all id
def asq : (Addr → Option Obj) → List Addr := asY ((["_law_begun", "_law_blend", "_law_caught", "_law_draw", "_law_named", "_law_pick", "_law_words", "always_paper", "bounds_right", "divisor_of", "edges_of", "filled", "forces_paper", "guesser_paper", "guesses_right", "is_between", "is_bound", "is_edge", "is_forces_paper", "is_fraction"] : List Str) ++ (["is_guesser", "is_guesser_paper", "is_keeps_paper", "is_list", "is_number", "is_row", "is_share_paper", "is_tuple_of", "keeps_paper", "law", "least_share", "least_wrong", "lot_of_sentence", "lowest_of", "mean_wrong", "most_mistakes", "need_bounds", "need_count", "need_lot", "need_place_count"] : List Str) ++ (["need_row", "need_rowed", "need_rows", "need_sentence", "need_share", "school_text", "sentence_right", "sentence_text", "settling", "share_paper", "shares_right", "true_of", "wrong"] : List Str)) ((["LotError", "PartError", "ItemError", "BadNumber", "NoLot", "BadRows", "BadPlaces", "BadRow", "BadBounds", "BadShare", "BadSentence", "NoSchool", "NoRows", "BadGuesser", "Lot", "School"] : List Str))
abbrev hk : PySem.W.Hook := hookY asq fa zs (tfY ys) ex
def ob (s : PySem.W.SharedT) : AlZ := obsY asq fa zs (tfY ys) ex (HandSHeadRun.getT s)
theorem ob_eq (s : PySem.W.SharedT) : ob s = hk.obs s.abs := obsY_eq (HandSHeadRun.getT_eq s)
def loose_0 : List Str := ["_wall", "LotError", "PartError", "ItemError", "BadNumber", "NoLot", "BadRows", "BadPlaces", "BadRow", "BadBounds", "BadShare", "BadSentence", "BadEdit", "NoSchool", "NoRows", "BadGuesser", "is_number", "is_between", "is_list", "is_rising"]
def loose_1 : List Str := ["is_tuple_of", "divisor_of", "lowest_of", "is_fraction", "MOST_PLACES", "is_row", "need_rows", "Lot", "need_lot", "need_row", "all_answers", "all_asked", "MOST_BOUND", "need_rowed", "filled", "edges_of", "both_ends", "is_guesser", "is_edge", "guesses_right"]
def loose_2 : List Str := ["wrong_by", "wrong", "bounds_right", "need_bounds", "turns_by", "way_down", "handed_on", "guesser_by", "guesser_paper", "edges_among", "is_crowd_of", "is_guesser_paper", "least_wrong", "MOST_BOTTOM", "need_share", "is_bound", "loads_of", "hands_by", "way_to_room", "handed_parts"]
def loose_3 : List Str := ["flows_by", "share_paper", "least_share", "shares_right", "means_of", "mean_wrong", "is_share_paper", "MOST_MISTAKES", "start_of", "fits_row", "can_come", "outcomes_of", "places_left", "forced_by", "numbers_of", "most_mistakes", "need_count", "keeps_paper", "is_told_row", "keeps_at"]
def loose_4 : List Str := ["is_keeps_paper", "way_to_fork", "tree_by", "forces_paper", "forces_from", "is_open_place", "is_forces_paper", "best_answer", "WORDS", "told_words", "lot_lines", "lot_text", "School", "school_text", "MOST_DEEP", "PARTS", "sentence_right", "need_sentence", "is_true", "true_of"]
def loose_5 : List Str := ["need_place_count", "lot_of_sentence", "always_paper", "told_at", "settles_by", "settling", "words_of", "sentence_text", "_law_begun", "_law_blend", "_law_draw", "_law_pick", "_law_caught", "_law_named", "_law_words"]
def loose : List Str := loose_0 ++ loose_1 ++ loose_2 ++ loose_3 ++ loose_4 ++ loose_5
open PySem.W PySem.Calls in
theorem r1_false (w : World) (os : OsState) : (HandSHeadRun.endF (HandSHeadRun.stepQ (HandSHeadRun.denQ HandSHeadRun.tabQ) R.prog (w.withFollow "special-get-raises" false)) 8000 R.prog (w.withFollow "special-get-raises" false) os).map (fun s => HandSHeadRun.looksF R.prog (boot_heap (w.withFollow "special-get-raises" false).params) s.abs) = some (true) := by kernel_rfl
open PySem.W PySem.Calls in
theorem r2_false (w : World) (os : OsState) : (HandSHeadRun.endF (HandSHeadRun.stepQ (HandSHeadRun.denQ HandSHeadRun.tabQ) R.prog (w.withFollow "special-get-raises" false)) 8000 R.prog (w.withFollow "special-get-raises" false) os).map (fun s => HandSHeadRun.seenQ (PySem.W.view R.prog [126]) loose (importedModules R.prog.main.body) (fun s => PySem.W.xlAt (PySem.W.view R.prog [126]) [] s && PySem.W.recOk R.toRowW.records s) s.abs) = some (PySem.W.openGood (PySem.W.view R.prog [126]) loose) := by kernel_rfl
open PySem.W PySem.Calls in
theorem r3_false (w : World) (os : OsState) : (HandSHeadRun.endF (HandSHeadRun.stepQ (HandSHeadRun.denQ HandSHeadRun.tabQ) R.prog (w.withFollow "special-get-raises" false)) 8000 R.prog (w.withFollow "special-get-raises" false) os).map (fun s => (fa.all fun f => f.ok (He.frT (HandSHeadRun.getT s) (asq (HandSHeadRun.getT s)))) && zs.all fun d => d.ok (He.frT (HandSHeadRun.getT s) (asq (HandSHeadRun.getT s)))) = some (true) := by kernel_rfl
open PySem.W PySem.Calls in
theorem r4_false (w : World) (os : OsState) : (HandSHeadRun.endF (HandSHeadRun.stepQ (HandSHeadRun.denQ HandSHeadRun.tabQ) R.prog (w.withFollow "special-get-raises" false)) 8000 R.prog (w.withFollow "special-get-raises" false) os).map (fun s => (ex (He.frT (HandSHeadRun.getT s) (asq (HandSHeadRun.getT s))) && He.tabsB (HandSHeadRun.getT s) (tfY ys) (He.frT (HandSHeadRun.getT s) (asq (HandSHeadRun.getT s))))) = some (true) := by kernel_rfl
open PySem.W PySem.Calls in
theorem r5_false (w : World) (os : OsState) : (HandSHeadRun.endF (HandSHeadRun.stepQ (HandSHeadRun.denQ HandSHeadRun.tabQ) R.prog (w.withFollow "special-get-raises" false)) 8000 R.prog (w.withFollow "special-get-raises" false) os).map (fun s => zs.map (fnZ (He.frT (HandSHeadRun.getT s) (asq (HandSHeadRun.getT s))))) = some (zs.map DefZ.val) := by kernel_rfl
theorem run_false (w : World) : HandSHeadRun.RunEq R (PySem.W.view R.prog [126]) hk ob 8000 loose (w.withFollow "special-get-raises" false) := fun os => map_two (r1_false w os) (map_two (r2_false w os) (map_obs (r3_false w os) (r4_false w os) (r5_false w os)))
open PySem.W PySem.Calls in
theorem r1_true (w : World) (os : OsState) : (HandSHeadRun.endF (HandSHeadRun.stepQ (HandSHeadRun.denQ HandSHeadRun.tabQ) R.prog (w.withFollow "special-get-raises" true)) 8000 R.prog (w.withFollow "special-get-raises" true) os).map (fun s => HandSHeadRun.looksF R.prog (boot_heap (w.withFollow "special-get-raises" true).params) s.abs) = some (true) := by kernel_rfl
open PySem.W PySem.Calls in
theorem r2_true (w : World) (os : OsState) : (HandSHeadRun.endF (HandSHeadRun.stepQ (HandSHeadRun.denQ HandSHeadRun.tabQ) R.prog (w.withFollow "special-get-raises" true)) 8000 R.prog (w.withFollow "special-get-raises" true) os).map (fun s => HandSHeadRun.seenQ (PySem.W.view R.prog [126]) loose (importedModules R.prog.main.body) (fun s => PySem.W.xlAt (PySem.W.view R.prog [126]) [] s && PySem.W.recOk R.toRowW.records s) s.abs) = some (PySem.W.openGood (PySem.W.view R.prog [126]) loose) := by kernel_rfl
open PySem.W PySem.Calls in
theorem r3_true (w : World) (os : OsState) : (HandSHeadRun.endF (HandSHeadRun.stepQ (HandSHeadRun.denQ HandSHeadRun.tabQ) R.prog (w.withFollow "special-get-raises" true)) 8000 R.prog (w.withFollow "special-get-raises" true) os).map (fun s => (fa.all fun f => f.ok (He.frT (HandSHeadRun.getT s) (asq (HandSHeadRun.getT s)))) && zs.all fun d => d.ok (He.frT (HandSHeadRun.getT s) (asq (HandSHeadRun.getT s)))) = some (true) := by kernel_rfl
open PySem.W PySem.Calls in
theorem r4_true (w : World) (os : OsState) : (HandSHeadRun.endF (HandSHeadRun.stepQ (HandSHeadRun.denQ HandSHeadRun.tabQ) R.prog (w.withFollow "special-get-raises" true)) 8000 R.prog (w.withFollow "special-get-raises" true) os).map (fun s => (ex (He.frT (HandSHeadRun.getT s) (asq (HandSHeadRun.getT s))) && He.tabsB (HandSHeadRun.getT s) (tfY ys) (He.frT (HandSHeadRun.getT s) (asq (HandSHeadRun.getT s))))) = some (true) := by kernel_rfl
open PySem.W PySem.Calls in
theorem r5_true (w : World) (os : OsState) : (HandSHeadRun.endF (HandSHeadRun.stepQ (HandSHeadRun.denQ HandSHeadRun.tabQ) R.prog (w.withFollow "special-get-raises" true)) 8000 R.prog (w.withFollow "special-get-raises" true) os).map (fun s => zs.map (fnZ (He.frT (HandSHeadRun.getT s) (asq (HandSHeadRun.getT s))))) = some (zs.map DefZ.val) := by kernel_rfl
theorem run_true (w : World) : HandSHeadRun.RunEq R (PySem.W.view R.prog [126]) hk ob 8000 loose (w.withFollow "special-get-raises" true) := fun os => map_two (r1_true w os) (map_two (r2_true w os) (map_obs (r3_true w os) (r4_true w os) (r5_true w os)))
theorem run (w : World) : HandSHeadRun.RunEq R (PySem.W.view R.prog [126]) hk ob 8000 loose w := PySem.W.byRow2 "special-get-raises" (P := fun w => HandSHeadRun.RunEq R (PySem.W.view R.prog [126]) hk ob 8000 loose w) run_false run_true w
end K10

namespace K10
open PySem PySem.Spec PyProof.Rows L2 DL
abbrev P : Program := R.prog
variable {w : World} {K : PySem.W.Frag} {mg : Str → Option Value} {base h : Heap} {T : List (Addr × Str)}
abbrev Says (h : Heap) (K : PySem.W.Frag) : Prop := SaysZ fa zs (tfY ys) ex h K
theorem glo (c : Says h K) (X : K.In h) (N : h.Ns mainGlobals mg) (x : Str) (hx : x ∈ fns) : mg x = some (.ref (He.ga K x)) :=
  He.glo_ok X N (c.fa (.glo x) (List.mem_append_left _ (List.mem_map_of_mem hx)))
theorem fre (c : Says h K) (X : K.In h) (N : h.Ns mainGlobals mg) (x : Str) (hx : x ∈ frees) : mg x = none :=
  He.free_ok X N (c.fa (.free x) (List.mem_append_right _ (List.mem_map_of_mem hx)))
theorem exf (c : Says h K) (i : Nat) {b : Bool} (hb : (exs K)[i]? = some b := by rfl) : b = true := by
  have := List.all_eq_true.mp c.more b (List.mem_of_getElem? hb)
  exact this
theorem prop_Lot_places (c : Says h K) : propB K "Lot" "places" = true := exf c 0
theorem prop_Lot_rows (c : Says h K) : propB K "Lot" "rows" = true := exf c 1
theorem cls_Lot (c : Says h K) : Cls K (He.ga K "Lot") := He.cls_ok (exf c 4)
theorem cls_School (c : Says h K) : Cls K (He.ga K "School") := He.cls_ok (exf c 5)
theorem meth_Lot_has (c : Says h K) : Meth K (He.ga K "Lot") "has" (He.ma K (He.ga K "Lot") "has") := He.meth_ok (exf c 25)
theorem mkr_Lot (c : Says h K) : Mk K (He.ga K "Lot") (He.ma K (He.ga K "Lot") "__init__") := He.mkr_ok (exf c 26)
theorem mkr_School (c : Says h K) : Mk K (He.ga K "School") (He.ma K (He.ga K "School") "__init__") := He.mkr_ok (exf c 27)
theorem fld {C x : Str} (hc : Cls K (He.ga K C)) (hn : NoAttr K (He.ga K C) x) : FldOk K [C] x := fun C' hC => by
  rw [List.mem_singleton.mp hC]
  exact ⟨hc, hn⟩
theorem ini_ItemError (c : Says h K) (X : K.In h) (N : h.Ns mainGlobals mg) : ∃ fd, FnOk P w K mg base (L2.CX P w) 1 (He.ma K (He.ga K "ItemError") "__init__") fd ["self", "index"] (spSup K (He.ga K "ItemError") "index") ∧ Binds K fd ["self", "index"] [] := by
  have F := c.fn z_57 (List.mem_of_getElem? (i := 57) rfl)
  obtain ⟨oc, od, dV, kV, doc, pm, an, cdv, ct, cl, osl, lk, hcd, hD, hcl⟩ := F.ex
  obtain ⟨i1, ⟨cdD, i2⟩, i3⟩ := iniB_ok (exf c 50)
  have I := i1 _ _ _ _ lk
  obtain ⟨cda, ccl, cdd, vs, ccs, y, tf, e1, e2, e3, e4⟩ := I.code
  obtain ⟨n, cc, cl1, cld, csl, e5, e6⟩ := I.cell
  have e1 : cdv = .ref cda := e1
  have e5 : cl = [(n, cc)] := e5
  have hcl : cl.map (·.1) = (["__class__"] : List Str) := hcl
  rw [e5] at hcl
  have en : n = "__class__" := (List.cons.inj hcl).1
  subst en e1 e5
  have hdV : dV = .none := by
    rcases hD with ⟨_, z⟩ | ⟨z, _⟩
    · exact z
    · exact absurd rfl z
  subst hdV
  refine ⟨_, sup_fn (ar := _) lk hcd rfl rfl (by decide) e2 e3 e4 e6 i2 (fre c X N "super" (by decide)) i3 rfl rfl rfl rfl (by decide +kernel) (by decide +kernel) (fun _ => rfl) (fun _ => rfl) (fun _ => rfl) (by decide), ?_⟩
  exact .all fun us hl => match us, hl with | [_, _], _ => rfl
theorem ini_PartError (c : Says h K) (X : K.In h) (N : h.Ns mainGlobals mg) : ∃ fd, FnOk P w K mg base (L2.CX P w) 1 (He.ma K (He.ga K "PartError") "__init__") fd ["self", "part"] (spSup K (He.ga K "PartError") "part") ∧ Binds K fd ["self", "part"] [] := by
  have F := c.fn z_58 (List.mem_of_getElem? (i := 58) rfl)
  obtain ⟨oc, od, dV, kV, doc, pm, an, cdv, ct, cl, osl, lk, hcd, hD, hcl⟩ := F.ex
  obtain ⟨i1, ⟨cdD, i2⟩, i3⟩ := iniB_ok (exf c 51)
  have I := i1 _ _ _ _ lk
  obtain ⟨cda, ccl, cdd, vs, ccs, y, tf, e1, e2, e3, e4⟩ := I.code
  obtain ⟨n, cc, cl1, cld, csl, e5, e6⟩ := I.cell
  have e1 : cdv = .ref cda := e1
  have e5 : cl = [(n, cc)] := e5
  have hcl : cl.map (·.1) = (["__class__"] : List Str) := hcl
  rw [e5] at hcl
  have en : n = "__class__" := (List.cons.inj hcl).1
  subst en e1 e5
  have hdV : dV = .none := by
    rcases hD with ⟨_, z⟩ | ⟨z, _⟩
    · exact z
    · exact absurd rfl z
  subst hdV
  refine ⟨_, sup_fn (ar := _) lk hcd rfl rfl (by decide) e2 e3 e4 e6 i2 (fre c X N "super" (by decide)) i3 rfl rfl rfl rfl (by decide +kernel) (by decide +kernel) (fun _ => rfl) (fun _ => rfl) (fun _ => rfl) (by decide), ?_⟩
  exact .all fun us hl => match us, hl with | [_, _], _ => rfl
theorem e_BadNumber (c : Says h K) (X : K.In h) (N : h.Ns mainGlobals mg) : ExO P w K mg base "BadNumber" "part" := by
  obtain ⟨s1, s2, s3⟩ := supB_ok (exf c 30)
  obtain ⟨fd, F, hb⟩ := ini_PartError (w := w) (base := base) c X N
  exact ⟨⟨_, _, fd, "part", s1, s2, s3, F, hb⟩, glo c X N "BadNumber" (by decide)⟩
theorem e_BadRows (c : Says h K) (X : K.In h) (N : h.Ns mainGlobals mg) : ExO P w K mg base "BadRows" "index" := by
  obtain ⟨s1, s2, s3⟩ := supB_ok (exf c 33)
  obtain ⟨fd, F, hb⟩ := ini_ItemError (w := w) (base := base) c X N
  exact ⟨⟨_, _, fd, "index", s1, s2, s3, F, hb⟩, glo c X N "BadRows" (by decide)⟩
theorem e_NoLot (c : Says h K) (X : K.In h) (N : h.Ns mainGlobals mg) : ExO P w K mg base "NoLot" "part" := by
  obtain ⟨s1, s2, s3⟩ := supB_ok (exf c 36)
  obtain ⟨fd, F, hb⟩ := ini_PartError (w := w) (base := base) c X N
  exact ⟨⟨_, _, fd, "part", s1, s2, s3, F, hb⟩, glo c X N "NoLot" (by decide)⟩
theorem caught (c : Says h K) (X : K.In h) (N : h.Ns mainGlobals mg) (hle : mg "LotError" = some (.ref (He.ga K "LotError"))) : CaughtD K mg "_law_caught" (.ref (He.ga K "LotError")) := by
  have F := c.fn z_59 (List.mem_of_getElem? (i := 59) rfl)
  obtain ⟨fd, F1⟩ := plain_z F rfl rfl
  have hb : Binds K fd ["work"] [] := FunD.bindsN F1 (fun _ _ _ _ _ _ us hl => match us, hl with | [_], _ => rfl)
  obtain ⟨oc, od, dV, kV, doc, pm, an, cdv, ct, osl, rfl, lk, hcd, _, _⟩ := F1.ex
  refine ⟨glo c X N "_law_caught" (by decide), F.kp, _, _, _, _, _, _, _, _, _, _, _, _, _, ["work", "found", "error"], "work", lk, hcd, hb, ⟨rfl, rfl, rfl, by decide, rfl, by decide +kernel, by decide +kernel⟩, rfl, vis, fun X0 q hK hm => ?_, by decide, by decide⟩
  subst hK hm
  exact caught_gives (i := 2) (j := 1) (by decide) rfl rfl (by decide) (by decide) (by decide) rfl rfl rfl hle (by decide) (by decide) (by decide) (by decide) (by decide) (fun _ => rfl) (fun _ => rfl) (fun _ => rfl) (fun _ => rfl)
theorem Gs_of (c : Says h K) (X : K.In h) (N : h.Ns mainGlobals mg) : Gs P w K mg base where
  f_abs := fre c X N _ (by decide)
  f_all := fre c X N _ (by decide)
  f_bool := fre c X N _ (by decide)
  f_dict := fre c X N _ (by decide)
  f_enumerate := fre c X N _ (by decide)
  f_int := fre c X N _ (by decide)
  f_isinstance := fre c X N _ (by decide)
  f_len := fre c X N _ (by decide)
  f_list := fre c X N _ (by decide)
  f_sorted := fre c X N _ (by decide)
  f_str := fre c X N _ (by decide)
  f_tuple := fre c X N _ (by decide)
  i_MOST_BOUND := He.int_ok X N (exf c 18)
  i_MOST_DEEP := He.int_ok X N (exf c 19)
  i_MOST_MISTAKES := He.int_ok X N (exf c 20)
  i_MOST_PLACES := He.int_ok X N (exf c 21)
  c_BadBounds := glo c X N _ (by decide)
  c_BadGuesser := glo c X N _ (by decide)
  c_BadNumber := glo c X N _ (by decide)
  c_BadPlaces := glo c X N _ (by decide)
  c_BadRow := glo c X N _ (by decide)
  c_BadSentence := glo c X N _ (by decide)
  c_BadShare := glo c X N _ (by decide)
  c_Lot := glo c X N _ (by decide)
  c_NoLot := glo c X N _ (by decide)
  c_NoRows := glo c X N _ (by decide)
  c_NoSchool := glo c X N _ (by decide)
  c_School := glo c X N _ (by decide)
  c_always_paper := glo c X N _ (by decide)
  c_forces_paper := glo c X N _ (by decide)
  c_guesser_paper := glo c X N _ (by decide)
  c_is_forces_paper := glo c X N _ (by decide)
  c_is_keeps_paper := glo c X N _ (by decide)
  c_is_share_paper := glo c X N _ (by decide)
  c_keeps_paper := glo c X N _ (by decide)
  c_least_share := glo c X N _ (by decide)
  c_least_wrong := glo c X N _ (by decide)
  c_lot_of_sentence := glo c X N _ (by decide)
  c_mean_wrong := glo c X N _ (by decide)
  c_most_mistakes := glo c X N _ (by decide)
  c_sentence_text := glo c X N _ (by decide)
  c_settling := glo c X N _ (by decide)
  c_share_paper := glo c X N _ (by decide)
  c_true_of := glo c X N _ (by decide)
  c_wrong := glo c X N _ (by decide)
  e_BadBounds := exP_z (exf c 28) (glo c X N _ (by decide))
  e_BadGuesser := exP_z (exf c 29) (glo c X N _ (by decide))
  e_BadNumber := e_BadNumber c X N
  e_BadPlaces := exP_z (exf c 31) (glo c X N _ (by decide))
  e_BadRow := exP_z (exf c 32) (glo c X N _ (by decide))
  e_BadRows := e_BadRows c X N
  e_BadSentence := exP_z (exf c 34) (glo c X N _ (by decide))
  e_BadShare := exP_z (exf c 35) (glo c X N _ (by decide))
  e_NoLot := e_NoLot c X N
  e_NoRows := exP_z (exf c 37) (glo c X N _ (by decide))
  e_NoSchool := exP_z (exf c 38) (glo c X N _ (by decide))
  fl_Lot_own_known := fld (cls_Lot c) (He.noat_ok (exf c 22))
  fl_Lot_own_places := fld (cls_Lot c) (He.noat_ok (exf c 23))
  fl_Lot_own_rows := fld (cls_Lot c) (He.noat_ok (exf c 24))
  isT := ⟨kitB_ok (exf c 17), fun x hx => by
    rcases List.mem_cons.mp hx with rfl | hx
    · exact insB_ok (cls_Lot c) (exf c 2)
    rw [List.mem_singleton.mp hx]
    exact insB_ok (cls_School c) (exf c 3)
  , fun x hx => by
    rcases List.mem_cons.mp hx with rfl | hx
    · exact excB_ok (exf c 6)
    rcases List.mem_cons.mp hx with rfl | hx
    · exact excB_ok (exf c 7)
    rcases List.mem_cons.mp hx with rfl | hx
    · exact excB_ok (exf c 8)
    rcases List.mem_cons.mp hx with rfl | hx
    · exact excB_ok (exf c 9)
    rcases List.mem_cons.mp hx with rfl | hx
    · exact excB_ok (exf c 10)
    rcases List.mem_cons.mp hx with rfl | hx
    · exact excB_ok (exf c 11)
    rcases List.mem_cons.mp hx with rfl | hx
    · exact excB_ok (exf c 12)
    rcases List.mem_cons.mp hx with rfl | hx
    · exact excB_ok (exf c 13)
    rcases List.mem_cons.mp hx with rfl | hx
    · exact excB_ok (exf c 14)
    rcases List.mem_cons.mp hx with rfl | hx
    · exact excB_ok (exf c 15)
    rw [List.mem_singleton.mp hx]
    exact excB_ok (exf c 16)
  ⟩
  ct_law_caught := fun x b e => by
    unfold ct_law_caught at e
    split at e
    · rename_i hx
      cases e
      rcases List.mem_cons.mp hx with rfl | hx
      · exact He.exm_ok (exf c 39)
      rcases List.mem_cons.mp hx with rfl | hx
      · exact He.exm_ok (exf c 40)
      rcases List.mem_cons.mp hx with rfl | hx
      · exact He.exm_ok (exf c 41)
      rcases List.mem_cons.mp hx with rfl | hx
      · exact He.exm_ok (exf c 42)
      rcases List.mem_cons.mp hx with rfl | hx
      · exact He.exm_ok (exf c 43)
      rcases List.mem_cons.mp hx with rfl | hx
      · exact He.exm_ok (exf c 44)
      rcases List.mem_cons.mp hx with rfl | hx
      · exact He.exm_ok (exf c 45)
      rcases List.mem_cons.mp hx with rfl | hx
      · exact He.exm_ok (exf c 46)
      rcases List.mem_cons.mp hx with rfl | hx
      · exact He.exm_ok (exf c 47)
      rcases List.mem_cons.mp hx with rfl | hx
      · exact He.exm_ok (exf c 48)
      rw [List.mem_singleton.mp hx]
      exact He.exm_ok (exf c 49)
    · cases e
  k_law_caught := caught c X N (glo c X N _ (by decide))
theorem ndY (c : Says h K) : (ys.map fun y => (He.cT K (y.1, none)).2).Nodup := nodupB_ok (exf c 52)
theorem d__law_begun (c : Says h K) (X : K.In h) (N : h.Ns mainGlobals mg) : FnD P w K mg base T 1 "_law_begun" 1 false [] D__law_begun := fnD_z (ps := ["script"]) (c.fn z_0 (List.mem_of_getElem? (i := 0) rfl)) rfl (glo c X N "_law_begun" (by decide)) (fun _ _ _ _ _ _ us hl => match us, hl with | [_], _ => rfl) ⟨rfl, rfl, rfl, nd__law_begun, rfl, by decide +kernel, by decide +kernel⟩ (b__law_begun (Gs_of c X N) ) rfl rfl (by decide)
theorem d__law_blend (c : Says h K) (X : K.In h) (N : h.Ns mainGlobals mg) : FnD P w K mg base T 1 "_law_blend" 1 true [] D__law_blend := fnD_z (ps := ["tape"]) (c.fn z_1 (List.mem_of_getElem? (i := 1) rfl)) rfl (glo c X N "_law_blend" (by decide)) (fun _ _ _ _ _ _ us hl => match us, hl with | [_], _ => rfl) ⟨rfl, rfl, rfl, nd__law_blend, rfl, by decide +kernel, by decide +kernel⟩ (b__law_blend (Gs_of c X N) ) rfl rfl (by decide)
theorem d__law_draw (c : Says h K) (X : K.In h) (N : h.Ns mainGlobals mg) : FnD P w K mg base T 2 "_law_draw" 2 true [] D__law_draw := fnD_z (ps := ["tape", "size"]) (c.fn z_2 (List.mem_of_getElem? (i := 2) rfl)) rfl (glo c X N "_law_draw" (by decide)) (fun _ _ _ _ _ _ us hl => match us, hl with | [_, _], _ => rfl) ⟨rfl, rfl, rfl, nd__law_draw, rfl, by decide +kernel, by decide +kernel⟩ (b__law_draw (Gs_of c X N) (d__law_blend c X N)) rfl rfl (by decide)
theorem d__law_pick (c : Says h K) (X : K.In h) (N : h.Ns mainGlobals mg) : FnD P w K mg base T 3 "_law_pick" 2 true [] D__law_pick := fnD_z (ps := ["tape", "several"]) (c.fn z_3 (List.mem_of_getElem? (i := 3) rfl)) rfl (glo c X N "_law_pick" (by decide)) (fun _ _ _ _ _ _ us hl => match us, hl with | [_, _], _ => rfl) ⟨rfl, rfl, rfl, nd__law_pick, rfl, by decide +kernel, by decide +kernel⟩ (b__law_pick (Gs_of c X N) (d__law_draw c X N)) rfl rfl (by decide)
theorem d_is_list (c : Says h K) (X : K.In h) (N : h.Ns mainGlobals mg) : FnD P w K mg base T 1 "is_list" 1 false [] D_is_list := fnD_z (ps := ["thing"]) (c.fn z_4 (List.mem_of_getElem? (i := 4) rfl)) rfl (glo c X N "is_list" (by decide)) (fun _ _ _ _ _ _ us hl => match us, hl with | [_], _ => rfl) ⟨rfl, rfl, rfl, nd_is_list, rfl, by decide +kernel, by decide +kernel⟩ (b_is_list (Gs_of c X N) ) rfl rfl (by decide)
theorem d_is_number (c : Says h K) (X : K.In h) (N : h.Ns mainGlobals mg) : FnD P w K mg base T 1 "is_number" 1 false [] D_is_number := fnD_z (ps := ["thing"]) (c.fn z_5 (List.mem_of_getElem? (i := 5) rfl)) rfl (glo c X N "is_number" (by decide)) (fun _ _ _ _ _ _ us hl => match us, hl with | [_], _ => rfl) ⟨rfl, rfl, rfl, nd_is_number, rfl, by decide +kernel, by decide +kernel⟩ (b_is_number (Gs_of c X N) ) rfl rfl (by decide)
theorem d_is_between (c : Says h K) (X : K.In h) (N : h.Ns mainGlobals mg) : FnD P w K mg base T 2 "is_between" 3 false [] D_is_between := fnD_z (ps := ["thing", "low", "high"]) (c.fn z_6 (List.mem_of_getElem? (i := 6) rfl)) rfl (glo c X N "is_between" (by decide)) (fun _ _ _ _ _ _ us hl => match us, hl with | [_, _, _], _ => rfl) ⟨rfl, rfl, rfl, nd_is_between, rfl, by decide +kernel, by decide +kernel⟩ (b_is_between (Gs_of c X N) (d_is_number c X N)) rfl rfl (by decide)
theorem d_is_tuple_of (c : Says h K) (X : K.In h) (N : h.Ns mainGlobals mg) : FnD P w K mg base T 3 "is_tuple_of" 4 false [] D_is_tuple_of := fnD_z (ps := ["thing", "many", "low", "high"]) (c.fn z_7 (List.mem_of_getElem? (i := 7) rfl)) rfl (glo c X N "is_tuple_of" (by decide)) (fun _ _ _ _ _ _ us hl => match us, hl with | [_, _, _, _], _ => rfl) ⟨rfl, rfl, rfl, nd_is_tuple_of, rfl, by decide +kernel, by decide +kernel⟩ (b_is_tuple_of (Gs_of c X N) (d_is_between c X N)) rfl rfl (by decide)
theorem d_is_row (c : Says h K) (X : K.In h) (N : h.Ns mainGlobals mg) : FnD P w K mg base T 4 "is_row" 2 false [] D_is_row := fnD_z (ps := ["places", "thing"]) (c.fn z_8 (List.mem_of_getElem? (i := 8) rfl)) rfl (glo c X N "is_row" (by decide)) (fun _ _ _ _ _ _ us hl => match us, hl with | [_, _], _ => rfl) ⟨rfl, rfl, rfl, nd_is_row, rfl, by decide +kernel, by decide +kernel⟩ (b_is_row (Gs_of c X N) (d_is_tuple_of c X N)) rfl rfl (by decide)
theorem d_need_rows (c : Says h K) (X : K.In h) (N : h.Ns mainGlobals mg) : FnD P w K mg base T 5 "need_rows" 2 false [] D_need_rows := fnD_z (ps := ["places", "rows"]) (c.fn z_9 (List.mem_of_getElem? (i := 9) rfl)) rfl (glo c X N "need_rows" (by decide)) (fun _ _ _ _ _ _ us hl => match us, hl with | [_, _], _ => rfl) ⟨rfl, rfl, rfl, nd_need_rows, rfl, by decide +kernel, by decide +kernel⟩ (b_need_rows (Gs_of c X N) (d_is_list c X N) (d_is_row c X N)) rfl rfl (by decide)
theorem d_Lot___init__ (c : Says h K) (X : K.In h) (N : h.Ns mainGlobals mg) : MakeD P w K mg base T 6 "Lot" 3 [] D_Lot___init__ := ⟨glo c X N "Lot" (by decide), _, mkr_Lot c, fnM_z (ps := ["self", "places", "rows"]) (c.fn z_10 (List.mem_of_getElem? (i := 10) rfl)) rfl (fun _ _ _ _ _ _ us hl => match us, hl with | [_, _, _], _ => rfl) ⟨rfl, rfl, rfl, nd_Lot___init__, rfl, by decide +kernel, by decide +kernel⟩ (b_Lot___init__ (Gs_of c X N) (d_is_between c X N) (d_need_rows c X N)) rfl rfl (by decide)⟩
theorem d__law_named (c : Says h K) (X : K.In h) (N : h.Ns mainGlobals mg) : FnD P w K mg base T 1 "_law_named" 1 false [] D__law_named := fnD_z (ps := ["caught"]) (c.fn z_11 (List.mem_of_getElem? (i := 11) rfl)) rfl (glo c X N "_law_named" (by decide)) (fun _ _ _ _ _ _ us hl => match us, hl with | [_], _ => rfl) ⟨rfl, rfl, rfl, nd__law_named, rfl, by decide +kernel, by decide +kernel⟩ (b__law_named (Gs_of c X N) ) rfl rfl (by decide)
theorem d_need_lot (c : Says h K) (X : K.In h) (N : h.Ns mainGlobals mg) : FnD P w K mg base T 3 "need_lot" 2 false [.non] D_need_lot := fnD_z1 (ps := ["lot", "part"]) (c.fn z_12 (List.mem_of_getElem? (i := 12) rfl)) rfl (glo c X N "need_lot" (by decide)) (fun _ _ _ _ _ _ _ us its l1 l2 => match us, its, l1, l2 with | [_], [_], _, _ => ⟨_, rfl, rfl⟩) ⟨rfl, rfl, rfl, nd_need_lot, rfl, by decide +kernel, by decide +kernel⟩ (b_need_lot (Gs_of c X N) ) rfl rfl (by decide) (fun _ _ => ⟨_, [], [], [], rfl, ⟨rfl, rfl⟩, ⟨rfl, rfl⟩, rfl⟩)
theorem d_sentence_right (c : Says h K) (X : K.In h) (N : h.Ns mainGlobals mg) : FnD P w K mg base T 3 "sentence_right" 3 false [] D_sentence_right := fnD_z (ps := ["places", "thing", "depth"]) (c.fn z_13 (List.mem_of_getElem? (i := 13) rfl)) rfl (glo c X N "sentence_right" (by decide)) (fun _ _ _ _ _ _ us hl => match us, hl with | [_, _, _], _ => rfl) ⟨rfl, rfl, rfl, nd_sentence_right, rfl, by decide +kernel, by decide +kernel⟩ (b_sentence_right (Gs_of c X N) (d_is_between c X N)) rfl rfl (by decide)
theorem d_need_sentence (c : Says h K) (X : K.In h) (N : h.Ns mainGlobals mg) : FnD P w K mg base T 4 "need_sentence" 2 false [] D_need_sentence := fnD_z (ps := ["places", "sentence"]) (c.fn z_14 (List.mem_of_getElem? (i := 14) rfl)) rfl (glo c X N "need_sentence" (by decide)) (fun _ _ _ _ _ _ us hl => match us, hl with | [_, _], _ => rfl) ⟨rfl, rfl, rfl, nd_need_sentence, rfl, by decide +kernel, by decide +kernel⟩ (b_need_sentence (Gs_of c X N) (d_sentence_right c X N)) rfl rfl (by decide)
theorem d_Lot_places (c : Says h K) (X : K.In h) (N : h.Ns mainGlobals mg) : PropD P w K mg base T 1 "Lot" "places" D_Lot_places := ⟨cls_Lot c, _, _, propB_ok (prop_Lot_places c), fnM_z (ps := ["self"]) (c.fn z_15 (List.mem_of_getElem? (i := 15) rfl)) rfl (fun _ _ _ _ _ _ us hl => match us, hl with | [_], _ => rfl) ⟨rfl, rfl, rfl, nd_Lot_places, rfl, by decide +kernel, by decide +kernel⟩ (b_Lot_places (Gs_of c X N) ) rfl rfl (by decide)⟩
theorem d_always_paper (c : Says h K) (X : K.In h) (N : h.Ns mainGlobals mg) : FnD P w K mg base T 5 "always_paper" 2 false [] D_always_paper := fnD_z (ps := ["lot", "sentence"]) (c.fn z_16 (List.mem_of_getElem? (i := 16) rfl)) rfl (glo c X N "always_paper" (by decide)) (fun _ _ _ _ _ _ us hl => match us, hl with | [_, _], _ => rfl) ⟨rfl, rfl, rfl, nd_always_paper, rfl, by decide +kernel, by decide +kernel⟩ (b_always_paper (Gs_of c X N) (d_need_lot c X N) (d_need_sentence c X N) (d_Lot_places c X N)) rfl rfl (by decide)
theorem d_need_place_count (c : Says h K) (X : K.In h) (N : h.Ns mainGlobals mg) : FnD P w K mg base T 3 "need_place_count" 1 false [] D_need_place_count := fnD_z (ps := ["places"]) (c.fn z_17 (List.mem_of_getElem? (i := 17) rfl)) rfl (glo c X N "need_place_count" (by decide)) (fun _ _ _ _ _ _ us hl => match us, hl with | [_], _ => rfl) ⟨rfl, rfl, rfl, nd_need_place_count, rfl, by decide +kernel, by decide +kernel⟩ (b_need_place_count (Gs_of c X N) (d_is_between c X N)) rfl rfl (by decide)
theorem d_lot_of_sentence (c : Says h K) (X : K.In h) (N : h.Ns mainGlobals mg) : FnD P w K mg base T 5 "lot_of_sentence" 2 false [] D_lot_of_sentence := fnD_z (ps := ["places", "sentence"]) (c.fn z_18 (List.mem_of_getElem? (i := 18) rfl)) rfl (glo c X N "lot_of_sentence" (by decide)) (fun _ _ _ _ _ _ us hl => match us, hl with | [_, _], _ => rfl) ⟨rfl, rfl, rfl, nd_lot_of_sentence, rfl, by decide +kernel, by decide +kernel⟩ (b_lot_of_sentence (Gs_of c X N) (d_need_place_count c X N) (d_need_sentence c X N)) rfl rfl (by decide)
theorem d_sentence_text (c : Says h K) (X : K.In h) (N : h.Ns mainGlobals mg) : FnD P w K mg base T 5 "sentence_text" 2 false [] D_sentence_text := fnD_z (ps := ["places", "sentence"]) (c.fn z_19 (List.mem_of_getElem? (i := 19) rfl)) rfl (glo c X N "sentence_text" (by decide)) (fun _ _ _ _ _ _ us hl => match us, hl with | [_, _], _ => rfl) ⟨rfl, rfl, rfl, nd_sentence_text, rfl, by decide +kernel, by decide +kernel⟩ (b_sentence_text (Gs_of c X N) (d_need_place_count c X N) (d_need_sentence c X N)) rfl rfl (by decide)
theorem d_is_guesser (c : Says h K) (X : K.In h) (N : h.Ns mainGlobals mg) : FnD P w K mg base T 4 "is_guesser" 2 false [] D_is_guesser := fnD_z (ps := ["lot", "thing"]) (c.fn z_20 (List.mem_of_getElem? (i := 20) rfl)) rfl (glo c X N "is_guesser" (by decide)) (fun _ _ _ _ _ _ us hl => match us, hl with | [_, _], _ => rfl) ⟨rfl, rfl, rfl, nd_is_guesser, rfl, by decide +kernel, by decide +kernel⟩ (b_is_guesser (Gs_of c X N) (d_need_lot c X N)) rfl rfl (by decide)
theorem d_is_edge (c : Says h K) (X : K.In h) (N : h.Ns mainGlobals mg) : FnD P w K mg base T 2 "is_edge" 1 false [] D_is_edge := fnD_z (ps := ["thing"]) (c.fn z_21 (List.mem_of_getElem? (i := 21) rfl)) rfl (glo c X N "is_edge" (by decide)) (fun _ _ _ _ _ _ us hl => match us, hl with | [_], _ => rfl) ⟨rfl, rfl, rfl, nd_is_edge, rfl, by decide +kernel, by decide +kernel⟩ (b_is_edge (Gs_of c X N) (d_is_number c X N)) rfl rfl (by decide)
theorem d_guesses_right (c : Says h K) (X : K.In h) (N : h.Ns mainGlobals mg) : FnD P w K mg base T 3 "guesses_right" 2 false [] D_guesses_right := fnD_z (ps := ["edges", "thing"]) (c.fn z_22 (List.mem_of_getElem? (i := 22) rfl)) rfl (glo c X N "guesses_right" (by decide)) (fun _ _ _ _ _ _ us hl => match us, hl with | [_, _], _ => rfl) ⟨rfl, rfl, rfl, nd_guesses_right, rfl, by decide +kernel, by decide +kernel⟩ (b_guesses_right (Gs_of c X N) (d_is_between c X N) (d_is_edge c X N)) rfl rfl (by decide)
theorem d_Lot_rows (c : Says h K) (X : K.In h) (N : h.Ns mainGlobals mg) : PropD P w K mg base T 1 "Lot" "rows" D_Lot_rows := ⟨cls_Lot c, _, _, propB_ok (prop_Lot_rows c), fnM_z (ps := ["self"]) (c.fn z_23 (List.mem_of_getElem? (i := 23) rfl)) rfl (fun _ _ _ _ _ _ us hl => match us, hl with | [_], _ => rfl) ⟨rfl, rfl, rfl, nd_Lot_rows, rfl, by decide +kernel, by decide +kernel⟩ (b_Lot_rows (Gs_of c X N) ) rfl rfl (by decide)⟩
theorem d_Lot_has (c : Says h K) (X : K.In h) (N : h.Ns mainGlobals mg) : MethD P w K mg base T 5 "Lot" "has" 2 [] D_Lot_has := ⟨cls_Lot c, _, meth_Lot_has c, fnM_z (ps := ["self", "row"]) (c.fn z_24 (List.mem_of_getElem? (i := 24) rfl)) rfl (fun _ _ _ _ _ _ us hl => match us, hl with | [_, _], _ => rfl) ⟨rfl, rfl, rfl, nd_Lot_has, rfl, by decide +kernel, by decide +kernel⟩ (b_Lot_has (Gs_of c X N) (d_is_row c X N)) rfl rfl (by decide)⟩
theorem d_filled (c : Says h K) (X : K.In h) (N : h.Ns mainGlobals mg) : FnD P w K mg base T 1 "filled" 3 false [] D_filled := fnD_z (ps := ["told", "place", "answer"]) (c.fn z_25 (List.mem_of_getElem? (i := 25) rfl)) rfl (glo c X N "filled" (by decide)) (fun _ _ _ _ _ _ us hl => match us, hl with | [_, _, _], _ => rfl) ⟨rfl, rfl, rfl, nd_filled, rfl, by decide +kernel, by decide +kernel⟩ (b_filled (Gs_of c X N) ) rfl rfl (by decide)
theorem d_edges_of (c : Says h K) (X : K.In h) (N : h.Ns mainGlobals mg) : FnD P w K mg base T 6 "edges_of" 1 false [] D_edges_of := fnD_z (ps := ["lot"]) (c.fn z_26 (List.mem_of_getElem? (i := 26) rfl)) rfl (glo c X N "edges_of" (by decide)) (fun _ _ _ _ _ _ us hl => match us, hl with | [_], _ => rfl) ⟨rfl, rfl, rfl, nd_edges_of, rfl, by decide +kernel, by decide +kernel⟩ (b_edges_of (Gs_of c X N) (d_filled c X N) (d_Lot_rows c X N) (d_Lot_has c X N)) rfl rfl (by decide)
theorem d_wrong (c : Says h K) (X : K.In h) (N : h.Ns mainGlobals mg) : FnD P w K mg base T 7 "wrong" 2 false [] D_wrong := fnD_z (ps := ["lot", "guesser"]) (c.fn z_27 (List.mem_of_getElem? (i := 27) rfl)) rfl (glo c X N "wrong" (by decide)) (fun _ _ _ _ _ _ us hl => match us, hl with | [_, _], _ => rfl) ⟨rfl, rfl, rfl, nd_wrong, rfl, by decide +kernel, by decide +kernel⟩ (b_wrong (Gs_of c X N) (d_edges_of c X N) (d_guesses_right c X N) (d_need_lot c X N)) rfl rfl (by decide)
theorem d_bounds_right (c : Says h K) (X : K.In h) (N : h.Ns mainGlobals mg) : FnD P w K mg base T 6 "bounds_right" 2 false [] D_bounds_right := fnD_z (ps := ["lot", "thing"]) (c.fn z_28 (List.mem_of_getElem? (i := 28) rfl)) rfl (glo c X N "bounds_right" (by decide)) (fun _ _ _ _ _ _ us hl => match us, hl with | [_, _], _ => rfl) ⟨rfl, rfl, rfl, nd_bounds_right, rfl, by decide +kernel, by decide +kernel⟩ (b_bounds_right (Gs_of c X N) (d_is_between c X N) (d_Lot_rows c X N) (d_Lot_has c X N)) rfl rfl (by decide)
theorem d_need_bounds (c : Says h K) (X : K.In h) (N : h.Ns mainGlobals mg) : FnD P w K mg base T 7 "need_bounds" 2 false [] D_need_bounds := fnD_z (ps := ["lot", "bounds"]) (c.fn z_29 (List.mem_of_getElem? (i := 29) rfl)) rfl (glo c X N "need_bounds" (by decide)) (fun _ _ _ _ _ _ us hl => match us, hl with | [_, _], _ => rfl) ⟨rfl, rfl, rfl, nd_need_bounds, rfl, by decide +kernel, by decide +kernel⟩ (b_need_bounds (Gs_of c X N) (d_bounds_right c X N) (d_need_lot c X N)) rfl rfl (by decide)
theorem d_guesser_paper (c : Says h K) (X : K.In h) (N : h.Ns mainGlobals mg) : FnD P w K mg base T 8 "guesser_paper" 2 false [] D_guesser_paper := fnD_z (ps := ["lot", "bounds"]) (c.fn z_30 (List.mem_of_getElem? (i := 30) rfl)) rfl (glo c X N "guesser_paper" (by decide)) (fun _ _ _ _ _ _ us hl => match us, hl with | [_, _], _ => rfl) ⟨rfl, rfl, rfl, nd_guesser_paper, rfl, by decide +kernel, by decide +kernel⟩ (b_guesser_paper (Gs_of c X N) (d_need_bounds c X N)) rfl rfl (by decide)
theorem d_need_rowed (c : Says h K) (X : K.In h) (N : h.Ns mainGlobals mg) : FnD P w K mg base T 4 "need_rowed" 1 false [] D_need_rowed := fnD_z (ps := ["lot"]) (c.fn z_31 (List.mem_of_getElem? (i := 31) rfl)) rfl (glo c X N "need_rowed" (by decide)) (fun _ _ _ _ _ _ us hl => match us, hl with | [_], _ => rfl) ⟨rfl, rfl, rfl, nd_need_rowed, rfl, by decide +kernel, by decide +kernel⟩ (b_need_rowed (Gs_of c X N) (d_need_lot c X N) (d_Lot_rows c X N)) rfl rfl (by decide)
theorem d_least_wrong (c : Says h K) (X : K.In h) (N : h.Ns mainGlobals mg) : FnD P w K mg base T 5 "least_wrong" 1 false [] D_least_wrong := fnD_z (ps := ["lot"]) (c.fn z_32 (List.mem_of_getElem? (i := 32) rfl)) rfl (glo c X N "least_wrong" (by decide)) (fun _ _ _ _ _ _ us hl => match us, hl with | [_], _ => rfl) ⟨rfl, rfl, rfl, nd_least_wrong, rfl, by decide +kernel, by decide +kernel⟩ (b_least_wrong (Gs_of c X N) (d_need_rowed c X N)) rfl rfl (by decide)
theorem d_least_share (c : Says h K) (X : K.In h) (N : h.Ns mainGlobals mg) : FnD P w K mg base T 5 "least_share" 1 false [] D_least_share := fnD_z (ps := ["lot"]) (c.fn z_33 (List.mem_of_getElem? (i := 33) rfl)) rfl (glo c X N "least_share" (by decide)) (fun _ _ _ _ _ _ us hl => match us, hl with | [_], _ => rfl) ⟨rfl, rfl, rfl, nd_least_share, rfl, by decide +kernel, by decide +kernel⟩ (b_least_share (Gs_of c X N) (d_need_rowed c X N)) rfl rfl (by decide)
theorem d_most_mistakes (c : Says h K) (X : K.In h) (N : h.Ns mainGlobals mg) : FnD P w K mg base T 5 "most_mistakes" 1 false [] D_most_mistakes := fnD_z (ps := ["lot"]) (c.fn z_34 (List.mem_of_getElem? (i := 34) rfl)) rfl (glo c X N "most_mistakes" (by decide)) (fun _ _ _ _ _ _ us hl => match us, hl with | [_], _ => rfl) ⟨rfl, rfl, rfl, nd_most_mistakes, rfl, by decide +kernel, by decide +kernel⟩ (b_most_mistakes (Gs_of c X N) (d_need_rowed c X N)) rfl rfl (by decide)
theorem d_is_bound (c : Says h K) (X : K.In h) (N : h.Ns mainGlobals mg) : FnD P w K mg base T 1 "is_bound" 1 false [] D_is_bound := fnD_z (ps := ["thing"]) (c.fn z_35 (List.mem_of_getElem? (i := 35) rfl)) rfl (glo c X N "is_bound" (by decide)) (fun _ _ _ _ _ _ us hl => match us, hl with | [_], _ => rfl) ⟨rfl, rfl, rfl, nd_is_bound, rfl, by decide +kernel, by decide +kernel⟩ (b_is_bound (Gs_of c X N) ) rfl rfl (by decide)
theorem d_need_share (c : Says h K) (X : K.In h) (N : h.Ns mainGlobals mg) : FnD P w K mg base T 5 "need_share" 2 false [] D_need_share := fnD_z (ps := ["lot", "share"]) (c.fn z_36 (List.mem_of_getElem? (i := 36) rfl)) rfl (glo c X N "need_share" (by decide)) (fun _ _ _ _ _ _ us hl => match us, hl with | [_, _], _ => rfl) ⟨rfl, rfl, rfl, nd_need_share, rfl, by decide +kernel, by decide +kernel⟩ (b_need_share (Gs_of c X N) (d_is_bound c X N) (d_need_rowed c X N)) rfl rfl (by decide)
theorem d_share_paper (c : Says h K) (X : K.In h) (N : h.Ns mainGlobals mg) : FnD P w K mg base T 6 "share_paper" 2 false [] D_share_paper := fnD_z (ps := ["lot", "share"]) (c.fn z_37 (List.mem_of_getElem? (i := 37) rfl)) rfl (glo c X N "share_paper" (by decide)) (fun _ _ _ _ _ _ us hl => match us, hl with | [_, _], _ => rfl) ⟨rfl, rfl, rfl, nd_share_paper, rfl, by decide +kernel, by decide +kernel⟩ (b_share_paper (Gs_of c X N) (d_need_share c X N)) rfl rfl (by decide)
theorem d_divisor_of (c : Says h K) (X : K.In h) (N : h.Ns mainGlobals mg) : FnD P w K mg base T 1 "divisor_of" 2 false [] D_divisor_of := fnD_z (ps := ["one", "other"]) (c.fn z_38 (List.mem_of_getElem? (i := 38) rfl)) rfl (glo c X N "divisor_of" (by decide)) (fun _ _ _ _ _ _ us hl => match us, hl with | [_, _], _ => rfl) ⟨rfl, rfl, rfl, nd_divisor_of, rfl, by decide +kernel, by decide +kernel⟩ (b_divisor_of (Gs_of c X N) ) rfl rfl (by decide)
theorem d_lowest_of (c : Says h K) (X : K.In h) (N : h.Ns mainGlobals mg) : FnD P w K mg base T 2 "lowest_of" 2 false [] D_lowest_of := fnD_z (ps := ["top", "bottom"]) (c.fn z_39 (List.mem_of_getElem? (i := 39) rfl)) rfl (glo c X N "lowest_of" (by decide)) (fun _ _ _ _ _ _ us hl => match us, hl with | [_, _], _ => rfl) ⟨rfl, rfl, rfl, nd_lowest_of, rfl, by decide +kernel, by decide +kernel⟩ (b_lowest_of (Gs_of c X N) (d_divisor_of c X N)) rfl rfl (by decide)
theorem d_is_fraction (c : Says h K) (X : K.In h) (N : h.Ns mainGlobals mg) : FnD P w K mg base T 3 "is_fraction" 1 false [] D_is_fraction := fnD_z (ps := ["thing"]) (c.fn z_40 (List.mem_of_getElem? (i := 40) rfl)) rfl (glo c X N "is_fraction" (by decide)) (fun _ _ _ _ _ _ us hl => match us, hl with | [_], _ => rfl) ⟨rfl, rfl, rfl, nd_is_fraction, rfl, by decide +kernel, by decide +kernel⟩ (b_is_fraction (Gs_of c X N) (d_is_number c X N) (d_lowest_of c X N)) rfl rfl (by decide)
theorem d_shares_right (c : Says h K) (X : K.In h) (N : h.Ns mainGlobals mg) : FnD P w K mg base T 4 "shares_right" 2 false [] D_shares_right := fnD_z (ps := ["edges", "thing"]) (c.fn z_41 (List.mem_of_getElem? (i := 41) rfl)) rfl (glo c X N "shares_right" (by decide)) (fun _ _ _ _ _ _ us hl => match us, hl with | [_, _], _ => rfl) ⟨rfl, rfl, rfl, nd_shares_right, rfl, by decide +kernel, by decide +kernel⟩ (b_shares_right (Gs_of c X N) (d_is_edge c X N) (d_is_fraction c X N)) rfl rfl (by decide)
theorem d_mean_wrong (c : Says h K) (X : K.In h) (N : h.Ns mainGlobals mg) : FnD P w K mg base T 7 "mean_wrong" 2 false [] D_mean_wrong := fnD_z (ps := ["lot", "shares"]) (c.fn z_42 (List.mem_of_getElem? (i := 42) rfl)) rfl (glo c X N "mean_wrong" (by decide)) (fun _ _ _ _ _ _ us hl => match us, hl with | [_, _], _ => rfl) ⟨rfl, rfl, rfl, nd_mean_wrong, rfl, by decide +kernel, by decide +kernel⟩ (b_mean_wrong (Gs_of c X N) (d_edges_of c X N) (d_need_rowed c X N) (d_shares_right c X N)) rfl rfl (by decide)
theorem d_need_count (c : Says h K) (X : K.In h) (N : h.Ns mainGlobals mg) : FnD P w K mg base T 5 "need_count" 2 false [] D_need_count := fnD_z (ps := ["lot", "number"]) (c.fn z_43 (List.mem_of_getElem? (i := 43) rfl)) rfl (glo c X N "need_count" (by decide)) (fun _ _ _ _ _ _ us hl => match us, hl with | [_, _], _ => rfl) ⟨rfl, rfl, rfl, nd_need_count, rfl, by decide +kernel, by decide +kernel⟩ (b_need_count (Gs_of c X N) (d_is_between c X N) (d_need_rowed c X N)) rfl rfl (by decide)
theorem d_keeps_paper (c : Says h K) (X : K.In h) (N : h.Ns mainGlobals mg) : FnD P w K mg base T 6 "keeps_paper" 2 false [] D_keeps_paper := fnD_z (ps := ["lot", "number"]) (c.fn z_44 (List.mem_of_getElem? (i := 44) rfl)) rfl (glo c X N "keeps_paper" (by decide)) (fun _ _ _ _ _ _ us hl => match us, hl with | [_, _], _ => rfl) ⟨rfl, rfl, rfl, nd_keeps_paper, rfl, by decide +kernel, by decide +kernel⟩ (b_keeps_paper (Gs_of c X N) (d_need_count c X N)) rfl rfl (by decide)
theorem d_forces_paper (c : Says h K) (X : K.In h) (N : h.Ns mainGlobals mg) : FnD P w K mg base T 6 "forces_paper" 2 false [] D_forces_paper := fnD_z (ps := ["lot", "number"]) (c.fn z_45 (List.mem_of_getElem? (i := 45) rfl)) rfl (glo c X N "forces_paper" (by decide)) (fun _ _ _ _ _ _ us hl => match us, hl with | [_, _], _ => rfl) ⟨rfl, rfl, rfl, nd_forces_paper, rfl, by decide +kernel, by decide +kernel⟩ (b_forces_paper (Gs_of c X N) (d_need_count c X N)) rfl rfl (by decide)
theorem d_is_share_paper (c : Says h K) (X : K.In h) (N : h.Ns mainGlobals mg) : FnD P w K mg base T 6 "is_share_paper" 3 false [] D_is_share_paper := fnD_z (ps := ["lot", "share", "thing"]) (c.fn z_46 (List.mem_of_getElem? (i := 46) rfl)) rfl (glo c X N "is_share_paper" (by decide)) (fun _ _ _ _ _ _ us hl => match us, hl with | [_, _, _], _ => rfl) ⟨rfl, rfl, rfl, nd_is_share_paper, rfl, by decide +kernel, by decide +kernel⟩ (b_is_share_paper (Gs_of c X N) (d_need_share c X N)) rfl rfl (by decide)
theorem d_is_keeps_paper (c : Says h K) (X : K.In h) (N : h.Ns mainGlobals mg) : FnD P w K mg base T 6 "is_keeps_paper" 3 false [] D_is_keeps_paper := fnD_z (ps := ["lot", "number", "thing"]) (c.fn z_47 (List.mem_of_getElem? (i := 47) rfl)) rfl (glo c X N "is_keeps_paper" (by decide)) (fun _ _ _ _ _ _ us hl => match us, hl with | [_, _, _], _ => rfl) ⟨rfl, rfl, rfl, nd_is_keeps_paper, rfl, by decide +kernel, by decide +kernel⟩ (b_is_keeps_paper (Gs_of c X N) (d_need_count c X N)) rfl rfl (by decide)
theorem d_is_forces_paper (c : Says h K) (X : K.In h) (N : h.Ns mainGlobals mg) : FnD P w K mg base T 6 "is_forces_paper" 3 false [] D_is_forces_paper := fnD_z (ps := ["lot", "number", "thing"]) (c.fn z_48 (List.mem_of_getElem? (i := 48) rfl)) rfl (glo c X N "is_forces_paper" (by decide)) (fun _ _ _ _ _ _ us hl => match us, hl with | [_, _, _], _ => rfl) ⟨rfl, rfl, rfl, nd_is_forces_paper, rfl, by decide +kernel, by decide +kernel⟩ (b_is_forces_paper (Gs_of c X N) (d_need_count c X N)) rfl rfl (by decide)
theorem d_need_row (c : Says h K) (X : K.In h) (N : h.Ns mainGlobals mg) : FnD P w K mg base T 6 "need_row" 2 false [] D_need_row := fnD_z (ps := ["lot", "row"]) (c.fn z_49 (List.mem_of_getElem? (i := 49) rfl)) rfl (glo c X N "need_row" (by decide)) (fun _ _ _ _ _ _ us hl => match us, hl with | [_, _], _ => rfl) ⟨rfl, rfl, rfl, nd_need_row, rfl, by decide +kernel, by decide +kernel⟩ (b_need_row (Gs_of c X N)  (d_Lot_has c X N)) rfl rfl (by decide)
theorem d_true_of (c : Says h K) (X : K.In h) (N : h.Ns mainGlobals mg) : FnD P w K mg base T 7 "true_of" 3 false [] D_true_of := fnD_z (ps := ["lot", "sentence", "row"]) (c.fn z_50 (List.mem_of_getElem? (i := 50) rfl)) rfl (glo c X N "true_of" (by decide)) (fun _ _ _ _ _ _ us hl => match us, hl with | [_, _, _], _ => rfl) ⟨rfl, rfl, rfl, nd_true_of, rfl, by decide +kernel, by decide +kernel⟩ (b_true_of (Gs_of c X N) (d_need_lot c X N) (d_need_row c X N) (d_need_sentence c X N) (d_Lot_places c X N)) rfl rfl (by decide)
theorem d_settling (c : Says h K) (X : K.In h) (N : h.Ns mainGlobals mg) : FnD P w K mg base T 7 "settling" 3 false [] D_settling := fnD_z (ps := ["lot", "sentence", "row"]) (c.fn z_51 (List.mem_of_getElem? (i := 51) rfl)) rfl (glo c X N "settling" (by decide)) (fun _ _ _ _ _ _ us hl => match us, hl with | [_, _, _], _ => rfl) ⟨rfl, rfl, rfl, nd_settling, rfl, by decide +kernel, by decide +kernel⟩ (b_settling (Gs_of c X N) (d_need_lot c X N) (d_need_row c X N) (d_need_sentence c X N) (d_Lot_places c X N)) rfl rfl (by decide)
theorem d_is_guesser_paper (c : Says h K) (X : K.In h) (N : h.Ns mainGlobals mg) : FnD P w K mg base T 8 "is_guesser_paper" 3 false [] D_is_guesser_paper := fnD_z (ps := ["lot", "bounds", "thing"]) (c.fn z_52 (List.mem_of_getElem? (i := 52) rfl)) rfl (glo c X N "is_guesser_paper" (by decide)) (fun _ _ _ _ _ _ us hl => match us, hl with | [_, _, _], _ => rfl) ⟨rfl, rfl, rfl, nd_is_guesser_paper, rfl, by decide +kernel, by decide +kernel⟩ (b_is_guesser_paper (Gs_of c X N) (d_need_bounds c X N)) rfl rfl (by decide)
theorem d_School___init__ (c : Says h K) (X : K.In h) (N : h.Ns mainGlobals mg) : MakeD P w K mg base T 5 "School" 2 [] D_School___init__ := ⟨glo c X N "School" (by decide), _, mkr_School c, fnM_z (ps := ["self", "lot"]) (c.fn z_53 (List.mem_of_getElem? (i := 53) rfl)) rfl (fun _ _ _ _ _ _ us hl => match us, hl with | [_, _], _ => rfl) ⟨rfl, rfl, rfl, nd_School___init__, rfl, by decide +kernel, by decide +kernel⟩ (b_School___init__ (Gs_of c X N) (d_need_rowed c X N)) rfl rfl (by decide)⟩
theorem d_school_text (c : Says h K) (X : K.In h) (N : h.Ns mainGlobals mg) : FnD P w K mg base T 1 "school_text" 1 false [] D_school_text := fnD_z (ps := ["school"]) (c.fn z_54 (List.mem_of_getElem? (i := 54) rfl)) rfl (glo c X N "school_text" (by decide)) (fun _ _ _ _ _ _ us hl => match us, hl with | [_], _ => rfl) ⟨rfl, rfl, rfl, nd_school_text, rfl, by decide +kernel, by decide +kernel⟩ (b_school_text (Gs_of c X N) ) rfl rfl (by decide)
theorem dv_v1_least_wrong_least_share_most_mistakes__law_words (c : Says h K) (X : K.In h) (N : h.Ns mainGlobals mg) : ∀ z ∈ v1_least_wrong_least_share_most_mistakes__law_words, ∃ n, FnD P w K mg base T 5 z.1 n false z.2.2 z.2.1 ∧ ∀ ds r o, z.2.1 ds = some (r, o) → ds.length = n := fun z hz => by
  rcases List.mem_cons.mp hz with rfl | hz
  · exact ⟨_, fnD_mono (d_least_wrong c X N) (by decide), fun a r o h => defn_len (g := g_least_wrong) a r o (show D_least_wrong a = some (r, o) from h)⟩
  rcases List.mem_cons.mp hz with rfl | hz
  · exact ⟨_, fnD_mono (d_least_share c X N) (by decide), fun a r o h => defn_len (g := g_least_share) a r o (show D_least_share a = some (r, o) from h)⟩
  rw [List.mem_singleton.mp hz]
  exact ⟨_, fnD_mono (d_most_mistakes c X N) (by decide), fun a r o h => defn_len (g := g_most_mistakes) a r o (show D_most_mistakes a = some (r, o) from h)⟩
theorem dv_v2_wrong_guesser_paper_share_paper_mean_wrong_keeps_paper_forces_paper_always_paper_lot_of_sentence_sentence_text__law_words (c : Says h K) (X : K.In h) (N : h.Ns mainGlobals mg) : ∀ z ∈ v2_wrong_guesser_paper_share_paper_mean_wrong_keeps_paper_forces_paper_always_paper_lot_of_sentence_sentence_text__law_words, ∃ n, FnD P w K mg base T 8 z.1 n false z.2.2 z.2.1 ∧ ∀ ds r o, z.2.1 ds = some (r, o) → ds.length = n := fun z hz => by
  rcases List.mem_cons.mp hz with rfl | hz
  · exact ⟨_, fnD_mono (d_wrong c X N) (by decide), fun a r o h => defn_len (g := g_wrong) a r o (show D_wrong a = some (r, o) from h)⟩
  rcases List.mem_cons.mp hz with rfl | hz
  · exact ⟨_, fnD_mono (d_guesser_paper c X N) (by decide), fun a r o h => defn_len (g := g_guesser_paper) a r o (show D_guesser_paper a = some (r, o) from h)⟩
  rcases List.mem_cons.mp hz with rfl | hz
  · exact ⟨_, fnD_mono (d_share_paper c X N) (by decide), fun a r o h => defn_len (g := g_share_paper) a r o (show D_share_paper a = some (r, o) from h)⟩
  rcases List.mem_cons.mp hz with rfl | hz
  · exact ⟨_, fnD_mono (d_mean_wrong c X N) (by decide), fun a r o h => defn_len (g := g_mean_wrong) a r o (show D_mean_wrong a = some (r, o) from h)⟩
  rcases List.mem_cons.mp hz with rfl | hz
  · exact ⟨_, fnD_mono (d_keeps_paper c X N) (by decide), fun a r o h => defn_len (g := g_keeps_paper) a r o (show D_keeps_paper a = some (r, o) from h)⟩
  rcases List.mem_cons.mp hz with rfl | hz
  · exact ⟨_, fnD_mono (d_forces_paper c X N) (by decide), fun a r o h => defn_len (g := g_forces_paper) a r o (show D_forces_paper a = some (r, o) from h)⟩
  rcases List.mem_cons.mp hz with rfl | hz
  · exact ⟨_, fnD_mono (d_always_paper c X N) (by decide), fun a r o h => defn_len (g := g_always_paper) a r o (show D_always_paper a = some (r, o) from h)⟩
  rcases List.mem_cons.mp hz with rfl | hz
  · exact ⟨_, fnD_mono (d_lot_of_sentence c X N) (by decide), fun a r o h => defn_len (g := g_lot_of_sentence) a r o (show D_lot_of_sentence a = some (r, o) from h)⟩
  rw [List.mem_singleton.mp hz]
  exact ⟨_, fnD_mono (d_sentence_text c X N) (by decide), fun a r o h => defn_len (g := g_sentence_text) a r o (show D_sentence_text a = some (r, o) from h)⟩
theorem dv_v3_is_share_paper_is_keeps_paper_is_forces_paper_true_of_settling__law_words (c : Says h K) (X : K.In h) (N : h.Ns mainGlobals mg) : ∀ z ∈ v3_is_share_paper_is_keeps_paper_is_forces_paper_true_of_settling__law_words, ∃ n, FnD P w K mg base T 7 z.1 n false z.2.2 z.2.1 ∧ ∀ ds r o, z.2.1 ds = some (r, o) → ds.length = n := fun z hz => by
  rcases List.mem_cons.mp hz with rfl | hz
  · exact ⟨_, fnD_mono (d_is_share_paper c X N) (by decide), fun a r o h => defn_len (g := g_is_share_paper) a r o (show D_is_share_paper a = some (r, o) from h)⟩
  rcases List.mem_cons.mp hz with rfl | hz
  · exact ⟨_, fnD_mono (d_is_keeps_paper c X N) (by decide), fun a r o h => defn_len (g := g_is_keeps_paper) a r o (show D_is_keeps_paper a = some (r, o) from h)⟩
  rcases List.mem_cons.mp hz with rfl | hz
  · exact ⟨_, fnD_mono (d_is_forces_paper c X N) (by decide), fun a r o h => defn_len (g := g_is_forces_paper) a r o (show D_is_forces_paper a = some (r, o) from h)⟩
  rcases List.mem_cons.mp hz with rfl | hz
  · exact ⟨_, fnD_mono (d_true_of c X N) (by decide), fun a r o h => defn_len (g := g_true_of) a r o (show D_true_of a = some (r, o) from h)⟩
  rw [List.mem_singleton.mp hz]
  exact ⟨_, fnD_mono (d_settling c X N) (by decide), fun a r o h => defn_len (g := g_settling) a r o (show D_settling a = some (r, o) from h)⟩
theorem d__law_words (c : Says h K) (X : K.In h) (N : h.Ns mainGlobals mg) (tY : TabsY K mg base T ys) : FnD P w K mg base T 11 "_law_words" 3 false [] D__law_words := fnD_zC (ps := ["odd", "empty", "one"]) (c.fn z_55 (List.mem_of_getElem? (i := 55) rfl)) rfl (glo c X N "_law_words" (by decide)) (fun _ _ _ _ _ _ us hl => match us, hl with | [_, _, _], _ => rfl) ⟨rfl, rfl, rfl, nd__law_words, rfl, by decide +kernel, by decide +kernel⟩ (b__law_words (Gs_of (base := base) c X N) (tY _ (List.mem_of_getElem? (i := 0) rfl : (("_law_words", q__law_words) : Str × Str) ∈ ys)).1 (tY _ (List.mem_of_getElem? (i := 0) rfl : (("_law_words", q__law_words) : Str × Str) ∈ ys)).2.1 (tY _ (List.mem_of_getElem? (i := 0) rfl : (("_law_words", q__law_words) : Str × Str) ∈ ys)).2.2 (d__law_named c X N) (d_always_paper c X N) (d_is_guesser c X N) (d_is_guesser_paper c X N) (d_school_text c X N) (dv_v1_least_wrong_least_share_most_mistakes__law_words c X N) (dv_v2_wrong_guesser_paper_share_paper_mean_wrong_keeps_paper_forces_paper_always_paper_lot_of_sentence_sentence_text__law_words c X N) (dv_v3_is_share_paper_is_keeps_paper_is_forces_paper_true_of_settling__law_words c X N) (d_School___init__ c X N)) rfl rfl (by decide)
end K10

namespace K10
open PySem DL
/-! ### draws -/
theorem blend_mod {g : Int} (hg : 0 < g) {b : Int} (c : List Int) (y0 y2 y3 y5 : Option D) (hb : 0 ≤ b ∧ b < g) : ∃ b' y5', (0 ≤ b' ∧ b' < g) ∧ forL (aset 5) g__law_blend_b0 (c.map .int) [y0, some (.int g), y2, y3, some (.int b), y5] = some (.nx, [y0, some (.int g), y2, y3, some (.int b'), y5']) := by
  obtain ⟨e', h1, b', y5', hb', h2⟩ := forL_map (xs := c) (g := D.int) (a := aset 5) (body := g__law_blend_b0)
    (I := fun d env => ∃ b y5, (0 ≤ b ∧ b < g) ∧ env = [y0, some (.int g), y2, y3, some (.int b), y5]) (env := [y0, some (.int g), y2, y3, some (.int b), y5]) ⟨b, y5, hb, rfl⟩ fun d x env hx hp ⟨b, y5, hb, he⟩ => by
      subst he
      exact ⟨[y0, some (.int g), y2, y3, some (.int b), some (.int x)], [y0, some (.int g), y2, y3, some (.int ((b * 48271 + x) % g)), some (.int x)], by simp, by simp [g__law_blend_b0, φ_mul (a := b) (b := 48271) (by omega), φ_mod hg], _, _, ⟨Int.emod_nonneg _ (by omega), Int.emod_lt_of_pos _ hg⟩, rfl⟩
  exact ⟨b', y5', hb', by rw [h1, h2]⟩
variable {l c : List Int} {r t x : Int}
theorem blend_ok : ∃ i t', D__law_blend [tapeD l r c t] = some (.val (.int i), [tapeD l r c t']) := by
  have gs : ∀ g ∈ [(2147483629 : Int), 2147483587, 2147483579], 0 < g ∧ g < 2147483648 := by decide
  have s1 : sasg (pop (consO (.e (pop (consO (.pk 0) (consO (.e (xc (.str "turn"))) nilA)) φIx)) (consO (.e (xc (.int 1))) nilA)) φAdd) (asub (pvar 0) (xc (.str "turn"))) [some (tapeD l r c t), none, none, none, none, none] = some (.nx, [some (tapeD l r c (t + 1)), none, none, none, none, none]) := by
    have := ap_asub (env := [some (tapeD l r c t), none, none, none, none, none]) (i := 0) (kf := xc (.str "turn")) rfl rfl rfl (st_turn (l := l) (r := r) (c := c) (t := t) (x := t + 1))
    simp [tp_turn, this]
  obtain ⟨e', h1, y1, f, y4, y5, h2⟩ := forL_map (xs := [(2147483629 : Int), 2147483587, 2147483579]) (g := D.int) (a := aset 1) (body := g__law_blend_b1)
    (I := fun d env => ∃ y1 f y4 y5, env = [some (tapeD l r c (t + 1)), y1, some (.int (t + 1)), some (.int f), y4, y5]) (env := [some (tapeD l r c (t + 1)), none, some (.int (t + 1)), some (.int 0), none, none]) ⟨none, 0, none, none, rfl⟩ fun d g env hg hp ⟨y1, f, y4, y5, he⟩ => by
      subst he
      obtain ⟨g0, g1⟩ := gs g hg
      obtain ⟨b', y5', hb', hl⟩ := blend_mod (g := g) g0 (b := ((t + 1) * 69621 + g / 7) % g) c (some (tapeD l r c (t + 1))) (some (.int (t + 1))) (some (.int f)) y5 ⟨Int.emod_nonneg _ (by omega), Int.emod_lt_of_pos _ g0⟩
      refine ⟨[some (tapeD l r c (t + 1)), some (.int g), some (.int (t + 1)), some (.int f), y4, y5], [some (tapeD l r c (t + 1)), some (.int g), some (.int (t + 1)), some (.int (f * 2147483647 + b' ^ 5 % g)), some (.int b'), y5'], by simp, ?_, some (.int g), _, some (.int b'), y5', rfl⟩
      simp [g__law_blend_b1, φ_mul (a := t + 1) (b := 69621) (by omega), φ_div (a := g) (b := 7) (by omega), φ_mod g0, tp_cells]
      rw [hl]
      simp [φ_mul (a := f) (b := 2147483647) (by omega), pow5 g1 hb', φ_mod g0]
  refine ⟨f, t + 1, ?_⟩
  have kg : kAny [.lst false (fzs [D.int 2147483629, .int 2147483587, .int 2147483579])] = some ([(2147483629 : Int), 2147483587, 2147483579].map .int) := rfl
  have hz : (3 : Nat) ≤ SZ := SZ_le (by omega)
  have fzl : fz (.lst true [D.int 2147483629, .int 2147483587, .int 2147483579]) = .lst false (fzs [D.int 2147483629, .int 2147483587, .int 2147483579]) := rfl
  have h1' := h1
  simp only [List.map_cons, List.map_nil] at h1' kg
  simp [-ap_sasg, D__law_blend, defn, g__law_blend, s1, tp_turn, fzl, kg, hz]
  rw [h1', h2]
  simp
theorem begun_ok {ns : List Int} (h : ns.length ≤ 63) : ∃ l c, D__law_begun [.scr ns] = some (.val (tapeD l 0 c 0), []) := by
  have hz : ns.length ≤ SZ := SZ_le (by omega)
  let l := (ns.filter fun x => decide ((if x < 0 then -x else x) ≥ 10 ^ 18)).map fun x => (if x < 0 then -x else x) - 10 ^ 18
  let c := ns.map fun x => if x < 0 then -x else x
  have x1 : xlc [2] (ix (consA (xvar 0) nilA) kAny) (aset 2) g__law_begun_t1 g__law_begun_e0 [some (.scr ns), none, none] = some (.val (.lst true (l.map .int)), [some (.scr ns), none, none]) := by
    refine Eq.trans (xlcF (xs := ns) (q := D.int) (p := fun x => decide ((if x < 0 then -x else x) ≥ 10 ^ 18)) (y := fun x => .int ((if x < 0 then -x else x) - 10 ^ 18)) rfl (by simp) hz fun x hx => ⟨_, rfl, rfl, fun _ => ⟨rfl, rfl⟩, rfl⟩) ?_
    simp only [l, List.map_map]
    rfl
  have x2 : xlc [2] (ix (consA (xvar 0) nilA) kAny) (aset 2) (xc (.bl true)) (pop (consO (.pk 2) (nilA)) (φAbs)) [some (.scr ns), none, none] = some (.val (.lst true (c.map .int)), [some (.scr ns), none, none]) := by
    refine Eq.trans (xlcM (xs := ns) (q := D.int) (y := fun x => .int (if x < 0 then -x else x)) rfl (by simp) hz fun x hx => ⟨_, rfl, rfl, rfl, rfl⟩) ?_
    simp only [c, List.map_map]
    rfl
  have f2 : fz (.lst true (c.map .int)) = .lst false (c.map .int) := by rw [fz_lstT, fzs_ints]
  refine ⟨l, c, ?_⟩
  have xd : xdic [(xc (.str "large"), xmv 1), (xc (.str "rest"), xc (.int 0)), (xc (.str "cells"), xfz (xlc [2] (ix (consA (xvar 0) nilA) kAny) (aset 2) (xc (.bl true)) (pop (consO (.pk 2) (nilA)) (φAbs)))), (xc (.str "turn"), xc (.int 0))] [some (.scr ns), some (.lst true (l.map .int)), none] = some (.val (tapeD l 0 c 0), [some (.scr ns), none, none]) := by
    have hg : gpairs [(xc (.str "large"), xmv 1), (xc (.str "rest"), xc (.int 0)), (xc (.str "cells"), xfz (xlc [2] (ix (consA (xvar 0) nilA) kAny) (aset 2) (xc (.bl true)) (pop (consO (.pk 2) (nilA)) (φAbs)))), (xc (.str "turn"), xc (.int 0))] [some (.scr ns), some (.lst true (l.map .int)), none] =
        some (.vals [.tmp (.str "large"), .tmp (.lst true (l.map .int)), .tmp (.str "rest"), .tmp (.int 0), .tmp (.str "cells"), .tmp (.lst false (c.map .int)), .tmp (.str "turn"), .tmp (.int 0)], [some (.scr ns), none, none]) := by
      simp only [gpairs, ap_consA, ap_xc, ap_xmv, List.getElem?_cons_succ, List.getElem?_cons_zero, List.set_cons_succ, List.set_cons_zero, ap_xfz, x2, f2, ap_nilA]
    unfold xdic
    rw [hg]
    rfl
  simp [-ap_xlc, D__law_begun, defn, g__law_begun, x1]
  rw [xd]
theorem draw_ok {d : D} {n : Int} (h : IsTape d) (hn : 0 < n ∧ n < 1073741824) : ∃ i d', D__law_draw [d, .int n] = some (.val (.int i), [d']) ∧ IsTape d' ∧ 0 ≤ i ∧ i < n := by
  obtain ⟨l, r, c, t, rfl⟩ := h
  have key : ∃ l' r' t', g__law_draw_s0 [some (tapeD l r c t), some (.int n), none] = some (.nx, [some (tapeD l' r' c t'), some (.int n), none]) := by
    by_cases hr : r = 0
    · subst hr
      cases l with
      | nil =>
        obtain ⟨i, t', hb⟩ := blend_ok (l := []) (r := 0) (c := c) (t := t)
        refine ⟨[], i, t', ?_⟩
        have s1 := ap_asub (env := [some (tapeD [] 0 c t'), some (.int n), none]) (i := 0) (kf := xc (.str "rest")) rfl rfl rfl (st_rest (l := []) (r := 0) (c := c) (t := t') (x := i))
        simp [g__law_draw_s0, tp_rest, tp_ne, hb, s1]
      | cons x l =>
        refine ⟨l, x, t, ?_⟩
        have s1 := ap_asub (env := [some (tapeD l 0 c t), some (.int n), none]) (i := 0) (kf := xc (.str "rest")) rfl rfl rfl (st_rest (l := l) (r := 0) (c := c) (t := t) (x := x))
        simp [g__law_draw_s0, tp_rest, tp_ne, tp_pop, s1]
    · refine ⟨l, r, t, ?_⟩
      simp [g__law_draw_s0, tp_rest, hr]
  obtain ⟨l', r', t', hk⟩ := key
  refine ⟨r' % n, tapeD l' (r' / n) c t', ?_, ⟨_, _, _, _, rfl⟩, Int.emod_nonneg _ (by omega), Int.emod_lt_of_pos _ hn.1⟩
  have s1 := ap_asub (env := [some (tapeD l' r' c t'), some (.int n), some (.int (r' % n))]) (i := 0) (kf := xc (.str "rest")) rfl rfl rfl (st_rest (l := l') (r := r') (c := c) (t := t') (x := r' / n))
  simp [D__law_draw, defn, g__law_draw, hk, tp_rest, φ_mod hn.1, φ_div hn, s1]
/-- a draw below n, as a natural number -/
theorem drawN {d : D} {n : Nat} (h : IsTape d) (hn : 0 < n ∧ n < 1073741824) : ∃ (i : Nat) (d' : D), D__law_draw [d, .int n] = some (.val (.int i), [d']) ∧ IsTape d' ∧ i < n := by
  obtain ⟨i, d', h1, h2, h3, h4⟩ := draw_ok (n := n) h (by omega)
  refine ⟨i.toNat, d', ?_, h2, by omega⟩
  rw [h1]
  have : ((i.toNat : Nat) : Int) = i := by omega
  rw [this]
theorem pick_ok {d : D} {o : Bool} {xs : List D} (h : IsTape d) (hx : xs ≠ []) (hl : xs.length < 100000) (hf : xs.all fro = true) : ∃ x ∈ xs, ∃ d', D__law_pick [d, .lst o xs] = some (.val x, [d']) ∧ IsTape d' := by
  have h0 : 0 < xs.length := List.length_pos_iff.mpr hx
  obtain ⟨i, d', h1, h2, h3⟩ := draw_ok (n := xs.length) h (by omega)
  obtain ⟨x, hm, h4, _⟩ := ix_lstI (o := o) h3 hf
  exact ⟨x, hm, d', by simp [D__law_pick, defn, g__law_pick, h1, h4], h2⟩
theorem pick_tup {d : D} {xs : List D} (h : IsTape d) (hx : xs ≠ []) (hl : xs.length < 100000) : ∃ x ∈ xs, ∃ d', D__law_pick [d, .tup xs] = some (.val x, [d']) ∧ IsTape d' := by
  have h0 : 0 < xs.length := List.length_pos_iff.mpr hx
  obtain ⟨i, d', h1, h2, h3⟩ := draw_ok (n := xs.length) h (by omega)
  obtain ⟨x, hm, h4, _⟩ := ix_tupI h3
  exact ⟨x, hm, d', by simp [D__law_pick, defn, g__law_pick, h1, h4], h2⟩
theorem pick_row {d : D} {o : Bool} {xs : List (List Int)} (h : IsTape d) (hx : xs ≠ []) (hl : xs.length < 100000) : ∃ x ∈ xs, ∃ d', D__law_pick [d, .lst o (xs.map rowT)] = some (.val (rowT x), [d']) ∧ IsTape d' := by
  obtain ⟨y, hy, d', h1, h2⟩ := pick_ok (o := o) (xs := xs.map rowT) h (by simpa using hx) (by simpa using hl) fro_rows
  obtain ⟨x, hx, rfl⟩ := List.mem_map.mp hy
  exact ⟨x, hx, d', h1, h2⟩
theorem pick_rowT {d : D} {xs : List (List Int)} (h : IsTape d) (hx : xs ≠ []) (hl : xs.length < 100000) : ∃ x ∈ xs, ∃ d', D__law_pick [d, .tup (xs.map rowT)] = some (.val (rowT x), [d']) ∧ IsTape d' := by
  obtain ⟨y, hy, d', h1, h2⟩ := pick_tup (xs := xs.map rowT) h (by simpa using hx) (by simpa using hl)
  obtain ⟨x, hx, rfl⟩ := List.mem_map.mp hy
  exact ⟨x, hx, d', h1, h2⟩
end K10

namespace K10
open PySem PySem.Spec DL
def q_0 : SF := sasg (xcall D__law_begun [] (consO (.e (xvar 0)) (nilA))) (aset 1)
def q_1 : SF := spar3 3 4 5 (consO (.e (xcallR D__law_pick 1 (consO (.e (xlst (consO (.e (xc .non)) (consO (.e (xc (.str "x"))) (consO (.e (xtup (consO (.e (xc .non)) (nilA)))) (consO (.e (xc (.int 9))) (nilA))))))) (nilA)))) (consO (.e (xmake "Lot" D_Lot___init__ [] (consO (.e (xc (.int 2))) (consO (.e (xlst (nilA))) (nilA))))) (consO (.e (xmake "Lot" D_Lot___init__ [] (consO (.e (xc (.int 2))) (consO (.e (xlst (consO (.e (xtup (consO (.e (xc (.int 0))) (consO (.e (xc (.int 0))) (nilA))))) (consO (.e (xtup (consO (.e (xc (.int 0))) (consO (.e (xc (.int 1))) (nilA))))) (consO (.e (xtup (consO (.e (xc (.int 1))) (consO (.e (xc (.int 0))) (nilA))))) (nilA)))))) (nilA))))) (nilA))))
def q_2 : SF := sseq (sasg (pop (consO (.e (pop (consO (.e (pop (consO (.e (pop (consO (.e (pop (consO (.e (pop (consO (.e (xlst (consO (.e (xc (.str "lot"))) (nilA)))) (consO (.e (xc (.int 4))) nilA)) φMulB)) (consO (.e (xlst (consO (.e (xc (.str "guesser"))) (consO (.e (xc (.str "bounds"))) (consO (.e (xc (.str "bounds"))) (nilA)))))) nilA)) φAdd)) (consO (.e (pop (consO (.e (xlst (consO (.e (xc (.str "lot"))) (nilA)))) (consO (.e (xc (.int 4))) nilA)) φMulB)) nilA)) φAdd)) (consO (.e (pop (consO (.e (xlst (consO (.e (xc (.str "rows"))) (nilA)))) (consO (.e (xc (.int 4))) nilA)) φMulB)) nilA)) φAdd)) (consO (.e (pop (consO (.e (xlst (consO (.e (xc (.str "lot"))) (nilA)))) (consO (.e (xc (.int 7))) nilA)) φMulB)) nilA)) φAdd)) (consO (.e (pop (consO (.e (xlst (consO (.e (xc (.str "rows"))) (nilA)))) (consO (.e (xc (.int 7))) nilA)) φMulB)) nilA)) φAdd) (aset 2)) (sseq (sasg (pop (consO (.e (pop (consO (.e (pop (consO (.e (pop (consO (.pk 2) (consO (.e (xlst (consO (.e (xc (.str "share"))) (consO (.e (xc (.str "share"))) (consO (.e (xc (.str "number"))) (consO (.e (xc (.str "number"))) (consO (.e (xc (.str "share"))) (consO (.e (xc (.str "number"))) (consO (.e (xc (.str "number"))) (nilA)))))))))) nilA)) φAdd)) (consO (.e (pop (consO (.e (xlst (consO (.e (xc (.str "lot"))) (nilA)))) (consO (.e (xc (.int 2))) nilA)) φMulB)) nilA)) φAdd)) (consO (.e (pop (consO (.e (xlst (consO (.e (xc (.str "sentence"))) (nilA)))) (consO (.e (xc (.int 2))) nilA)) φMulB)) nilA)) φAdd)) (consO (.e (pop (consO (.e (xlst (consO (.e (xc (.str "row"))) (nilA)))) (consO (.e (xc (.int 2))) nilA)) φMulB)) nilA)) φAdd) (aset 2)) (sret (pop (consO (.e (xcall D__law_words [] (consO (.e (xvar 3)) (consO (.e (xvar 4)) (consO (.e (xvar 5)) (nilA)))))) (consO (.e (pop (consO (.pk 2) (consO (.e (xlst (consO (.e (xc (.str "lot"))) (consO (.e (xc (.str "places"))) (consO (.e (xc (.str "places"))) (consO (.e (xc (.str "sentence"))) (consO (.e (xc (.str "sentence"))) (consO (.e (xc (.str "sentence"))) (consO (.e (xc (.str "school"))) (nilA)))))))))) nilA)) φAdd)) (nilA))) φEqA)))
theorem law_parts : g_law = sseq q_0 (sseq q_1 q_2) := rfl
def mkL (n : Int) (rs : List D) : Option D := match xmake "Lot" D_Lot___init__ [] (consO (.e (xc (.int n))) (consO (.e (xc (.lst true rs))) nilA)) [] with
  | some (.val d, _) => some d
  | _ => none
def lotE : D := (mkL 2 []).getD .non
def lotR : D := (mkL 2 [.tup [.int 0, .int 0], .tup [.int 0, .int 1], .tup [.int 1, .int 0]]).getD .non
variable {s tp d y2 y3 y4 y5 : Option D}
def isT (r : Option (Fl × DL.Env)) : Bool := match r with
  | some (.ret (.bl true), _) => true
  | _ => false
theorem rest_ok {x : D} (hx : x ∈ [D.non, .str "x", .tup [.non], .int 9]) : ∃ e', q_2 [s, tp, none, some x, some lotE, some lotR] = some (.ret (.bl true), e') := by
  have h : isT (q_2 [s, tp, none, some x, some lotE, some lotR]) = true := by
    rcases List.mem_cons.mp hx with rfl | hx
    · kernel_rfl
    rcases List.mem_cons.mp hx with rfl | hx
    · kernel_rfl
    rcases List.mem_cons.mp hx with rfl | hx
    · kernel_rfl
    rw [List.mem_singleton.mp hx]
    kernel_rfl
  unfold isT at h
  split at h
  · rename_i e' q
    exact ⟨e', q⟩
  · cases h
theorem go {F G : SF} {env e1 : DL.Env} (h : F env = some (.nx, e1)) : sseq F G env = G e1 := by
  rw [ap_sseq, h]
theorem mE : (xmake "Lot" D_Lot___init__ [] (consO (.e (xc (.int 2))) (consO (.e (xlst (nilA))) (nilA)))) [s, tp, none, none, none, none] = some (.val lotE, [s, tp, none, none, none, none]) := by kernel_rfl
theorem mR : (xmake "Lot" D_Lot___init__ [] (consO (.e (xc (.int 2))) (consO (.e (xlst (consO (.e (xtup (consO (.e (xc (.int 0))) (consO (.e (xc (.int 0))) (nilA))))) (consO (.e (xtup (consO (.e (xc (.int 0))) (consO (.e (xc (.int 1))) (nilA))))) (consO (.e (xtup (consO (.e (xc (.int 1))) (consO (.e (xc (.int 0))) (nilA))))) (nilA)))))) (nilA)))) [s, tp, none, none, none, none] = some (.val lotR, [s, tp, none, none, none, none]) := by kernel_rfl
theorem four : (xlst (consO (.e (xc .non)) (consO (.e (xc (.str "x"))) (consO (.e (xtup (consO (.e (xc .non)) (nilA)))) (consO (.e (xc (.int 9))) (nilA)))))) [s, tp, none, none, none, none] = some (.val (.lst true [.non, .str "x", .tup [.non], .int 9]), [s, tp, none, none, none, none]) := by rfl
theorem law_true {ns : List Int} (hl : ns.length ≤ 63) : D_law [.scr ns] = some (.val (.bl true), []) := by
  obtain ⟨l, c, hb⟩ := begun_ok hl
  have e0 : q_0 [some (.scr ns), none, none, none, none, none] = some (.nx, [some (.scr ns), some (tapeD l 0 c 0), none, none, none, none]) := by
    simp only [q_0, ap_sasg, ap_xcall, ap_consOe, ap_consA, ap_xvar, List.getElem?_cons_succ, List.getElem?_cons_zero, fro_scr, cond_true, ap_nilA, ap_tmps0, ap_tmps1, Option.map_some, List.append_nil, hb, ap_aset, List.set_cons_succ, List.set_cons_zero]
  obtain ⟨x, hx, d', hp, _⟩ := pick_ok (o := true) (xs := [D.non, .str "x", .tup [.non], .int 9]) (d := tapeD l 0 c 0) ⟨_, _, _, _, rfl⟩ (by simp) (by decide) (by decide)
  have e1 : q_1 [some (.scr ns), some (tapeD l 0 c 0), none, none, none, none] = some (.nx, [some (.scr ns), some d', none, some x, some lotE, some lotR]) := by
    have hk : (xcallR D__law_pick 1 (consO (.e (xlst (consO (.e (xc .non)) (consO (.e (xc (.str "x"))) (consO (.e (xtup (consO (.e (xc .non)) (nilA)))) (consO (.e (xc (.int 9))) (nilA))))))) (nilA))) [some (.scr ns), some (tapeD l 0 c 0), none, none, none, none] = some (.val x, [some (.scr ns), some d', none, none, none, none]) := by
      simp only [ap_xcallR, List.getElem?_cons_succ, List.getElem?_cons_zero, ap_consOe, ap_consA, four, ap_nilA, ap_tmps0, ap_tmps1, Option.map_some, hp, List.set_cons_succ, List.set_cons_zero]
    unfold q_1 spar3
    simp only [ap_consOe, ap_consA, hk, mE, mR, ap_nilA, ap_tmps0, ap_tmps1, Option.map_some]
    rfl
  obtain ⟨e', e2⟩ := rest_ok (s := some (.scr ns)) (tp := some d') hx
  have key : g_law [some (.scr ns), none, none, none, none, none] = some (.ret (.bl true), e') := by
    rw [law_parts, go e0, go e1, e2]
  have he : ([D.scr ns].map some ++ List.replicate 5 none : DL.Env) = [some (.scr ns), none, none, none, none, none] := rfl
  unfold D_law defn
  rw [if_pos (show [D.scr ns].length = 1 from rfl), he, key]
  rfl
end K10

open PySem PySem.W PySem.Calls PyProof.Rows
theorem K10.fin (hm : ∀ ns : List Int, ns.length ≤ 63 → (∀ z ∈ ns, Builtin.Int.intBits z ≤ 1048576) → K10.D_law [.scr ns] = some (.val (.bl true), [])) : PySem.Challenge.rw_fullfree_k10_whole_errors_first_due.Holds := by
  w_on; o_law
  refine HandSHeadRun.head_any (r := OpenLaw.row PySem.Challenge.rw_fullfree_k10_whole_errors_first_due) (q := view (OpenLaw.row PySem.Challenge.rw_fullfree_k10_whole_errors_first_due).prog [126]) (H := K10.hk) (ob := K10.ob) (M := 8000) (loose := K10.loose) (d := HandSHeadRun.topDef (OpenLaw.row PySem.Challenge.rw_fullfree_k10_whole_errors_first_due).prog 126) (kwd := []) K10.ob_eq
    (by kernel_rfl) (fun s => by kernel_rfl) K10.run (by kernel_rfl) (by kernel_rfl) (by kernel_rfl) (by rfl) (by first | assumption | decide +kernel) (by decide +kernel) ⟨rfl, rfl, rfl, rfl, rfl, by decide +kernel⟩ ?hw ?hc
  case hw => w_witness2
  case hc =>
    refine LamX.walk_ofTsE (l := PySem.Challenge.rw_fullfree_k10_whole_errors_first_due) (n := 63) (k := 12) (x := "script") (CX := L2.CX PySem.Challenge.rw_fullfree_k10_whole_errors_first_due.prog) rfl (by decide) (by kernel_rfl) ⟨rfl, by decide, by decide⟩ ?F (fun _ _ _ _ _ z => DL.cx_false z)
    intro w mg fa h Y N hmg0
    obtain ⟨K, X, c⟩ := Y
    have hmg : mg ("law" : PySem.Str) = some (.ref fa) := by
      have e : (HandSHeadRun.topDef (OpenLaw.row PySem.Challenge.rw_fullfree_k10_whole_errors_first_due).prog 126).name = ("law" : PySem.Str) := by kernel_rfl
      rw [← e]
      exact hmg0
    have e := hmg.symm.trans (K10.glo c X N "law" (by decide))
    cases e
    refine ⟨K, X, ?_⟩
    open K10 in
    exact DL.law_atM (ys := ys) (N := N_law) (g := g_law) (d := z_56) (x := "law") (py := "script") (k := 11) X c (ndY c) (List.mem_of_getElem? (i := 56) rfl) rfl rfl (fun _ _ _ _ _ _ us hl => match us, hl with | [_], _ => rfl) ⟨rfl, rfl, rfl, nd_law, rfl, by decide +kernel, by decide +kernel⟩ rfl
      (fun base T tY => .inl (b_law (Gs_of (base := base) c X N) (d__law_begun c X N) (d__law_pick c X N) (d__law_words c X N tY) (d_Lot___init__ c X N))) hm

theorem PySem.Challenge.cw_fullfree_k10_whole_errors_first_due_holds : PySem.Challenge.rw_fullfree_k10_whole_errors_first_due.Holds :=
  K10.fin fun ns h _ => K10.law_true h
