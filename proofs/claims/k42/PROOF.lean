import PyProof.Rows.All
import Wide.All
import OpenK.AllK
import Wide.FinOn
import HandS.ForMost
import HandS.ForExc
import HandS.Style
import HandS.Deep
import HandS.WideBits
import HandS.Wide
import HandS.TupLe
import PyProof.StrOps2
import HandS.IsInst
import HandS.Conv
import HandS.More
import HandS.SortInts
import KE.SortData
import HandS.Rev
import HandS.EndBits
import KE.DataMinMax
import HandS.RevTup
import HandS.SetFor
import HandS.Strs
import HandS.TryMany
import HandS.ExcField
import HandS.ExcIs
import HandS.ExcValue
import HandS.ExcInit
import KE.KTryMore
import KE.DataCmp
import PySem.Challenge.RW_court_k42_whole_choices_listed
set_option Elab.async false
set_option linter.all false
set_option maxRecDepth 100000
set_option maxHeartbeats 4000000
section
/-! FL, part A: data, results, the state relation. -/
namespace FL
open PySem L2

abbrev D := PyData
/-- a result: a value, a refusal (the error as a datum), nothing known -/
inductive Rs (α : Type) where
  | ok (a : α) | er (e : D) | no
def Rs.bind {α β : Type} : Rs α → (α → Rs β) → Rs β
  | .ok a, f => f a
  | .er e, _ => .er e
  | .no, _ => .no
theorem Rs.bind_ok {α β : Type} {a : α} {f : α → Rs β} : (Rs.ok a).bind f = f a := rfl
theorem Rs.bind_er {α β : Type} {e : D} {f : α → Rs β} : (Rs.er e : Rs α).bind f = .er e := rfl
theorem Rs.bind_no {α β : Type} {f : α → Rs β} : (Rs.no : Rs α).bind f = .no := rfl

/-- the written part, and what the module's names hold -/
structure Tx where
  K : PySem.W.Frag
  mg : Str → Option Value
/-- the class that a datum names: by the module's name, or by its shorter one -/
def Tx.cl (K : Tx) (c : Str) : Option Value := match K.mg c with
  | some v => some v
  | none => if c = "Ground_dealing" ∨ c = "Ground_verdict" then K.mg "Ground" else none
end FL
namespace L2
abbrev Cx.T (X : Cx) : FL.Tx := ⟨X.K, X.mg⟩
end L2
namespace FL
open PySem L2
/-- an object of an own class, an error of one, a reference to the store: as data -/
def objD (c : Str) (fs : List (Str × D)) : D := .dict ((.bool true, .str c) :: fs.map fun p => (.str p.1, p.2))
def excD (c : Str) (fs : List (Str × D)) : D := .dict ((.bool false, .str c) :: fs.map fun p => (.str p.1, p.2))
def refD (j : Nat) : D := .dict [(.none, .int j)]
def isRef : D → Bool
  | .dict ((.none, .int _) :: _) => true
  | _ => false
mutual
/-- a reference, or a tuple with one within -/
def hasRef : D → Bool
  | .tuple ds => hasRefAll ds
  | .dict ((.none, .int _) :: _) => true
  | _ => false
def hasRefAll : List D → Bool
  | [] => false
  | d :: ds => hasRef d || hasRefAll ds
end
theorem hasRefAll_any : ∀ {ds : List D}, hasRefAll ds = ds.any hasRef
  | [] => rfl
  | d :: ds => by rw [hasRefAll, List.any_cons, hasRefAll_any]
theorem hasRef_ref {j : Nat} : hasRef (refD j) = true := by rw [refD, hasRef]
theorem fs_inj : ∀ {fs gs : List (Str × D)}, (fs.map fun p => ((.str p.1, p.2) : D × D)) = gs.map (fun p => (.str p.1, p.2)) → fs = gs
  | [], [], _ => rfl
  | [], _ :: _, h => by cases h
  | _ :: _, [], h => by cases h
  | (f, d) :: fs, (g, e) :: gs, h => by
    rw [List.map_cons, List.map_cons] at h
    injection h with h1 h2
    injection h1 with h3 h4
    injection h3 with h3
    subst h3 h4
    rw [fs_inj h2]
theorem objD_inj {c c' : Str} {fs gs : List (Str × D)} (h : objD c fs = objD c' gs) : c = c' ∧ fs = gs := by
  unfold objD at h
  injection h with h
  injection h with h1 h2
  injection h1 with _ h1
  injection h1 with h1
  exact ⟨h1, fs_inj h2⟩
theorem excD_inj {c c' : Str} {fs gs : List (Str × D)} (h : excD c fs = excD c' gs) : c = c' ∧ fs = gs := by
  unfold excD at h
  injection h with h
  injection h with h1 h2
  injection h1 with _ h1
  injection h1 with h1
  exact ⟨h1, fs_inj h2⟩
theorem refD_inj {i j : Nat} (h : refD i = refD j) : i = j := by
  unfold refD at h
  injection h with h
  injection h with h _
  injection h with _ h
  injection h with h
  omega
/-- an error that stands still: its class, its own dict -/
def ExH (cls : Value) (d : Option Addr) (a : Addr) : HO := .ext fun h => ∃ (oe : Obj) (vs : Array Value), h.get? a = some oe ∧ Zc cls d oe ∧ oe.data = .fields vs
def XdOk (H : Hp) : Option Addr → List (Str × V) → Prop
  | none, fs => fs = []
  | some dd, fs => H dd = some (.xd fs)

/-! ### heaps -/
open Classical in
/-- the heap without the addresses at O -/
noncomputable def hide (O : Addr → Prop) (H : Hp) : Hp := fun b => if O b then none else H b
theorem hide_sub {O : Addr → Prop} {H : Hp} : Same (hide O H) H := fun b o e => by
  unfold hide at e
  by_cases h : O b
  · rw [if_pos h] at e; cases e
  · rw [if_neg h] at e; exact e
theorem hide_at {O : Addr → Prop} {H : Hp} {b : Addr} (h : ¬ O b) : hide O H b = H b := by unfold hide; rw [if_neg h]
theorem hide_in {O : Addr → Prop} {H : Hp} {b : Addr} (h : O b) : hide O H b = none := by unfold hide; rw [if_pos h]
theorem hide_some {O : Addr → Prop} {H : Hp} {b : Addr} {o : HO} (e : hide O H b = some o) : ¬ O b ∧ H b = some o := by
  by_cases h : O b
  · rw [hide_in h] at e; cases e
  · exact ⟨h, by rw [hide_at h] at e; exact e⟩
theorem hide_same {O : Addr → Prop} {H H' : Hp} (s : Same H H') : Same (hide O H) (hide O H') := fun b o e => by
  obtain ⟨h, e⟩ := hide_some e
  rw [hide_at h]; exact s b o e
theorem hide_less {O O' : Addr → Prop} {H : Hp} (h : ∀ p, O' p → O p) : Same (hide O H) (hide O' H) := fun b o e => by
  obtain ⟨n, e⟩ := hide_some e
  rw [hide_at fun z => n (h b z)]; exact e
theorem hide_upd {O : Addr → Prop} {H : Hp} {p : Addr} {o : HO} (h : O p) : hide O (upd H p o) = hide O H := by
  funext b
  by_cases hb : O b
  · rw [hide_in hb, hide_in hb]
  · have n : b ≠ p := fun e => hb (by rw [e]; exact h)
    rw [hide_at hb, hide_at hb, upd_ne n]
theorem same_upd {H : Hp} {p : Addr} {o : HO} (h : H p = none) : Same H (upd H p o) := fun b u e => by
  rw [upd_ne (ne_of_none e h)]; exact e
theorem Same.seqT {K : Tx} {H H' : Hp} {a : Addr} {xs : List V} (e : Same H H') (h : SqT K.K H a xs) : SqT K.K H' a xs := by
  rcases h with (h | ⟨o, h⟩) | h
  · exact .inl (.inl (e _ _ h))
  · exact .inl (.inr ⟨o, e _ _ h⟩)
  · exact .inr h
/-- the law's script as a datum: a mark of its own -/
def scrD (ns : List Int) : D := .dict [(.none, .list (ns.map .int))]
mutual
/-- v stands for the datum d -/
inductive Dq (K : Tx) (H : Hp) : V → D → Prop
  | non : Dq K H .non .none
  | bl (b : Bool) : Dq K H (.bl b) (.bool b)
  | int (i : Int) : Dq K H (.int i) (.int i)
  | str (x : Str) : Dq K H (.str x) (.str x)
  | lst {a : Addr} {xs : List V} {ds : List D} : H a = some (.lst xs) → DqAll K H xs ds → Dq K H (.ref a) (.list ds)
  | tup {a : Addr} {xs : List V} {ds : List D} : H a = some (.tup xs) → DqAll K H xs ds → Dq K H (.ref a) (.tuple ds)
  | scr {a : Addr} {ns : List Int} : SqL K.K H a (ns.map V.int) → Dq K H (.ref a) (scrD ns)
  | obj {p dx C : Addr} {c : Str} {fs : List (Str × V)} {ds : List (Str × D)} : H p = some (.ins C dx fs) → K.cl c = some (.ref C) → DqFs K H fs ds → Dq K H (.ref p) (objD c ds)
  | exc {a C : Addr} {c : Str} {d : Option Addr} {fs : List (Str × V)} {ds : List (Str × D)} : H a = some (ExH (.ref C) d a) → K.cl c = some (.ref C) → XdOk H d fs → DqFs K H fs ds → Dq K H (.ref a) (excD c ds)
inductive DqAll (K : Tx) (H : Hp) : List V → List D → Prop
  | nil : DqAll K H [] []
  | cons {v : V} {vs : List V} {d : D} {ds : List D} : Dq K H v d → DqAll K H vs ds → DqAll K H (v :: vs) (d :: ds)
inductive DqFs (K : Tx) (H : Hp) : List (Str × V) → List (Str × D) → Prop
  | nil : DqFs K H [] []
  | cons {f : Str} {v : V} {fs : List (Str × V)} {d : D} {ds : List (Str × D)} : Dq K H v d → DqFs K H fs ds → DqFs K H ((f, v) :: fs) ((f, d) :: ds)
end
theorem XdOk.mono {H H' : Hp} (s : Same H H') : ∀ {d : Option Addr} {fs : List (Str × V)}, XdOk H d fs → XdOk H' d fs
  | none, _, h => h
  | some _, _, h => s _ _ h
section
variable {K : Tx} {H H' : Hp}
theorem scrD_inj {ns ms : List Int} (h : scrD ns = scrD ms) : ns = ms := by
  unfold scrD at h
  injection h with h
  injection h with h _
  injection h with _ h
  injection h with h
  have inj : Function.Injective (fun i : Int => (.int i : D)) := fun a b e => by injection e
  exact List.map_inj_right (fun _ _ e => inj e) |>.mp h
mutual
theorem Dq.mono (s : Same H H') : ∀ {v : V} {d : D}, Dq K H v d → Dq K H' v d
  | _, _, .non => .non
  | _, _, .bl b => .bl b
  | _, _, .int i => .int i
  | _, _, .str x => .str x
  | _, _, .lst h a => .lst (s _ _ h) (DqAll.mono s a)
  | _, _, .tup h a => .tup (s _ _ h) (DqAll.mono s a)
  | _, _, .scr h => .scr (Same.seq s h)
  | _, _, .obj h m a => .obj (s _ _ h) m (DqFs.mono s a)
  | _, _, .exc h m x a => .exc (s _ _ h) m (x.mono s) (DqFs.mono s a)
theorem DqAll.mono (s : Same H H') : ∀ {vs : List V} {ds : List D}, DqAll K H vs ds → DqAll K H' vs ds
  | _, _, .nil => .nil
  | _, _, .cons r t => .cons (Dq.mono s r) (DqAll.mono s t)
theorem DqFs.mono (s : Same H H') : ∀ {fs : List (Str × V)} {ds : List (Str × D)}, DqFs K H fs ds → DqFs K H' fs ds
  | _, _, .nil => .nil
  | _, _, .cons r t => .cons (Dq.mono s r) (DqFs.mono s t)
end
mutual
theorem Dq.noref : ∀ {v : V} {d : D}, Dq K H v d → hasRef d = false
  | _, _, .non => by simp [hasRef]
  | _, _, .bl b => by simp [hasRef]
  | _, _, .int i => by simp [hasRef]
  | _, _, .str x => by simp [hasRef]
  | _, _, .lst h a => by simp [hasRef]
  | _, _, .tup h a => by rw [hasRef]; exact DqAll.noref a
  | _, _, .scr h => by simp [scrD, hasRef]
  | _, _, .obj h m a => by simp [objD, hasRef]
  | _, _, .exc h m x a => by simp [excD, hasRef]
theorem DqAll.noref : ∀ {vs : List V} {ds : List D}, DqAll K H vs ds → hasRefAll ds = false
  | _, _, .nil => by rw [hasRefAll]
  | _, _, .cons r t => by rw [hasRefAll, Dq.noref r, DqAll.noref t]; rfl
end
mutual
theorem Dq.dp : ∀ {v : V} {d : D}, Dq K H v d → d.canLay0 = true → Dp K.K H v d
  | _, _, .non, _ => .non
  | _, _, .bl b, _ => .bl b
  | _, _, .int i, _ => .int i
  | _, _, .str x, _ => .str x
  | _, _, .lst h a, c => .lst (SqL.of h) (DqAll.dp a (by simpa [PyData.canLay0] using c))
  | _, _, .tup h a, c => .tup (SqT.of h) (DqAll.dp a (by simpa [PyData.canLay0] using c))
  | _, _, .scr h, c => by simp [scrD, PyData.canLay0] at c
  | _, _, .obj _ _ _, c => by simp [objD, PyData.canLay0] at c
  | _, _, .exc _ _ _ _, c => by simp [excD, PyData.canLay0] at c
theorem DqAll.dp : ∀ {vs : List V} {ds : List D}, DqAll K H vs ds → PyData.canLayAll0 ds = true → DpAll K.K H vs ds
  | _, _, .nil, _ => .nil
  | _, _, .cons r t, c => by
    simp only [PyData.canLayAll0, Bool.and_eq_true] at c
    exact .cons (Dq.dp r c.1) (DqAll.dp t c.2)
end
theorem DqAll.length : ∀ {ds : List D} {vs : List V}, DqAll K H vs ds → vs.length = ds.length
  | _, _, .nil => rfl
  | _, _, .cons _ t => by rw [List.length_cons, List.length_cons, DqAll.length t]
theorem DqAll.get : ∀ {ds : List D} {vs : List V} {i : Nat} {d : D}, DqAll K H vs ds → ds[i]? = some d → ∃ v, vs[i]? = some v ∧ Dq K H v d
  | _, _, i, d, .nil, e => by cases i <;> cases e
  | _, _, 0, d, .cons (v := v) r _, e => by
    cases e
    exact ⟨v, rfl, r⟩
  | _, _, i + 1, d, .cons _ t, e => DqAll.get (i := i) t e
theorem DqAll.getV : ∀ {ds : List D} {vs : List V} {i : Nat} {v : V}, DqAll K H vs ds → vs[i]? = some v → ∃ d, ds[i]? = some d ∧ Dq K H v d
  | _, _, i, v, .nil, e => by cases i <;> cases e
  | _, _, 0, v, .cons (d := d) r _, e => by
    cases e
    exact ⟨d, rfl, r⟩
  | _, _, i + 1, v, .cons _ t, e => DqAll.getV (i := i) t e
theorem DqAll.append : ∀ {ds es : List D} {vs ws : List V}, DqAll K H vs ds → DqAll K H ws es → DqAll K H (vs ++ ws) (ds ++ es)
  | _, _, _, _, .nil, h => h
  | _, _, _, _, .cons r t, h => .cons r (DqAll.append t h)
theorem DqAll.take : ∀ {ds : List D} {vs : List V} (n : Nat), DqAll K H vs ds → DqAll K H (vs.take n) (ds.take n)
  | _, _, 0, _ => .nil
  | _, _, _ + 1, .nil => .nil
  | _, _, n + 1, .cons r t => .cons r (DqAll.take n t)
theorem DqAll.drop : ∀ {ds : List D} {vs : List V} (n : Nat), DqAll K H vs ds → DqAll K H (vs.drop n) (ds.drop n)
  | _, _, 0, h => h
  | _, _, _ + 1, .nil => .nil
  | _, _, n + 1, .cons _ t => DqAll.drop n t
theorem DqAll.set {d : D} {v : V} (r : Dq K H v d) : ∀ {ds : List D} {vs : List V} (n : Nat), DqAll K H vs ds → DqAll K H (vs.set n v) (ds.set n d)
  | _, _, _, .nil => .nil
  | _, _, 0, .cons _ t => .cons r t
  | _, _, n + 1, .cons q t => .cons q (DqAll.set r n t)
theorem DqAll.dropLast {ds : List D} {vs : List V} (h : DqAll K H vs ds) : DqAll K H vs.dropLast ds.dropLast := by
  rw [List.dropLast_eq_take, List.dropLast_eq_take, DqAll.length h]
  exact DqAll.take _ h
theorem DqAll.reverse : ∀ {ds : List D} {vs : List V}, DqAll K H vs ds → DqAll K H vs.reverse ds.reverse
  | _, _, .nil => .nil
  | _, _, .cons r t => by rw [List.reverse_cons, List.reverse_cons]; exact DqAll.append (DqAll.reverse t) (.cons r .nil)
theorem DqAll.ints : ∀ {ns : List Int} {vs : List V}, DqAll K H vs (ns.map .int) → vs = ns.map V.int
  | [], _, h => by cases h; rfl
  | n :: ns, _, h => by
    cases h with
    | cons h1 h2 =>
      cases h1
      rw [DqAll.ints h2]; rfl
theorem DqAll.of_ints : ∀ {ns : List Int}, DqAll K H (ns.map V.int) (ns.map .int)
  | [] => .nil
  | n :: ns => .cons (.int n) DqAll.of_ints
theorem DqAll.bools : ∀ {ns : List Bool} {vs : List V}, DqAll K H vs (ns.map .bool) → vs = ns.map V.bl
  | [], _, h => by cases h; rfl
  | n :: ns, _, h => by
    cases h with
    | cons h1 h2 =>
      cases h1
      rw [DqAll.bools h2]; rfl
theorem DqAll.strs : ∀ {ns : List Str} {vs : List V}, DqAll K H vs (ns.map .str) → vs = ns.map V.str
  | [], _, h => by cases h; rfl
  | n :: ns, _, h => by
    cases h with
    | cons h1 h2 =>
      cases h1
      rw [DqAll.strs h2]; rfl
theorem DqAll.of_strs : ∀ {ns : List Str}, DqAll K H (ns.map V.str) (ns.map .str)
  | [] => .nil
  | n :: ns => .cons (.str n) DqAll.of_strs
end

/-! ### dicts that a name of the def owns: keys ints or texts -/
def kD : Key → D
  | .inl i => .int i
  | .inr x => .str x
inductive DkAll (K : Tx) (H : Hp) : List (Key × V) → List (D × D) → Prop
  | nil : DkAll K H [] []
  | cons {k : Key} {v : V} {d : D} {kvs : List (Key × V)} {ds : List (D × D)} : Dq K H v d → DkAll K H kvs ds → DkAll K H ((k, v) :: kvs) ((kD k, d) :: ds)
theorem DkAll.mono {K : Tx} {H H' : Hp} (s : Same H H') : ∀ {ds : List (D × D)} {vs : List (Key × V)}, DkAll K H vs ds → DkAll K H' vs ds
  | _, _, .nil => .nil
  | _, _, .cons r t => .cons (Dq.mono s r) (DkAll.mono s t)
theorem DkAll.length {K : Tx} {H : Hp} : ∀ {ds : List (D × D)} {vs : List (Key × V)}, DkAll K H vs ds → vs.length = ds.length
  | _, _, .nil => rfl
  | _, _, .cons _ t => by rw [List.length_cons, List.length_cons, DkAll.length t]

/-! ### the state: slots, their data, the store -/
/-- how a slot is held: not at all, shared (never changed again), an own list, an own dict, anything (a reference to the store, too), an own list that is walked, an own dict that is walked -/
inductive Md where
  | no | sh | ow | dk | vr | pn | lk
  deriving DecidableEq
def Md.own : Md → Bool
  | .ow => true
  | .dk => true
  | .pn => true
  | .lk => true
  | _ => false
def Md.pin : Md → Bool
  | .pn => true
  | .lk => true
  | _ => false
theorem Md.pin_own {m : Md} (h : m.own = false) : m.pin = false := by cases m <;> first | rfl | cases h
def OwAt (K : Tx) (O : Addr → Prop) (H : Hp) (p : Addr) (d : D) : Prop := ∃ vs ds, d = .list ds ∧ H p = some (.lst vs) ∧ DqAll K (hide O H) vs ds
def DkAt (K : Tx) (O : Addr → Prop) (H : Hp) (p : Addr) (d : D) : Prop := ∃ kvs ds, d = .dict ds ∧ H p = some (.dK kvs) ∧ DkAll K (hide O H) kvs ds
/-! shared, or a reference to the store, or a tuple of such -/
mutual
inductive Vq (K : Tx) (O : Addr → Prop) (φ : List Addr) (H : Hp) : V → D → Prop
  | inl {v : V} {d : D} : (∃ j a, d = refD j ∧ φ[j]? = some a ∧ v = .ref a) → Vq K O φ H v d
  | inr {v : V} {d : D} : Dq K (hide O H) v d → Vq K O φ H v d
  | tup {a : Addr} {xs : List V} {ds : List D} : hide O H a = some (.tup xs) → VqAll K O φ H xs ds → Vq K O φ H (.ref a) (.tuple ds)
inductive VqAll (K : Tx) (O : Addr → Prop) (φ : List Addr) (H : Hp) : List V → List D → Prop
  | nil : VqAll K O φ H [] []
  | cons {v : V} {vs : List V} {d : D} {ds : List D} : Vq K O φ H v d → VqAll K O φ H vs ds → VqAll K O φ H (v :: vs) (d :: ds)
end
inductive VqFs (K : Tx) (O : Addr → Prop) (φ : List Addr) (H : Hp) : List (Str × V) → List (Str × D) → Prop
  | nil : VqFs K O φ H [] []
  | cons {f : Str} {v : V} {vs : List (Str × V)} {d : D} {ds : List (Str × D)} : Vq K O φ H v d → VqFs K O φ H vs ds → VqFs K O φ H ((f, v) :: vs) ((f, d) :: ds)
inductive VqKs (K : Tx) (O : Addr → Prop) (φ : List Addr) (H : Hp) : List (Key × V) → List (D × D) → Prop
  | nil : VqKs K O φ H [] []
  | cons {k : Key} {v : V} {vs : List (Key × V)} {d : D} {ds : List (D × D)} : Vq K O φ H v d → VqKs K O φ H vs ds → VqKs K O φ H ((k, v) :: vs) ((kD k, d) :: ds)
/-- what stands at the address of a live node of the store -/
inductive NodeOk (K : Tx) (O : Addr → Prop) (φ : List Addr) (H : Hp) : Addr → D → Prop
  | lst {a : Addr} {vs : List V} {ds : List D} : H a = some (.lst vs) → VqAll K O φ H vs ds → NodeOk K O φ H a (.list ds)
  | dct {a : Addr} {vs : List (Key × V)} {ds : List (D × D)} : H a = some (.dK vs) → VqKs K O φ H vs ds → NodeOk K O φ H a (.dict ds)
  | obj {a C dx : Addr} {c : Str} {fs : List (Str × V)} {ds : List (Str × D)} : H a = some (.ins C dx fs) → K.cl c = some (.ref C) → VqFs K O φ H fs ds → NodeOk K O φ H a (objD c ds)
structure StOk (K : Tx) (rw : Bool) (H0 : Hp) (O : Addr → Prop) (φ : List Addr) (H : Hp) (S : List D) : Prop where
  len : φ.length = S.length
  node : ∀ (j : Nat) (a : Addr) (d : D), φ[j]? = some a → S[j]? = some d → d ≠ .none → O a ∧ (rw = true → H0 a = none) ∧ NodeOk K O φ H a d
/-- what a def does not see: addresses; and the store's addresses at its begin -/
structure Out where
  p : Addr → Prop
  φ : List Addr
  /-- the store may be changed -/
  rw : Bool
  /-- slots whose own things are walked: their addresses -/
  pin : Nat → Option Addr
def SlotOk (K : Tx) (H0 : Hp) (O : Addr → Prop) (φ : List Addr) (H : Hp) : Md → Option V → D → Prop
  | .no, _, _ => True
  | .sh, x, d => ∃ v, x = some v ∧ Dq K (hide O H) v d
  | .ow, x, d => ∃ p, x = some (.ref p) ∧ O p ∧ H0 p = none ∧ OwAt K O H p d
  | .dk, x, d => ∃ p, x = some (.ref p) ∧ O p ∧ H0 p = none ∧ DkAt K O H p d
  | .vr, x, d => ∃ v, x = some v ∧ Vq K O φ H v d
  | .pn, x, d => ∃ p, x = some (.ref p) ∧ O p ∧ ∃ vs ds, d = .list ds ∧ H p = some (.lst vs) ∧ DqAll K (hide O H) vs ds ∧ H0 p = some (.lst vs)
  | .lk, x, d => ∃ p, x = some (.ref p) ∧ O p ∧ ∃ od kvs ds, d = .dict ds ∧ H p = some (.frz od (.dK kvs)) ∧ DkAll K (hide O H) kvs ds ∧ H0 p = some (.frz od (.dK kvs))
structure EOkF (K : Tx) (G H0 : Hp) (O0 : Out) (M : List Md) (O : Addr → Prop) (φ : List Addr) (H : Hp) (σ : L2.St) (ρ : List D) : Prop where
  gs : Same G (hide O H)
  base : Same H0 H
  sub : ∀ p, O0.p p → O p
  al0 : ∀ p, O0.p p → H0 p ≠ none
  alive : ∀ p, O p → H p ≠ none
  fr : ∀ p, O p → O0.p p ∨ H0 p = none
  pre : O0.φ <+: φ
  nw : ∀ a ∈ φ, a ∈ O0.φ ∨ H0 a = none
  nod : φ.Nodup
  liv : ∀ a ∈ φ, H a ≠ none
  ls : σ.length = M.length
  lr : M.length ≤ ρ.length
  slot : ∀ (i : Nat) (m : Md) (x : Option V) (d : D), M[i]? = some m → σ[i]? = some x → ρ[i]? = some d → SlotOk K H0 O φ H m x d
  dist : ∀ (i j : Nat) (mi mj : Md) (p : Addr), i ≠ j → M[i]? = some mi → M[j]? = some mj → mi.own = true → mj.own = true → σ[i]? = some (some (.ref p)) → σ[j]? = some (some (.ref p)) → False
  sep : ∀ (i : Nat) (m : Md) (p : Addr), M[i]? = some m → m.own = true → σ[i]? = some (some (.ref p)) → p ∉ φ
  pins : ∀ (i : Nat) (m : Md), M[i]? = some m → m.pin = true → ∃ p, O0.pin i = some p ∧ σ[i]? = some (some (.ref p))
  st : ∀ d, ρ[M.length]? = some d → ∃ S, d = .list S ∧ StOk K O0.rw H0 O φ H S
def EOk (K : Tx) (G H0 : Hp) (O0 : Out) (M : List Md) (O : Addr → Prop) (H : Hp) (σ : L2.St) (ρ : List D) : Prop := ∃ φ, EOkF K G H0 O0 M O φ H σ ρ
section
variable {K : Tx} {G G' H0 H H' : Hp} {O0 : Out} {O O' : Addr → Prop} {φ φ' : List Addr} {M : List Md} {σ : L2.St} {ρ : List D}
theorem OwAt.mono {p : Addr} {d : D} (s : Same H H') : OwAt K O H p d → OwAt K O H' p d := fun ⟨vs, ds, e, h, a⟩ => ⟨vs, ds, e, s _ _ h, DqAll.mono (hide_same s) a⟩
theorem DkAt.mono {p : Addr} {d : D} (s : Same H H') : DkAt K O H p d → DkAt K O H' p d := fun ⟨vs, ds, e, h, a⟩ => ⟨vs, ds, e, s _ _ h, DkAll.mono (hide_same s) a⟩
theorem pre_get {j : Nat} {a : Addr} (h : φ <+: φ') (e : φ[j]? = some a) : φ'[j]? = some a := by
  obtain ⟨t, rfl⟩ := h
  have l := (List.getElem?_eq_some_iff.mp e).1
  rw [List.getElem?_append_left l]; exact e
theorem pre_refl : φ <+: φ := ⟨[], List.append_nil _⟩
mutual
theorem Vq.keep (s : Same (hide O H) (hide O' H')) (h : φ <+: φ') : ∀ {v : V} {d : D}, Vq K O φ H v d → Vq K O' φ' H' v d
  | _, _, .inl ⟨j, a, e1, e2, e3⟩ => .inl ⟨j, a, e1, pre_get h e2, e3⟩
  | _, _, .inr q => .inr (Dq.mono s q)
  | _, _, .tup e q => .tup (s _ _ e) (VqAll.keep s h q)
theorem VqAll.keep (s : Same (hide O H) (hide O' H')) (h : φ <+: φ') : ∀ {vs : List V} {ds : List D}, VqAll K O φ H vs ds → VqAll K O' φ' H' vs ds
  | _, _, .nil => .nil
  | _, _, .cons r t => .cons (Vq.keep s h r) (VqAll.keep s h t)
end
theorem VqFs.keep (s : Same (hide O H) (hide O' H')) (h : φ <+: φ') : ∀ {vs : List (Str × V)} {ds : List (Str × D)}, VqFs K O φ H vs ds → VqFs K O' φ' H' vs ds
  | _, _, .nil => .nil
  | _, _, .cons r t => .cons (r.keep s h) (VqFs.keep s h t)
theorem VqKs.keep (s : Same (hide O H) (hide O' H')) (h : φ <+: φ') : ∀ {vs : List (Key × V)} {ds : List (D × D)}, VqKs K O φ H vs ds → VqKs K O' φ' H' vs ds
  | _, _, .nil => .nil
  | _, _, .cons r t => .cons (r.keep s h) (VqKs.keep s h t)
theorem NodeOk.keep {a : Addr} {d : D} (s : Same (hide O H) (hide O' H')) (h : φ <+: φ') (e : H' a = H a) : NodeOk K O φ H a d → NodeOk K O' φ' H' a d
  | .lst h1 q => .lst (by rw [e]; exact h1) (q.keep s h)
  | .dct h1 q => .dct (by rw [e]; exact h1) (q.keep s h)
  | .obj h1 m q => .obj (by rw [e]; exact h1) m (q.keep s h)
theorem SlotOk.keep {m : Md} {x : Option V} {d : D} (s : Same (hide O H) (hide O' H')) (h : φ <+: φ') (k : ∀ p, m.own = true → x = some (.ref p) → O p → H p ≠ none → H' p = H p ∧ O' p) : SlotOk K H0 O φ H m x d → SlotOk K H0 O' φ' H' m x d := by
  intro q
  cases m with
  | no => trivial
  | sh => obtain ⟨v, e, q⟩ := q; exact ⟨v, e, Dq.mono s q⟩
  | vr => obtain ⟨v, e, q⟩ := q; exact ⟨v, e, q.keep s h⟩
  | ow =>
    obtain ⟨p, e, o, h0, vs, ds, e2, h1, h2⟩ := q
    obtain ⟨k1, k2⟩ := k p rfl e o (by rw [h1]; intro z; cases z)
    exact ⟨p, e, k2, h0, vs, ds, e2, by rw [k1]; exact h1, DqAll.mono s h2⟩
  | dk =>
    obtain ⟨p, e, o, h0, vs, ds, e2, h1, h2⟩ := q
    obtain ⟨k1, k2⟩ := k p rfl e o (by rw [h1]; intro z; cases z)
    exact ⟨p, e, k2, h0, vs, ds, e2, by rw [k1]; exact h1, DkAll.mono s h2⟩
  | pn =>
    obtain ⟨p, e, o, vs, ds, e2, h1, h2, h3⟩ := q
    obtain ⟨k1, k2⟩ := k p rfl e o (by rw [h1]; intro z; cases z)
    exact ⟨p, e, k2, vs, ds, e2, by rw [k1]; exact h1, DqAll.mono s h2, h3⟩
  | lk =>
    obtain ⟨p, e, o, od, vs, ds, e2, h1, h2, h3⟩ := q
    obtain ⟨k1, k2⟩ := k p rfl e o (by rw [h1]; intro z; cases z)
    exact ⟨p, e, k2, od, vs, ds, e2, by rw [k1]; exact h1, DkAll.mono s h2, h3⟩
theorem StOk.keep {rw : Bool} {S : List D} (s : Same (hide O H) (hide O' H')) (k : ∀ a, a ∈ φ → O a → H' a = H a ∧ O' a) (I : StOk K rw H0 O φ H S) : StOk K rw H0 O' φ H' S where
  len := I.len
  node := fun j a d h1 h2 h3 => by
    obtain ⟨o, h0, q⟩ := I.node j a d h1 h2 h3
    obtain ⟨k1, k2⟩ := k a (List.mem_of_getElem? h1) o
    exact ⟨k2, h0, q.keep s pre_refl k1⟩
theorem Same.alive {p : Addr} (s : Same H H') (h : H p ≠ none) : H' p ≠ none := fun e => by
  cases q : H p with
  | none => exact h q
  | some u => rw [s p u q] at e; cases e
theorem Same.at {p : Addr} (s : Same H H') (h : H p ≠ none) : H' p = H p := by
  cases q : H p with
  | none => exact absurd q h
  | some u => exact s p u q
theorem Same.none {p : Addr} (s : Same H H') (h : H' p = none) : H p = none := by
  cases q : H p with
  | none => rfl
  | some u => rw [s p u q] at h; cases h
theorem EOkF.mono (s : Same H H') (I : EOkF K G H0 O0 M O φ H σ ρ) : EOkF K G H0 O0 M O φ H' σ ρ where
  gs := I.gs.trans (hide_same s)
  base := I.base.trans s
  sub := I.sub
  al0 := I.al0
  alive := fun p o => Same.alive s (I.alive p o)
  fr := I.fr
  pre := I.pre
  nw := I.nw
  nod := I.nod
  liv := fun a h => Same.alive s (I.liv a h)
  ls := I.ls
  lr := I.lr
  slot := fun i m x d h1 h2 h3 => (I.slot i m x d h1 h2 h3).keep (hide_same s) pre_refl fun p _ _ o h => ⟨Same.at s h, o⟩
  dist := I.dist
  sep := I.sep
  pins := I.pins
  st := fun d h => let ⟨S, e, q⟩ := I.st d h; ⟨S, e, q.keep (hide_same s) fun a ha o => ⟨Same.at s (I.alive a o), o⟩⟩
theorem EOk.mono (s : Same H H') (I : EOk K G H0 O0 M O H σ ρ) : EOk K G H0 O0 M O H' σ ρ := let ⟨φ, J⟩ := I; ⟨φ, J.mono s⟩
theorem EOkF.again (s : Same G' (hide O H)) (I : EOkF K G H0 O0 M O φ H σ ρ) : EOkF K G' H0 O0 M O φ H σ ρ := ⟨s, I.base, I.sub, I.al0, I.alive, I.fr, I.pre, I.nw, I.nod, I.liv, I.ls, I.lr, I.slot, I.dist, I.sep, I.pins, I.st⟩
theorem EOk.again (s : Same G' (hide O H)) (I : EOk K G H0 O0 M O H σ ρ) : EOk K G' H0 O0 M O H σ ρ := let ⟨φ, J⟩ := I; ⟨φ, J.again s⟩
theorem EOk.gs (I : EOk K G H0 O0 M O H σ ρ) : Same G (hide O H) := let ⟨_, J⟩ := I; J.gs
theorem EOk.base (I : EOk K G H0 O0 M O H σ ρ) : Same H0 H := let ⟨_, J⟩ := I; J.base
theorem EOk.sub (I : EOk K G H0 O0 M O H σ ρ) : ∀ p, O0.p p → O p := let ⟨_, J⟩ := I; J.sub
theorem EOk.alive (I : EOk K G H0 O0 M O H σ ρ) : ∀ p, O p → H p ≠ none := let ⟨_, J⟩ := I; J.alive
theorem EOk.ls (I : EOk K G H0 O0 M O H σ ρ) : σ.length = M.length := let ⟨_, J⟩ := I; J.ls
theorem EOk.lr (I : EOk K G H0 O0 M O H σ ρ) : M.length ≤ ρ.length := let ⟨_, J⟩ := I; J.lr
theorem EOkF.ok (I : EOkF K G H0 O0 M O φ H σ ρ) : EOk K G H0 O0 M O H σ ρ := ⟨φ, I⟩
theorem EOk.at (I : EOk K G H0 O0 M O H σ ρ) {i : Nat} {m : Md} (hm : M[i]? = some m) : ∃ d, ρ[i]? = some d := ⟨_, List.getElem?_eq_getElem (Nat.lt_of_lt_of_le (List.getElem?_eq_some_iff.mp hm).1 I.lr)⟩
theorem EOk.sh (I : EOk K G H0 O0 M O H σ ρ) {i : Nat} {d : D} (hm : M[i]? = some .sh) (hd : ρ[i]? = some d) : ∃ v, σ[i]? = some (some v) ∧ Dq K (hide O H) v d := by
  have hi : i < σ.length := by rw [I.ls]; exact (List.getElem?_eq_some_iff.mp hm).1
  obtain ⟨φ, J⟩ := I
  obtain ⟨v, e, h⟩ := J.slot i _ _ _ hm (List.getElem?_eq_getElem hi) hd
  exact ⟨v, by rw [List.getElem?_eq_getElem hi, e], h⟩
theorem EOkF.vr (I : EOkF K G H0 O0 M O φ H σ ρ) {i : Nat} {d : D} (hm : M[i]? = some .vr) (hd : ρ[i]? = some d) : ∃ v, σ[i]? = some (some v) ∧ Vq K O φ H v d := by
  have hi : i < σ.length := by rw [I.ls]; exact (List.getElem?_eq_some_iff.mp hm).1
  obtain ⟨v, e, h⟩ := I.slot i _ _ _ hm (List.getElem?_eq_getElem hi) hd
  exact ⟨v, by rw [List.getElem?_eq_getElem hi, e], h⟩
theorem EOk.ow (I : EOk K G H0 O0 M O H σ ρ) {i : Nat} {d : D} (hm : M[i]? = some .ow) (hd : ρ[i]? = some d) : ∃ p, σ[i]? = some (some (.ref p)) ∧ O p ∧ H0 p = none ∧ OwAt K O H p d := by
  have hi : i < σ.length := by rw [I.ls]; exact (List.getElem?_eq_some_iff.mp hm).1
  obtain ⟨φ, J⟩ := I
  obtain ⟨v, e, h⟩ := J.slot i _ _ _ hm (List.getElem?_eq_getElem hi) hd
  exact ⟨v, by rw [List.getElem?_eq_getElem hi, e], h⟩
theorem EOk.dk (I : EOk K G H0 O0 M O H σ ρ) {i : Nat} {d : D} (hm : M[i]? = some .dk) (hd : ρ[i]? = some d) : ∃ p, σ[i]? = some (some (.ref p)) ∧ O p ∧ H0 p = none ∧ DkAt K O H p d := by
  have hi : i < σ.length := by rw [I.ls]; exact (List.getElem?_eq_some_iff.mp hm).1
  obtain ⟨φ, J⟩ := I
  obtain ⟨v, e, h⟩ := J.slot i _ _ _ hm (List.getElem?_eq_getElem hi) hd
  exact ⟨v, by rw [List.getElem?_eq_getElem hi, e], h⟩
/-- a value that no one owns goes to a slot -/
theorem EOkF.setV (I : EOkF K G H0 O0 M O φ H σ ρ) {i : Nat} {m : Md} {v : V} {d : D} (hl : i < M.length) (hm : m.own = false) (h : SlotOk K H0 O φ H m (some v) d) : EOkF K G H0 O0 (M.set i m) O φ H (σ.set i (some v)) (ρ.set i d) where
  gs := I.gs
  base := I.base
  sub := I.sub
  al0 := I.al0
  alive := I.alive
  fr := I.fr
  pre := I.pre
  nw := I.nw
  nod := I.nod
  liv := I.liv
  ls := by rw [List.length_set, List.length_set, I.ls]
  lr := by rw [List.length_set, List.length_set]; exact I.lr
  slot := fun j m' x e h1 h2 h3 => by
    by_cases hj : i = j
    · subst hj
      rw [List.getElem?_set_self hl] at h1
      rw [List.getElem?_set_self (by rw [I.ls]; exact hl)] at h2
      rw [List.getElem?_set_self (Nat.lt_of_lt_of_le hl I.lr)] at h3
      cases h1; cases h2; cases h3
      exact h
    · rw [List.getElem?_set_ne hj] at h1 h2 h3
      exact I.slot j m' x e h1 h2 h3
  dist := fun a b ma mb p hab h1 h2 o1 o2 h3 h4 => by
    by_cases ha : i = a
    · subst ha
      rw [List.getElem?_set_self hl] at h1
      cases h1; rw [hm] at o1; cases o1
    · by_cases hb : i = b
      · subst hb
        rw [List.getElem?_set_self hl] at h2
        cases h2; rw [hm] at o2; cases o2
      · rw [List.getElem?_set_ne ha] at h1 h3
        rw [List.getElem?_set_ne hb] at h2 h4
        exact I.dist a b ma mb p hab h1 h2 o1 o2 h3 h4
  sep := fun a ma p h1 o1 h3 => by
    by_cases ha : i = a
    · subst ha
      rw [List.getElem?_set_self hl] at h1
      cases h1; rw [hm] at o1; cases o1
    · rw [List.getElem?_set_ne ha] at h1 h3
      exact I.sep a ma p h1 o1 h3
  pins := fun a ma h1 o1 => by
    by_cases ha : i = a
    · subst ha
      rw [List.getElem?_set_self hl] at h1
      cases h1; rw [Md.pin_own hm] at o1; cases o1
    · rw [List.getElem?_set_ne ha] at h1
      rw [List.getElem?_set_ne ha]
      exact I.pins a ma h1 o1
  st := fun e h => by
    rw [List.length_set, List.getElem?_set_ne (Nat.ne_of_lt hl)] at h
    exact I.st e h
theorem EOk.setSh (I : EOk K G H0 O0 M O H σ ρ) {i : Nat} {v : V} {d : D} (hl : i < M.length) (h : Dq K (hide O H) v d) : EOk K G H0 O0 (M.set i .sh) O H (σ.set i (some v)) (ρ.set i d) := let ⟨φ, J⟩ := I; ⟨φ, J.setV hl rfl ⟨v, rfl, h⟩⟩
/-- nothing owns a free address -/
theorem EOk.ne (I : EOk K G H0 O0 M O H σ ρ) {p : Addr} (hp : H p = none) : ¬ O p := fun o => I.alive p o hp
theorem EOkF.ne (I : EOkF K G H0 O0 M O φ H σ ρ) {p : Addr} (hp : H p = none) : ¬ O p := fun o => I.alive p o hp
theorem EOkF.notOwn (I : EOkF K G H0 O0 M O φ H σ ρ) {j : Nat} {m : Md} {p : Addr} (hp : ¬ O p) (h1 : M[j]? = some m) (o : m.own = true) : σ[j]? ≠ some (some (.ref p)) := fun e => by
  have l1 := (List.getElem?_eq_some_iff.mp h1).1
  have h3 : ρ[j]? = some (ρ[j]'(Nat.lt_of_lt_of_le l1 I.lr)) := List.getElem?_eq_getElem _
  have q := I.slot j m _ _ h1 e h3
  cases m with
  | no => cases o
  | sh => cases o
  | vr => cases o
  | ow => obtain ⟨q1, q2, q3, _⟩ := q; cases q2; exact hp q3
  | dk => obtain ⟨q1, q2, q3, _⟩ := q; cases q2; exact hp q3
  | pn => obtain ⟨q1, q2, q3, _⟩ := q; cases q2; exact hp q3
  | lk => obtain ⟨q1, q2, q3, _⟩ := q; cases q2; exact hp q3
/-- an own slot's address -/
theorem EOkF.ownAt (I : EOkF K G H0 O0 M O φ H σ ρ) {j : Nat} {m : Md} {p : Addr} (h1 : M[j]? = some m) (o : m.own = true) (e : σ[j]? = some (some (.ref p))) : O p := by
  have l1 := (List.getElem?_eq_some_iff.mp h1).1
  have h3 : ρ[j]? = some (ρ[j]'(Nat.lt_of_lt_of_le l1 I.lr)) := List.getElem?_eq_getElem _
  have q := I.slot j m _ _ h1 e h3
  cases m with
  | no => cases o
  | sh => cases o
  | vr => cases o
  | ow => obtain ⟨q1, q2, q3, q4, _⟩ := q; cases q2; exact q3
  | dk => obtain ⟨q1, q2, q3, q4, _⟩ := q; cases q2; exact q3
  | pn => obtain ⟨q1, q2, q3, q4, _⟩ := q; cases q2; exact q3
  | lk => obtain ⟨q1, q2, q3, q4, _⟩ := q; cases q2; exact q3
theorem hide_new {O : Addr → Prop} {H H' : Hp} {p : Addr} (s : Same H H') (hp : H p = none) : Same (hide O H) (hide (fun b => O b ∨ b = p) H') := fun b o e => by
  obtain ⟨n, e⟩ := hide_some e
  rw [hide_at fun z => z.elim n (ne_of_none e hp)]; exact s b o e
/-- what stands at a new address p is owned from here on -/
theorem EOkF.adopt (I : EOkF K G H0 O0 M O φ H σ ρ) {i : Nat} {p : Addr} {d : D} {m : Md} (hl : i < M.length) (hpin : m.pin = false) (s : Same H H') (hp : H p = none) (hp' : H' p ≠ none) (hm : m.own = true) (hs : SlotOk K H0 (fun b => O b ∨ b = p) φ H' m (some (.ref p)) d) :
    EOk K G H0 O0 (M.set i m) (fun b => O b ∨ b = p) H' (σ.set i (some (.ref p))) (ρ.set i d) := by
  have hh : Same (hide O H) (hide (fun b => O b ∨ b = p) H') := hide_new s hp
  have nO := I.ne hp
  have pφ : p ∉ φ := fun z => I.liv p z hp
  have kp : ∀ q, O q → H q ≠ none → H' q = H q ∧ (O q ∨ q = p) := fun q o h => ⟨Same.at s h, .inl o⟩
  refine ⟨φ, I.gs.trans hh, I.base.trans s, fun b h => .inl (I.sub b h), I.al0, fun b h => ?_, fun b h => ?_, I.pre, I.nw, I.nod, fun a h => Same.alive s (I.liv a h), by rw [List.length_set, List.length_set, I.ls], by rw [List.length_set, List.length_set]; exact I.lr, fun j mj x e h1 h2 h3 => ?_, fun a b ma mb q hab h1 h2 o1 o2 h3 h4 => ?_, fun a ma q h1 o1 h3 => ?_, fun a ma h1 o1 => ?_, fun e h => ?_⟩
  · rcases h with h | h
    · exact Same.alive s (I.alive b h)
    · subst h; exact hp'
  · rcases h with h | h
    · exact I.fr b h
    · subst h; exact .inr (Same.none I.base hp)
  · by_cases hj : i = j
    · subst hj
      rw [List.getElem?_set_self hl] at h1
      rw [List.getElem?_set_self (by rw [I.ls]; exact hl)] at h2
      rw [List.getElem?_set_self (Nat.lt_of_lt_of_le hl I.lr)] at h3
      cases h1; cases h2; cases h3
      exact hs
    · rw [List.getElem?_set_ne hj] at h1 h2 h3
      exact (I.slot j mj x e h1 h2 h3).keep hh pre_refl fun q _ _ o h => kp q o h
  · by_cases ha : i = a
    · subst ha
      rw [List.getElem?_set_self (by rw [I.ls]; exact hl)] at h3
      cases h3
      rw [List.getElem?_set_ne hab] at h2 h4
      exact I.notOwn nO h2 o2 h4
    · rw [List.getElem?_set_ne ha] at h1 h3
      by_cases hb : i = b
      · subst hb
        rw [List.getElem?_set_self (by rw [I.ls]; exact hl)] at h4
        cases h4
        exact I.notOwn nO h1 o1 h3
      · rw [List.getElem?_set_ne hb] at h2 h4
        exact I.dist a b ma mb q hab h1 h2 o1 o2 h3 h4
  · by_cases ha : i = a
    · subst ha
      rw [List.getElem?_set_self (by rw [I.ls]; exact hl)] at h3
      cases h3; exact pφ
    · rw [List.getElem?_set_ne ha] at h1 h3
      exact I.sep a ma q h1 o1 h3
  · by_cases ha : i = a
    · subst ha
      rw [List.getElem?_set_self hl] at h1
      cases h1; rw [hpin] at o1; cases o1
    · rw [List.getElem?_set_ne ha] at h1
      rw [List.getElem?_set_ne ha]
      exact I.pins a ma h1 o1
  · rw [List.length_set, List.getElem?_set_ne (Nat.ne_of_lt hl)] at h
    obtain ⟨S, e1, q⟩ := I.st e h
    exact ⟨S, e1, q.keep hh fun a ha o => kp a o (I.liv a ha)⟩
theorem EOk.adopt (I : EOk K G H0 O0 M O H σ ρ) {i : Nat} {p : Addr} {d : D} {m : Md} (hl : i < M.length) (hpin : m.pin = false) (s : Same H H') (hp : H p = none) (hp' : H' p ≠ none) (hm : m.own = true) (hs : ∀ φ, SlotOk K H0 (fun b => O b ∨ b = p) φ H' m (some (.ref p)) d) :
    EOk K G H0 O0 (M.set i m) (fun b => O b ∨ b = p) H' (σ.set i (some (.ref p))) (ρ.set i d) := let ⟨φ, J⟩ := I; J.adopt hl hpin s hp hp' hm (hs φ)
/-- an own list (or dict) at slot i is changed -/
theorem EOkF.change (I : EOkF K G H0 O0 M O φ H σ ρ) {i : Nat} {p : Addr} {d : D} {o : HO} {m : Md} (hm : M[i]? = some m) (ho : m.own = true) (hσ : σ[i]? = some (some (.ref p))) (hO : O p) (h0 : H0 p = none)
    (hs : hide O (upd H p o) = hide O H → SlotOk K H0 O φ (upd H p o) m (some (.ref p)) d) : EOkF K G H0 O0 M O φ (upd H p o) σ (ρ.set i d) := by
  have hh := hide_upd (O := O) (H := H) (o := o) hO
  have li := (List.getElem?_eq_some_iff.mp hm).1
  have pφ := I.sep i m p hm ho hσ
  have sh : Same (hide O H) (hide O (upd H p o)) := by rw [hh]; exact Same.refl _
  have al : ∀ b, H b ≠ none → upd H p o b ≠ none := fun b h => by
    by_cases n : b = p
    · subst n; rw [upd_same]; intro z; cases z
    · rw [upd_ne n]; exact h
  refine ⟨by rw [hh]; exact I.gs, fun b u e => ?_, I.sub, I.al0, fun b h => al b (I.alive b h), I.fr, I.pre, I.nw, I.nod, fun a h => al a (I.liv a h), I.ls, by rw [List.length_set]; exact I.lr, fun j mj x e h1 h2 h3 => ?_, I.dist, I.sep, I.pins, fun e h => ?_⟩
  · have n : b ≠ p := ne_of_none e h0
    rw [upd_ne n]; exact I.base b u e
  · by_cases hj : i = j
    · subst hj
      rw [hm] at h1; cases h1
      rw [hσ] at h2; cases h2
      rw [List.getElem?_set_self (Nat.lt_of_lt_of_le li I.lr)] at h3
      cases h3
      exact hs hh
    · rw [List.getElem?_set_ne hj] at h3
      refine (I.slot j mj x e h1 h2 h3).keep sh pre_refl fun q o1 e1 oq _ => ⟨upd_ne fun z => ?_, oq⟩
      subst z e1
      exact I.dist i j _ _ q hj hm h1 ho o1 hσ h2
  · rw [List.getElem?_set_ne (Nat.ne_of_lt li)] at h
    obtain ⟨S, e1, q⟩ := I.st e h
    exact ⟨S, e1, q.keep sh fun a ha oa => ⟨upd_ne fun z => pφ (z ▸ ha), oa⟩⟩
theorem EOk.change (I : EOk K G H0 O0 M O H σ ρ) {i : Nat} {p : Addr} {d : D} {o : HO} {m : Md} (hm : M[i]? = some m) (ho : m.own = true) (hσ : σ[i]? = some (some (.ref p))) (hO : O p) (h0 : H0 p = none)
    (hs : ∀ φ, hide O (upd H p o) = hide O H → SlotOk K H0 O φ (upd H p o) m (some (.ref p)) d) : EOk K G H0 O0 M O (upd H p o) σ (ρ.set i d) := let ⟨φ, J⟩ := I; ⟨φ, J.change hm ho hσ hO h0 (hs φ)⟩
theorem hide_out {p : Addr} : Same (hide O H) (hide (fun b => O b ∧ b ≠ p) H) := hide_less fun b h => h.1
/-- an own list is shared from here on -/
theorem EOk.publish (I : EOk K G H0 O0 M O H σ ρ) {i : Nat} (hm : M[i]? = some .ow) : ∃ O', EOk K G H0 O0 (M.set i .sh) O' H σ ρ := by
  have l1 := (List.getElem?_eq_some_iff.mp hm).1
  have lρ := Nat.lt_of_lt_of_le l1 I.lr
  obtain ⟨p, hσ, hO, h0, vs, ds, e1, h1, h2⟩ := I.ow hm (List.getElem?_eq_getElem lρ)
  obtain ⟨φ, I⟩ := I
  refine ⟨fun b => O b ∧ b ≠ p, φ, ?_⟩
  have sm : Same (hide O H) (hide (fun b => O b ∧ b ≠ p) H) := hide_out
  have pφ := I.sep i _ p hm rfl hσ
  refine ⟨I.gs.trans sm, I.base, fun b h => ⟨I.sub b h, fun e => I.al0 b h (by rw [e]; exact h0)⟩, I.al0, fun b h => I.alive b h.1, fun b h => I.fr b h.1, I.pre, I.nw, I.nod, I.liv, by rw [List.length_set, I.ls], by rw [List.length_set]; exact I.lr, fun j mj x e g1 g2 g3 => ?_, fun a b ma mb q hab g1 g2 o1 o2 g3 g4 => ?_, fun a ma q g1 o1 g3 => ?_, fun a ma g1 o1 => ?_, fun e h => ?_⟩
  · by_cases hj : i = j
    · subst hj
      rw [List.getElem?_set_self l1] at g1
      cases g1
      rw [hσ] at g2; cases g2
      rw [List.getElem?_eq_getElem lρ] at g3
      cases g3
      refine ⟨_, rfl, ?_⟩
      rw [e1]
      exact .lst (by rw [hide_at (fun z => z.2 rfl)]; exact h1) (DqAll.mono sm h2)
    · rw [List.getElem?_set_ne hj] at g1
      refine (I.slot j mj x e g1 g2 g3).keep sm pre_refl fun q oq e1 o _ => ⟨rfl, o, fun z => ?_⟩
      subst z e1
      exact I.dist i j _ _ q hj hm g1 rfl oq hσ g2
  · by_cases ha : i = a
    · subst ha; rw [List.getElem?_set_self l1] at g1; cases g1; cases o1
    · by_cases hb : i = b
      · subst hb; rw [List.getElem?_set_self l1] at g2; cases g2; cases o2
      · rw [List.getElem?_set_ne ha] at g1
        rw [List.getElem?_set_ne hb] at g2
        exact I.dist a b ma mb q hab g1 g2 o1 o2 g3 g4
  · by_cases ha : i = a
    · subst ha; rw [List.getElem?_set_self l1] at g1; cases g1; cases o1
    · rw [List.getElem?_set_ne ha] at g1
      exact I.sep a ma q g1 o1 g3
  · by_cases ha : i = a
    · subst ha; rw [List.getElem?_set_self l1] at g1; cases g1; cases o1
    · rw [List.getElem?_set_ne ha] at g1
      exact I.pins a ma g1 o1
  · rw [List.length_set] at h
    obtain ⟨S, e1, q⟩ := I.st e h
    exact ⟨S, e1, q.keep sm fun a ha oa => ⟨rfl, oa, fun z => pφ (z ▸ ha)⟩⟩
/-- forgetting -/
theorem EOk.forget (I : EOk K G H0 O0 M O H σ ρ) {i : Nat} : EOk K G H0 O0 (M.set i .no) O H σ ρ := by
  obtain ⟨φ, I⟩ := I
  refine ⟨φ, I.gs, I.base, I.sub, I.al0, I.alive, I.fr, I.pre, I.nw, I.nod, I.liv, by rw [List.length_set, I.ls], by rw [List.length_set]; exact I.lr, fun j m x d h1 h2 h3 => ?_, fun a b ma mb p hab h1 h2 o1 o2 h3 h4 => ?_, fun a ma p h1 o1 h3 => ?_, fun a ma h1 o1 => ?_, fun e h => I.st e (by rw [List.length_set] at h; exact h)⟩
  · by_cases hj : i = j
    · subst hj
      have l := (List.getElem?_eq_some_iff.mp h1).1
      rw [List.length_set] at l
      rw [List.getElem?_set_self l] at h1; cases h1; trivial
    · rw [List.getElem?_set_ne hj] at h1; exact I.slot j m x d h1 h2 h3
  · by_cases ha : i = a
    · subst ha
      have l := (List.getElem?_eq_some_iff.mp h1).1
      rw [List.length_set] at l
      rw [List.getElem?_set_self l] at h1; cases h1; cases o1
    · by_cases hb : i = b
      · subst hb
        have l := (List.getElem?_eq_some_iff.mp h2).1
        rw [List.length_set] at l
        rw [List.getElem?_set_self l] at h2; cases h2; cases o2
      · rw [List.getElem?_set_ne ha] at h1
        rw [List.getElem?_set_ne hb] at h2
        exact I.dist a b ma mb p hab h1 h2 o1 o2 h3 h4
  · by_cases ha : i = a
    · subst ha
      have l := (List.getElem?_eq_some_iff.mp h1).1
      rw [List.length_set] at l
      rw [List.getElem?_set_self l] at h1; cases h1; cases o1
    · rw [List.getElem?_set_ne ha] at h1
      exact I.sep a ma p h1 o1 h3
  · by_cases ha : i = a
    · subst ha
      have l := (List.getElem?_eq_some_iff.mp h1).1
      rw [List.length_set] at l
      rw [List.getElem?_set_self l] at h1; cases h1; cases o1
    · rw [List.getElem?_set_ne ha] at h1
      exact I.pins a ma h1 o1
/-- one address more is hidden: a new one -/
theorem EOk.more (I : EOk K G H0 O0 M O H σ ρ) {p : Addr} (s : Same H H') (hp : H p = none) (hp' : H' p ≠ none) : EOk K G H0 O0 M (fun b => O b ∨ b = p) H' σ ρ := by
  obtain ⟨φ, I⟩ := I
  have hh : Same (hide O H) (hide (fun b => O b ∨ b = p) H') := hide_new s hp
  have kp : ∀ q, O q → H q ≠ none → H' q = H q ∧ (O q ∨ q = p) := fun q o h => ⟨Same.at s h, .inl o⟩
  refine ⟨φ, I.gs.trans hh, I.base.trans s, fun b h => .inl (I.sub b h), I.al0, fun b h => ?_, fun b h => ?_, I.pre, I.nw, I.nod, fun a h => Same.alive s (I.liv a h), I.ls, I.lr, fun j mj x e h1 h2 h3 => (I.slot j mj x e h1 h2 h3).keep hh pre_refl fun q _ _ o h => kp q o h, I.dist, I.sep, I.pins, fun e h => ?_⟩
  · rcases h with h | h
    · exact Same.alive s (I.alive b h)
    · subst h; exact hp'
  · rcases h with h | h
    · exact I.fr b h
    · subst h; exact .inr (Same.none I.base hp)
  · obtain ⟨S, e1, q⟩ := I.st e h
    exact ⟨S, e1, q.keep hh fun a ha o => kp a o (I.liv a ha)⟩
/-! ### the store -/
/-- a node is changed, at its address -/
theorem EOkF.stPut (hw : O0.rw = true) (I : EOkF K G H0 O0 M O φ H σ ρ) {j : Nat} {a : Addr} {S : List D} {d d0 : D} {o : HO} (hst : ρ[M.length]? = some (.list S)) (hφ : φ[j]? = some a) (hS : S[j]? = some d0) (h0 : d0 ≠ .none)
    (hn : Same (hide O H) (hide O (upd H a o)) → NodeOk K O φ (upd H a o) a d) : EOkF K G H0 O0 M O φ (upd H a o) σ (ρ.set M.length (.list (S.set j d))) := by
  obtain ⟨S', e, q⟩ := I.st _ hst
  cases e
  obtain ⟨hO, hH0, _⟩ := q.node j a d0 hφ hS h0
  have hH0 := hH0 hw
  have hh := hide_upd (O := O) (H := H) (o := o) hO
  have sh : Same (hide O H) (hide O (upd H a o)) := by rw [hh]; exact Same.refl _
  have al : ∀ b, H b ≠ none → upd H a o b ≠ none := fun b h => by
    by_cases n : b = a
    · subst n; rw [upd_same]; intro z; cases z
    · rw [upd_ne n]; exact h
  have mφ : a ∈ φ := List.mem_of_getElem? hφ
  have lst : M.length < ρ.length := (List.getElem?_eq_some_iff.mp hst).1
  refine ⟨I.gs.trans sh, fun b u e => ?_, I.sub, I.al0, fun b h => al b (I.alive b h), I.fr, I.pre, I.nw, I.nod, fun b h => al b (I.liv b h), I.ls, by rw [List.length_set]; exact I.lr, fun i m x e h1 h2 h3 => ?_, I.dist, I.sep, I.pins, fun e h => ?_⟩
  · rw [upd_ne (ne_of_none e hH0)]; exact I.base b u e
  · rw [List.getElem?_set_ne (Nat.ne_of_gt (List.getElem?_eq_some_iff.mp h1).1)] at h3
    refine (I.slot i m x e h1 h2 h3).keep sh pre_refl fun p o1 e1 op _ => ⟨upd_ne fun z => ?_, op⟩
    subst z e1
    exact I.sep i m p h1 o1 h2 mφ
  · rw [List.getElem?_set_self lst] at h
    cases h
    refine ⟨_, rfl, by rw [List.length_set]; exact q.len, fun j' a' d' g1 g2 g3 => ?_⟩
    by_cases hj : j = j'
    · subst hj
      rw [hφ] at g1; cases g1
      rw [List.getElem?_set_self (List.getElem?_eq_some_iff.mp hS).1] at g2
      cases g2
      exact ⟨hO, fun _ => hH0, hn sh⟩
    · rw [List.getElem?_set_ne hj] at g2
      obtain ⟨k1, k2, k3⟩ := q.node j' a' d' g1 g2 g3
      have na : a' ≠ a := fun z => hj ((List.getElem?_inj (List.getElem?_eq_some_iff.mp hφ).1 I.nod).mp (by rw [hφ, g1, z]))
      exact ⟨k1, k2, k3.keep sh pre_refl (upd_ne na)⟩
/-- a new node, at a new address -/
theorem EOkF.stNew (I : EOkF K G H0 O0 M O φ H σ ρ) {p : Addr} {S : List D} {d : D} (s : Same H H') (hp : H p = none) (hp' : H' p ≠ none) (hst : ρ[M.length]? = some (.list S))
    (hn : Same (hide O H) (hide (fun b => O b ∨ b = p) H') → NodeOk K (fun b => O b ∨ b = p) (φ ++ [p]) H' p d) : EOkF K G H0 O0 M (fun b => O b ∨ b = p) (φ ++ [p]) H' σ (ρ.set M.length (.list (S ++ [d]))) := by
  obtain ⟨S', e, q⟩ := I.st _ hst
  cases e
  have hh : Same (hide O H) (hide (fun b => O b ∨ b = p) H') := hide_new s hp
  have nO := I.ne hp
  have pφ : p ∉ φ := fun z => I.liv p z hp
  have pre : φ <+: φ ++ [p] := ⟨_, rfl⟩
  have lst : M.length < ρ.length := (List.getElem?_eq_some_iff.mp hst).1
  refine ⟨I.gs.trans hh, I.base.trans s, fun b h => .inl (I.sub b h), I.al0, fun b h => ?_, fun b h => ?_, I.pre.trans pre, fun a h => ?_, ?_, fun a h => ?_, I.ls, by rw [List.length_set]; exact I.lr, fun i m x e h1 h2 h3 => ?_, I.dist, fun i m q h1 o1 h3 z => ?_, I.pins, fun e h => ?_⟩
  · rcases h with h | h
    · exact Same.alive s (I.alive b h)
    · subst h; exact hp'
  · rcases h with h | h
    · exact I.fr b h
    · subst h; exact .inr (Same.none I.base hp)
  · rcases List.mem_append.mp h with h | h
    · exact I.nw a h
    · rw [List.mem_singleton.mp h]; exact .inr (Same.none I.base hp)
  · exact List.nodup_append.mpr ⟨I.nod, (by simp), fun a ha b hb e => by
      rw [List.mem_singleton] at hb; subst hb e; exact pφ ha⟩
  · rcases List.mem_append.mp h with h | h
    · exact Same.alive s (I.liv a h)
    · rw [List.mem_singleton.mp h]; exact hp'
  · rw [List.getElem?_set_ne (Nat.ne_of_gt (List.getElem?_eq_some_iff.mp h1).1)] at h3
    exact (I.slot i m x e h1 h2 h3).keep hh pre fun q _ _ o h => ⟨Same.at s h, .inl o⟩
  · rcases List.mem_append.mp z with z | z
    · exact I.sep i m q h1 o1 h3 z
    · rw [List.mem_singleton] at z
      subst z
      exact I.notOwn nO h1 o1 h3
  · rw [List.getElem?_set_self lst] at h
    cases h
    refine ⟨_, rfl, by rw [List.length_append, List.length_append, q.len]; rfl, fun j a d' g1 g2 g3 => ?_⟩
    by_cases hj : j < φ.length
    · rw [List.getElem?_append_left hj] at g1
      rw [List.getElem?_append_left (by rw [← q.len]; exact hj)] at g2
      obtain ⟨k1, k2, k3⟩ := q.node j a d' g1 g2 g3
      exact ⟨.inl k1, k2, k3.keep hh pre (Same.at s (I.alive a k1))⟩
    · rw [List.getElem?_append_right (by omega)] at g1
      rw [List.getElem?_append_right (by rw [← q.len]; omega), ← q.len] at g2
      have e0 : j - φ.length = 0 := by
        have := (List.getElem?_eq_some_iff.mp g1).1
        rw [List.length_singleton] at this; omega
      rw [e0] at g1 g2
      cases g1; cases g2
      exact ⟨.inr rfl, fun _ => Same.none I.base hp, hn hh⟩
/-- a node is frozen: what stands at its address is shared from here on -/
theorem EOkF.stOut (hw : O0.rw = true) (I : EOkF K G H0 O0 M O φ H σ ρ) {j : Nat} {a : Addr} {S : List D} {d : D} (hst : ρ[M.length]? = some (.list S)) (hφ : φ[j]? = some a) (hS : S[j]? = some d) (h0 : d ≠ .none) :
    EOkF K G H0 O0 M (fun b => O b ∧ b ≠ a) φ H σ (ρ.set M.length (.list (S.set j .none))) := by
  obtain ⟨S', e, q⟩ := I.st _ hst
  cases e
  obtain ⟨hO, hH0, _⟩ := q.node j a d hφ hS h0
  have hH0 := hH0 hw
  have sm : Same (hide O H) (hide (fun b => O b ∧ b ≠ a) H) := hide_out
  have mφ : a ∈ φ := List.mem_of_getElem? hφ
  have lst : M.length < ρ.length := (List.getElem?_eq_some_iff.mp hst).1
  refine ⟨I.gs.trans sm, I.base, fun b h => ⟨I.sub b h, fun e => I.al0 b h (by rw [e]; exact hH0)⟩, I.al0, fun b h => I.alive b h.1, fun b h => I.fr b h.1, I.pre, I.nw, I.nod, I.liv, I.ls, by rw [List.length_set]; exact I.lr, fun i m x e h1 h2 h3 => ?_, I.dist, I.sep, I.pins, fun e h => ?_⟩
  · rw [List.getElem?_set_ne (Nat.ne_of_gt (List.getElem?_eq_some_iff.mp h1).1)] at h3
    refine (I.slot i m x e h1 h2 h3).keep sm pre_refl fun p o1 e1 op _ => ⟨rfl, op, fun z => ?_⟩
    subst z e1
    exact I.sep i m p h1 o1 h2 mφ
  · rw [List.getElem?_set_self lst] at h
    cases h
    refine ⟨_, rfl, by rw [List.length_set]; exact q.len, fun j' a' d' g1 g2 g3 => ?_⟩
    by_cases hj : j = j'
    · subst hj
      rw [List.getElem?_set_self (List.getElem?_eq_some_iff.mp hS).1] at g2
      cases g2
      exact absurd rfl g3
    · rw [List.getElem?_set_ne hj] at g2
      obtain ⟨k1, k2, k3⟩ := q.node j' a' d' g1 g2 g3
      have na : a' ≠ a := fun z => hj ((List.getElem?_inj (List.getElem?_eq_some_iff.mp hφ).1 I.nod).mp (by rw [hφ, g1, z]))
      exact ⟨⟨k1, na⟩, k2, k3.keep sm pre_refl rfl⟩
end
end FL
end
section
/-! FL, part B: the judgements of expressions and their rules. -/
namespace FL
open PySem L2

/-! ### wants -/
def Wnt {α β : Type} (W : D → Hp → Prop) (Rp : Hp → β → α → Prop) (H : Hp) : Rs α → (β → Hp → Prop) → Prop
  | .ok a, Q => ∀ H' v, Same H H' → Rp H' v a → Q v H'
  | .er e, _ => ∀ H', Same H H' → W e H'
  | .no, _ => False
theorem Wnt.mono {α β : Type} {W : D → Hp → Prop} {Rp : Hp → β → α → Prop} {H H' : Hp} (s : Same H H') : ∀ {r : Rs α} {Q : β → Hp → Prop}, Wnt W Rp H r Q → Wnt W Rp H' r Q
  | .ok _, _, h => fun H2 v s2 q => h H2 v (s.trans s2) q
  | .er _, _, h => fun H2 s2 => h H2 (s.trans s2)
  | .no, _, h => h
theorem Wnt.bind {α β γ δ : Type} {W : D → Hp → Prop} {Rp : Hp → β → α → Prop} {Rq : Hp → δ → γ → Prop} {H : Hp} {r : Rs α} {f : α → Rs γ} {Q : δ → Hp → Prop} {Q' : β → Hp → Prop} (h : Wnt W Rq H (r.bind f) Q)
    (k : ∀ a H' v, Same H H' → Rp H' v a → Wnt W Rq H' (f a) Q → Q' v H') : Wnt W Rp H r Q' := by
  cases r with
  | ok a => exact fun H' v s q => k a H' v s q (h.mono s)
  | er e => exact h
  | no => exact h
theorem Wnt.ok {α β : Type} {W : D → Hp → Prop} {Rp : Hp → β → α → Prop} {H : Hp} {a : α} {Q : β → Hp → Prop} (h : Wnt W Rp H (.ok a) Q) {v : β} (q : Rp H v a) : Q v H := h H v (Same.refl H) q

/-! ### the judgements -/
/-- the error e as it lies in the heap: its class, its own dict -/
def ExR (K : Tx) (O : Addr → Prop) (H : Hp) (e : D) (cls : Value) (dd : Option Addr) : Prop := ∃ (C : Addr) (c : Str) (fs : List (Str × V)) (ds : List (Str × D)), e = excD c ds ∧ cls = .ref C ∧ K.cl c = some (.ref C) ∧ XdOk H dd fs ∧ DqFs K (hide O H) fs ds ∧ ∀ a, dd = some a → ¬ O a
theorem ExR.keep {K : Tx} {O O' : Addr → Prop} {H H' : Hp} {e : D} {cls : Value} {dd : Option Addr} (s : Same (hide O H) (hide O' H')) : ExR K O H e cls dd → ExR K O' H' e cls dd := by
  rintro ⟨C, c, fs, ds, e1, e2, m, x, q, n⟩
  refine ⟨C, c, fs, ds, e1, e2, m, ?_, DqFs.mono s q, ?_⟩
  · cases dd with
    | none => exact x
    | some a =>
      have : hide O H a = some (.xd fs) := by rw [hide_at (n a rfl)]; exact x
      exact hide_sub _ _ (s _ _ this)
  · intro a ea z
    subst ea
    have : hide O H a = some (.xd fs) := by rw [hide_at (n a rfl)]; exact x
    exact (hide_some (s _ _ this)).1 z
/-- the wish of a context about errors, for an error as a datum that is raised at the slots σ -/
def WS (W : L2.WX) (K : Tx) (O : Addr → Prop) (σ : L2.St) : D → Hp → Prop := fun e H => ∀ cls dd, ExR K O H e cls dd → W cls dd σ H
abbrev Rep := (Addr → Prop) → Hp → Hp → V → D → Prop
def shR (K : Tx) : Rep := fun O _ H' v d => Dq K (hide O H') v d
/-- a value that is read here alone: shared, or an own list or dict -/
def KtAt (K : Tx) (p : Addr) (d : D) : Prop := ∃ ss : List Str, d = .tuple (ss.map .str) ∧ ∀ H : Hp, SqT K.K H p (ss.map V.str)
/-- a dict that is read, perhaps while it is walked -/
def BkAt (K : Tx) (O : Addr → Prop) (H : Hp) (p : Addr) (d : D) : Prop := ∃ kvs ds, d = .dict ds ∧ Rd H p (.dK kvs) ∧ DkAll K (hide O H) kvs ds
theorem BkAt.of {K : Tx} {O : Addr → Prop} {H : Hp} {p : Addr} {d : D} : DkAt K O H p d → BkAt K O H p d := fun ⟨kvs, ds, e, h, a⟩ => ⟨kvs, ds, e, .inl h, a⟩
theorem Rd.mono {H H' : Hp} {p : Addr} {u : HO} (s : Same H H') : Rd H p u → Rd H' p u
  | .inl h => .inl (s _ _ h)
  | .inr ⟨o, h⟩ => .inr ⟨o, s _ _ h⟩
theorem BkAt.mono {K : Tx} {O : Addr → Prop} {H H' : Hp} {p : Addr} {d : D} (s : Same H H') : BkAt K O H p d → BkAt K O H' p d := fun ⟨kvs, ds, e, h, a⟩ => ⟨kvs, ds, e, Rd.mono s h, DkAll.mono (hide_same s) a⟩
def Bp (K : Tx) (O : Addr → Prop) (H : Hp) (v : V) (d : D) : Prop := Dq K (hide O H) v d ∨ ∃ p, v = .ref p ∧ (OwAt K O H p d ∨ BkAt K O H p d ∨ KtAt K p d)
def boR (K : Tx) : Rep := fun O _ H' v d => Bp K O H' v d
/-- a new list -/
def owR (K : Tx) : Rep := fun O H H' v d => ∃ p vs ds, v = .ref p ∧ d = .list ds ∧ H p = none ∧ H' p = some (.lst vs) ∧ DqAll K (hide (fun b => O b ∨ b = p) H') vs ds
theorem ow_mk {K : Tx} {O : Addr → Prop} {H H1 : Hp} {p : Addr} {vs : List V} {ds : List D} (s : Same H H1) (hp : H1 p = none) (h : DqAll K (hide O H1) vs ds) : owR K O H (upd H1 p (.lst vs)) (.ref p) (.list ds) :=
  ⟨p, vs, ds, rfl, rfl, s.free hp, upd_same, DqAll.mono (hide_new (same_upd hp) hp) h⟩
def EJ (Rp : Tx → Rep) (X : Cx) (W : L2.WX) (M : List Md) (e : Expr) (F : List D → Rs D) : Prop :=
  ∃ t : TE, PE X e t ∧ ∀ (G H0 : Hp) (O0 : Out) (O : Addr → Prop) (H : Hp) (σ : L2.St) (ρ : List D) (Q : VK), EOk X.T G H0 O0 M O H σ ρ → Wnt (WS W X.T O σ) (Rp X.T O H) H (F ρ) Q → t σ H Q
abbrev DE := EJ shR
abbrev DB := EJ boR
abbrev DO := EJ owR
/-- a test -/
def DT (X : Cx) (W : L2.WX) (M : List Md) (e : Expr) (F : List D → Rs Bool) : Prop :=
  ∃ t : TT, PT X e t ∧ ∀ (G H0 : Hp) (O0 : Out) (O : Addr → Prop) (H : Hp) (σ : L2.St) (ρ : List D) (Q : Bool → Hp → Prop), EOk X.T G H0 O0 M O H σ ρ → Wnt (WS W X.T O σ) (fun _ (b : Bool) (c : Bool) => b = c) H (F ρ) Q → t σ H Q
def DTw (X : Cx) (W : L2.WX) (M : List Md) (e : Expr) (F : List D → Rs Bool) : Prop :=
  ∃ t : TT, PW X e t ∧ ∀ (G H0 : Hp) (O0 : Out) (O : Addr → Prop) (H : Hp) (σ : L2.St) (ρ : List D) (Q : Bool → Hp → Prop), EOk X.T G H0 O0 M O H σ ρ → Wnt (WS W X.T O σ) (fun _ (b : Bool) (c : Bool) => b = c) H (F ρ) Q → t σ H Q
/-- an argument list, shared or borrowed -/
def AJ (Rp : Tx → (Addr → Prop) → Hp → List V → List D → Prop) (X : Cx) (W : L2.WX) (M : List Md) (es : List Expr) (F : List D → Rs (List D)) : Prop :=
  ∃ t : TA, PA X es t ∧ ∀ (G H0 : Hp) (O0 : Out) (O : Addr → Prop) (H : Hp) (σ : L2.St) (ρ : List D) (Q : List V → Hp → Prop), EOk X.T G H0 O0 M O H σ ρ → Wnt (WS W X.T O σ) (Rp X.T O) H (F ρ) Q → t σ H Q
def shA (K : Tx) (O : Addr → Prop) (H : Hp) (vs : List V) (ds : List D) : Prop := DqAll K (hide O H) vs ds
inductive BpAll (K : Tx) (O : Addr → Prop) (H : Hp) : List V → List D → Prop
  | nil : BpAll K O H [] []
  | cons {v : V} {d : D} {vs : List V} {ds : List D} : Bp K O H v d → BpAll K O H vs ds → BpAll K O H (v :: vs) (d :: ds)
abbrev DA := AJ shA
abbrev DAb := AJ BpAll

/-! ### reading a borrowed value -/
section
variable {K : Tx} {O : Addr → Prop} {H H' : Hp} {v : V} {d : D}
theorem Bp.mono (s : Same H H') : Bp K O H v d → Bp K O H' v d
  | .inl h => .inl (Dq.mono (hide_same s) h)
  | .inr ⟨p, e, .inl h⟩ => .inr ⟨p, e, .inl (h.mono s)⟩
  | .inr ⟨p, e, .inr (.inl h)⟩ => .inr ⟨p, e, .inr (.inl (h.mono s))⟩
  | .inr ⟨p, e, .inr (.inr h)⟩ => .inr ⟨p, e, .inr (.inr h)⟩
theorem BpAll.mono (s : Same H H') : ∀ {vs : List V} {ds : List D}, BpAll K O H vs ds → BpAll K O H' vs ds
  | _, _, .nil => .nil
  | _, _, .cons r t => .cons (r.mono s) (BpAll.mono s t)
theorem Bp.non (h : Bp K O H v .none) : v = .non := by
  rcases h with h | ⟨p, _, ⟨_, _, e, _⟩ | ⟨_, _, e, _⟩ | ⟨_, e, _⟩⟩
  · cases h; rfl
  · cases e
  · cases e
  · cases e
theorem Bp.bl {b : Bool} (h : Bp K O H v (.bool b)) : v = .bl b := by
  rcases h with h | ⟨p, _, ⟨_, _, e, _⟩ | ⟨_, _, e, _⟩ | ⟨_, e, _⟩⟩
  · cases h; rfl
  · cases e
  · cases e
  · cases e
theorem Bp.int {i : Int} (h : Bp K O H v (.int i)) : v = .int i := by
  rcases h with h | ⟨p, _, ⟨_, _, e, _⟩ | ⟨_, _, e, _⟩ | ⟨_, e, _⟩⟩
  · cases h; rfl
  · cases e
  · cases e
  · cases e
theorem Bp.str {x : Str} (h : Bp K O H v (.str x)) : v = .str x := by
  rcases h with h | ⟨p, _, ⟨_, _, e, _⟩ | ⟨_, _, e, _⟩ | ⟨_, e, _⟩⟩
  · cases h; rfl
  · cases e
  · cases e
  · cases e
theorem Bp.list {ds : List D} (h : Bp K O H v (.list ds)) : ∃ p xs, v = .ref p ∧ H p = some (.lst xs) ∧ DqAll K (hide O H) xs ds := by
  rcases h with h | ⟨p, e0, ⟨vs, es, e, q, a⟩ | ⟨_, _, e, _⟩ | ⟨_, e, _⟩⟩
  · cases h with
    | lst hs ha => exact ⟨_, _, rfl, hide_sub _ _ hs, ha⟩
  · cases e
    exact ⟨p, vs, e0, q, a⟩
  · cases e
  · cases e
theorem Bp.tuple {ds : List D} (h : Bp K O H v (.tuple ds)) : ∃ p xs, v = .ref p ∧ SqT K.K H p xs ∧ DqAll K (hide O H) xs ds := by
  rcases h with h | ⟨p, e0, ⟨vs, es, e, q, a⟩ | ⟨_, _, e, _⟩ | ⟨ss, e, h⟩⟩
  · cases h with
    | tup hs ha => exact ⟨_, _, rfl, SqT.of (hide_sub _ _ hs), ha⟩
  · cases e
  · cases e
  · cases e
    exact ⟨p, _, e0, h H, DqAll.of_strs⟩
theorem Bp.scr {ns : List Int} (h : Bp K O H v (scrD ns)) : ∃ p, v = .ref p ∧ SqL K.K H p (ns.map V.int) := by
  rcases h with h | ⟨p, e0, ⟨vs, es, e, q, a⟩ | ⟨kvs, ds, e, _, k⟩ | ⟨ss, e, h⟩⟩
  · generalize hd : scrD ns = d at h
    cases h with
    | scr hs => rw [scrD_inj hd]; exact ⟨_, rfl, Same.seq hide_sub hs⟩
    | _ => unfold scrD at hd; cases hd
  · cases e
  · unfold scrD at e
    injection e with e
    generalize ds = zs at e k
    cases k with
    | nil => cases e
    | @cons k v d kvs ds _ _ =>
      injection e with e _
      injection e with e _
      cases k <;> cases e
  · cases e
/-- a dict's data, by its first key: no script, object, error, reference -/
def hdK : List (D × D) → Bool
  | [] => true
  | (.int _, _) :: _ => true
  | (.str _, _) :: _ => true
  | _ => false
theorem Bp.dict {ds : List (D × D)} (h : Bp K O H v (.dict ds)) (hk : hdK ds = true) : ∃ p kvs, v = .ref p ∧ Rd H p (.dK kvs) ∧ DkAll K (hide O H) kvs ds := by
  rcases h with h | ⟨p, e0, ⟨vs, es, e, q, a⟩ | ⟨vs, es, e, q, a⟩ | ⟨_, e, _⟩⟩
  · generalize hd : (.dict ds : D) = d at h
    cases h with
    | scr hs => unfold scrD at hd; cases hd; cases hk
    | obj _ _ _ => unfold objD at hd; cases hd; cases hk
    | exc _ _ _ _ => unfold excD at hd; cases hd; cases hk
    | _ => cases hd
  · cases e
  · cases e
    exact ⟨p, vs, e0, q, a⟩
  · cases e
theorem Bp.dp (h : Bp K O H v d) (hd : d.canLay0 = true) : Dp K.K H v d := by
  rcases h with h | ⟨p, e0, ⟨vs, es, e, q, a⟩ | ⟨vs, es, e, q, a⟩ | ⟨ss, e, h⟩⟩
  · exact Dq.dp (Dq.mono hide_sub h) hd
  · subst e0 e
    exact .lst (SqL.of q) (DqAll.dp (DqAll.mono hide_sub a) (by simpa [PyData.canLay0] using hd))
  · subst e
    simp [PyData.canLay0] at hd
  · subst e0 e
    exact .tup (h H) (DqAll.dp DqAll.of_strs (by simpa [PyData.canLay0] using hd))
theorem dp_int {i : Int} : Dq K (hide O H) (.int i) (.int i) := .int i
theorem dp_bl {b : Bool} : Dq K (hide O H) (.bl b) (.bool b) := .bl b
theorem dp_str {x : Str} : Dq K (hide O H) (.str x) (.str x) := .str x
end

section
variable {X : Cx} {W : L2.WX} {M : List Md} {e a b c : Expr} {F F1 F2 F3 : List D → Rs D} {pos : Pos}
theorem DE.bo (h : DE X W M e F) : DB X W M e F := by
  obtain ⟨t, p, q⟩ := h
  refine ⟨t, p, fun G H0 O0 O H σ ρ Q I w => q G H0 O0 O H σ ρ Q I ?_⟩
  generalize F ρ = r at w ⊢
  cases r with
  | ok d => exact fun H' v s r => w H' v s (.inl r)
  | er e => exact w
  | no => exact w
theorem DO.sh (h : DO X W M e F) : DE X W M e F := by
  obtain ⟨t, p, q⟩ := h
  refine ⟨t, p, fun G H0 O0 O H σ ρ Q I w => q G H0 O0 O H σ ρ Q I ?_⟩
  generalize F ρ = r at w ⊢
  cases r with
  | ok d =>
    rintro H' v s ⟨p, vs, ds, rfl, rfl, hp, h1, ha⟩
    exact w _ _ s (.lst (by rw [hide_at (I.ne hp)]; exact h1) (DqAll.mono (hide_less fun b h => .inl h) ha))
  | er e => exact w
  | no => exact w

/-! ### names, constants -/
def fVar (i : Nat) : List D → Rs D := fun ρ => match ρ[i]? with
  | some d => .ok d
  | none => .no
def fC (d : D) : List D → Rs D := fun _ => .ok d
theorem de_var {x : Str} (i : Nat) (hm : M[i]? = some .sh := by rfl) (hN : X.N[i]? = some x := by rfl) (hv : Vis X.env.scope x := by first | exact Or.inl rfl | exact Or.inr (Or.inl rfl) | exact Or.inr (Or.inr rfl)) (hd : (x == ("__debug__" : Str)) = false := by decide) (hcd : (x == ("__classdict__" : Str)) = false := by decide) :
    DE X W M (.Name x pos) (fVar i) := by
  refine ⟨_, pe_var hN hv hd hcd, fun G H0 O0 O H σ ρ Q I w => ?_⟩
  unfold fVar at w
  cases hr : ρ[i]? with
  | none => rw [hr] at w; exact w.elim
  | some d =>
    rw [hr] at w
    obtain ⟨v, e1, e2⟩ := I.sh hm hr
    exact ⟨v, e1, w.ok e2⟩
theorem db_own {x : Str} (i : Nat) (hm : M[i]? = some .ow := by rfl) (hN : X.N[i]? = some x := by rfl) (hv : Vis X.env.scope x := by first | exact Or.inl rfl | exact Or.inr (Or.inl rfl) | exact Or.inr (Or.inr rfl)) (hd : (x == ("__debug__" : Str)) = false := by decide) (hcd : (x == ("__classdict__" : Str)) = false := by decide) :
    DB X W M (.Name x pos) (fVar i) := by
  refine ⟨_, pe_var hN hv hd hcd, fun G H0 O0 O H σ ρ Q I w => ?_⟩
  unfold fVar at w
  cases hr : ρ[i]? with
  | none => rw [hr] at w; exact w.elim
  | some d =>
    rw [hr] at w
    obtain ⟨p, e1, _, _, e2⟩ := I.ow hm hr
    exact ⟨_, e1, w.ok (.inr ⟨p, rfl, .inl e2⟩)⟩
theorem db_dk {x : Str} (i : Nat) (hm : M[i]? = some .dk := by rfl) (hN : X.N[i]? = some x := by rfl) (hv : Vis X.env.scope x := by first | exact Or.inl rfl | exact Or.inr (Or.inl rfl) | exact Or.inr (Or.inr rfl)) (hd : (x == ("__debug__" : Str)) = false := by decide) (hcd : (x == ("__classdict__" : Str)) = false := by decide) :
    DB X W M (.Name x pos) (fVar i) := by
  refine ⟨_, pe_var hN hv hd hcd, fun G H0 O0 O H σ ρ Q I w => ?_⟩
  unfold fVar at w
  cases hr : ρ[i]? with
  | none => rw [hr] at w; exact w.elim
  | some d =>
    rw [hr] at w
    obtain ⟨p, e1, _, _, e2⟩ := I.dk hm hr
    exact ⟨_, e1, w.ok (.inr ⟨p, rfl, .inr (.inl (.of e2))⟩)⟩
theorem de_int {i : Int} {j : Nat} : DE X W M (.Constant (.int i) j pos) (fC (.int i)) := ⟨_, pe_int, fun _ _ _ _ _ _ _ _ _ w => w.ok (.int i)⟩
theorem de_bl {i : Bool} {j : Nat} : DE X W M (.Constant (.bool i) j pos) (fC (.bool i)) := ⟨_, pe_bl, fun _ _ _ _ _ _ _ _ _ w => w.ok (.bl i)⟩
theorem de_non {j : Nat} : DE X W M (.Constant .none j pos) (fC .none) := ⟨_, pe_non, fun _ _ _ _ _ _ _ _ _ w => w.ok .non⟩
theorem de_str {x : Str} {j : Nat} : DE X W M (.Constant (.str x) j pos) (fC (.str x)) := ⟨_, pe_str, fun _ _ _ _ _ _ _ _ _ w => w.ok (.str x)⟩

/-! ### operators -/
def OpD (X : Cx) (g : Value → Value → Sem Value) (f : D → D → Rs D) : Prop :=
  ∃ r : R2, OpR X g r ∧ ∀ (W : D → Hp → Prop) (O : Addr → Prop) (H : Hp) (x y : V) (d e : D) (Q : VK), (∀ p, O p → H p ≠ none) → Bp X.T O H x d → Bp X.T O H y e → Wnt W (fun H' v z => Dq X.T (hide O H') v z) H (f d e) Q → r x y H Q
def fB (f : D → D → Rs D) (F G : List D → Rs D) : List D → Rs D := fun ρ => (F ρ).bind fun x => (G ρ).bind fun y => f x y
theorem de_bin {op : Operator} {f : D → D → Rs D} (h : OpD X (binaryOp op) f) (ha : DB X W M a F1) (hb : DB X W M b F2) : DE X W M (.BinOp a op b pos) (fB f F1 F2) := by
  obtain ⟨r, hr, q⟩ := h
  obtain ⟨ta, pa, qa⟩ := ha
  obtain ⟨tb, pb, qb⟩ := hb
  refine ⟨_, pe_op hr pa pb, fun G H0 O0 O H σ ρ Q I w => qa G H0 O0 O H σ ρ _ I (Wnt.bind w fun d H1 x s1 hd w1 => qb G H0 O0 O H1 σ ρ _ (I.mono s1) (Wnt.bind w1 fun e H2 y s2 he w2 => ?_))⟩
  exact q _ O H2 x y d e Q ((I.mono s1).mono s2).alive (hd.mono s2) he w2
theorem de_cmp {op : CmpOp} {f : D → D → Rs D} (h : OpD X (compareOp op) f) (ha : DB X W M a F1) (hb : DB X W M b F2) (hm : behindInMarks op b = false) : DE X W M (.Compare a [op] [b] pos) (fB f F1 F2) := by
  obtain ⟨r, hr, q⟩ := h
  obtain ⟨ta, pa, qa⟩ := ha
  obtain ⟨tb, pb, qb⟩ := hb
  refine ⟨_, pe_cmpR hr pa pb hm, fun G H0 O0 O H σ ρ Q I w => qa G H0 O0 O H σ ρ _ I (Wnt.bind w fun d H1 x s1 hd w1 => qb G H0 O0 O H1 σ ρ _ (I.mono s1) (Wnt.bind w1 fun e H2 y s2 he w2 => ?_))⟩
  exact q _ O H2 x y d e Q ((I.mono s1).mono s2).alive (hd.mono s2) he w2
/-- a truth as a Bool -/
def tB (r : Rs D) : Rs Bool := r.bind fun d => match d with
  | .bool b => .ok b
  | _ => .no
theorem Wnt.tB {W : D → Hp → Prop} {Rp : Hp → V → D → Prop} {H : Hp} {r : Rs D} {Q : Bool → Hp → Prop} (h : Wnt W (fun _ (b : Bool) (c : Bool) => b = c) H (tB r) Q) (hb : ∀ H' v b, Rp H' v (.bool b) → v = .bl b) :
    Wnt W Rp H r fun x H' => ∃ k, x = .bl k ∧ Q k H' := by
  cases r with
  | er e => exact h
  | no => exact h
  | ok d =>
    cases d with
    | bool b => exact fun H' v s q => ⟨b, hb H' v b q, h H' b s rfl⟩
    | _ => exact h.elim
theorem dt_cmp {op : CmpOp} {f : D → D → Rs D} (h : OpD X (compareOp op) f) (ha : DB X W M a F1) (hb : DB X W M b F2) (hm : behindInMarks op b = false) : DT X W M (.Compare a [op] [b] pos) (fun ρ => tB (fB f F1 F2 ρ)) := by
  obtain ⟨r, hr, q⟩ := h
  obtain ⟨ta, pa, qa⟩ := ha
  obtain ⟨tb, pb, qb⟩ := hb
  refine ⟨_, pt_cmpR hr pa pb hm, fun G H0 O0 O H σ ρ Q I w0 => ?_⟩
  have w := Wnt.tB (Rp := fun H' v z => Dq X.T (hide O H') v z) w0 (fun H' v b q => by cases q; rfl)
  refine qa G H0 O0 O H σ ρ _ I (Wnt.bind w fun d H1 x s1 hd w1 => qb G H0 O0 O H1 σ ρ _ (I.mono s1) (Wnt.bind w1 fun e H2 y s2 he w2 => ?_))
  exact q _ O H2 x y d e _ ((I.mono s1).mono s2).alive (hd.mono s2) he w2
/-- an expression that gives a truth, as a test -/
theorem dt_val (h : DE X W M e F) (he : ∀ whole, isTrue e X.env whole = (do let v ← whole; standAt e.pos; holding [v] (truthy v)) := by intro _; rfl) : DT X W M e (fun ρ => tB (F ρ)) := by
  obtain ⟨t, p, q⟩ := h
  exact ⟨_, pt_val p he, fun G H0 O0 O H σ ρ Q I w => q G H0 O0 O H σ ρ _ I (Wnt.tB w fun H' v b q => by cases q; rfl)⟩
/-- two comparisons in a chain -/
def fCh (f g : D → D → Rs D) (F1 F2 F3 : List D → Rs D) : List D → Rs D := fun ρ => (F1 ρ).bind fun x => (F2 ρ).bind fun y => (tB (f x y)).bind fun k => if k then (F3 ρ).bind fun z => g y z else .ok (.bool false)
theorem ch_run {op op' : CmpOp} {f g : D → D → Rs D} {r r' : R2} {ta tb tc : TE}
    (q : ∀ (W : D → Hp → Prop) (O : Addr → Prop) (H : Hp) (x y : V) (d e : D) (Q : VK), (∀ p, O p → H p ≠ none) → Bp X.T O H x d → Bp X.T O H y e → Wnt W (fun H' v z => Dq X.T (hide O H') v z) H (f d e) Q → r x y H Q)
    (q' : ∀ (W : D → Hp → Prop) (O : Addr → Prop) (H : Hp) (x y : V) (d e : D) (Q : VK), (∀ p, O p → H p ≠ none) → Bp X.T O H x d → Bp X.T O H y e → Wnt W (fun H' v z => Dq X.T (hide O H') v z) H (g d e) Q → r' x y H Q)
    (qa : ∀ (G H0 : Hp) (O0 : Out) (O : Addr → Prop) (H : Hp) (σ : L2.St) (ρ : List D) (Q : VK), EOk X.T G H0 O0 M O H σ ρ → Wnt (WS W X.T O σ) (boR X.T O H) H (F1 ρ) Q → ta σ H Q)
    (qb : ∀ (G H0 : Hp) (O0 : Out) (O : Addr → Prop) (H : Hp) (σ : L2.St) (ρ : List D) (Q : VK), EOk X.T G H0 O0 M O H σ ρ → Wnt (WS W X.T O σ) (boR X.T O H) H (F2 ρ) Q → tb σ H Q)
    (qc : ∀ (G H0 : Hp) (O0 : Out) (O : Addr → Prop) (H : Hp) (σ : L2.St) (ρ : List D) (Q : VK), EOk X.T G H0 O0 M O H σ ρ → Wnt (WS W X.T O σ) (boR X.T O H) H (F3 ρ) Q → tc σ H Q)
    (G H0 : Hp) (O0 : Out) (O : Addr → Prop) (H : Hp) (σ : L2.St) (ρ : List D) (Q : VK) (I : EOk X.T G H0 O0 M O H σ ρ) (w : Wnt (WS W X.T O σ) (fun H' v z => Dq X.T (hide O H') v z) H (fCh f g F1 F2 F3 ρ) Q) : tChain r r' ta tb tc σ H Q := by
  refine qa G H0 O0 O H σ ρ _ I (Wnt.bind w fun d H1 x s1 hd w1 => qb G H0 O0 O H1 σ ρ _ (I.mono s1) (Wnt.bind w1 fun e H2 y s2 he w2 => ?_))
  refine q (WS W X.T O σ) O H2 x y d e _ ((I.mono s1).mono s2).alive (hd.mono s2) he ?_
  generalize f d e = z at w2
  cases z with
  | er e => exact w2
  | no => exact w2
  | ok z =>
    cases z with
    | bool k =>
      intro H3 v s3 hv
      refine ⟨k, by cases hv; rfl, ?_⟩
      cases k with
      | false =>
        have w3 : Wnt (WS W X.T O σ) (fun H' v z => Dq X.T (hide O H') v z) H3 (.ok (.bool false)) Q := Wnt.mono s3 w2
        exact w3.ok (.bl false)
      | true =>
        have w3 : Wnt (WS W X.T O σ) (fun H' v z => Dq X.T (hide O H') v z) H3 ((F3 ρ).bind fun z => g e z) Q := Wnt.mono s3 w2
        exact qc G H0 O0 O H3 σ ρ _ (((I.mono s1).mono s2).mono s3) (Wnt.bind w3 fun z H4 u s4 hz w4 => q' _ O H4 y u e z Q ((((I.mono s1).mono s2).mono s3).mono s4).alive ((he.mono s3).mono s4) hz w4)
    | _ => exact w2.elim
theorem de_chain {op op' : CmpOp} {f g : D → D → Rs D} (h : OpD X (compareOp op) f) (h' : OpD X (compareOp op') g) (ha : DB X W M a F1) (hb : DB X W M b F2) (hc : DB X W M c F3) (hm : lastMarks [op, op'] [b, c] = false := by with_unfolding_all rfl) :
    DE X W M (.Compare a [op, op'] [b, c] pos) (fCh f g F1 F2 F3) := by
  obtain ⟨r, hr, q⟩ := h
  obtain ⟨r', hr', q'⟩ := h'
  obtain ⟨ta, pa, qa⟩ := ha
  obtain ⟨tb, pb, qb⟩ := hb
  obtain ⟨tc, pc, qc⟩ := hc
  exact ⟨_, pe_chain hr hr' pa pb pc hm, fun G H0 O0 O H σ ρ Q I w => ch_run (op := op) (op' := op') q q' qa qb qc G H0 O0 O H σ ρ Q I w⟩
theorem dt_chain {op op' : CmpOp} {f g : D → D → Rs D} (h : OpD X (compareOp op) f) (h' : OpD X (compareOp op') g) (ha : DB X W M a F1) (hb : DB X W M b F2) (hc : DB X W M c F3) (hm : lastMarks [op, op'] [b, c] = false := by with_unfolding_all rfl) :
    DT X W M (.Compare a [op, op'] [b, c] pos) (fun ρ => tB (fCh f g F1 F2 F3 ρ)) := by
  obtain ⟨r, hr, q⟩ := h
  obtain ⟨r', hr', q'⟩ := h'
  obtain ⟨ta, pa, qa⟩ := ha
  obtain ⟨tb, pb, qb⟩ := hb
  obtain ⟨tc, pc, qc⟩ := hc
  exact ⟨_, pt_chain hr hr' pa pb pc hm, fun G H0 O0 O H σ ρ Q I w => ch_run (op := op) (op' := op') q q' qa qb qc G H0 O0 O H σ ρ _ I (Wnt.tB w fun H' v b q => by cases q; rfl)⟩

/-! ### and, or, not -/
def bAnd (F G : List D → Rs Bool) : List D → Rs Bool := fun ρ => (F ρ).bind fun x => if x then G ρ else .ok false
def bOr (F G : List D → Rs Bool) : List D → Rs Bool := fun ρ => (F ρ).bind fun x => if x then .ok true else G ρ
def bNot (F : List D → Rs Bool) : List D → Rs Bool := fun ρ => (F ρ).bind fun x => .ok (!x)
variable {B1 B2 : List D → Rs Bool} {rest : List Expr}
theorem dw_and1 (h : DT X W M a B1) : DTw X W M (.BoolOp .And [a] pos) B1 := let ⟨_, p, q⟩ := h; ⟨_, pw_and1 p, q⟩
theorem dw_or1 (h : DT X W M a B1) : DTw X W M (.BoolOp .Or [a] pos) B1 := let ⟨_, p, q⟩ := h; ⟨_, pw_or1 p, q⟩
theorem dw_and (h : DT X W M a B1) (h2 : DTw X W M (.BoolOp .And (b :: rest) pos) B2) : DTw X W M (.BoolOp .And (a :: b :: rest) pos) (bAnd B1 B2) := by
  obtain ⟨t, p, q⟩ := h
  obtain ⟨t2, p2, q2⟩ := h2
  refine ⟨_, pw_and p p2, fun G H0 O0 O H σ ρ Q I w => q G H0 O0 O H σ ρ _ I (Wnt.bind w fun x H1 k s1 e w1 => ?_)⟩
  subst e
  cases k with
  | true => exact q2 G H0 O0 O H1 σ ρ Q (I.mono s1) w1
  | false => exact w1.ok rfl
theorem dw_or (h : DT X W M a B1) (h2 : DTw X W M (.BoolOp .Or (b :: rest) pos) B2) : DTw X W M (.BoolOp .Or (a :: b :: rest) pos) (bOr B1 B2) := by
  obtain ⟨t, p, q⟩ := h
  obtain ⟨t2, p2, q2⟩ := h2
  refine ⟨_, pw_or p p2, fun G H0 O0 O H σ ρ Q I w => q G H0 O0 O H σ ρ _ I (Wnt.bind w fun x H1 k s1 e w1 => ?_)⟩
  subst e
  cases k with
  | false => exact q2 G H0 O0 O H1 σ ρ Q (I.mono s1) w1
  | true => exact w1.ok rfl
theorem dt_w (h : DTw X W M e B1) : DT X W M e B1 := let ⟨_, p, q⟩ := h; ⟨_, p.pt, q⟩
theorem dt_not (h : DT X W M a B1) : DT X W M (.UnaryOp .Not a pos) (bNot B1) := by
  obtain ⟨t, p, q⟩ := h
  refine ⟨_, pt_not p, fun G H0 O0 O H σ ρ Q I w => q G H0 O0 O H σ ρ _ I (Wnt.bind w fun x H1 k s1 e w1 => ?_)⟩
  subst e
  exact w1.ok rfl
/-- .. as values -/
def vAnd (F G : List D → Rs D) : List D → Rs D := fun ρ => (tB (F ρ)).bind fun x => if x then G ρ else .ok (.bool false)
def vOr (F G : List D → Rs D) : List D → Rs D := fun ρ => (tB (F ρ)).bind fun x => if x then .ok (.bool true) else G ρ
def vNot (F : List D → Rs D) : List D → Rs D := fun ρ => (tB (F ρ)).bind fun x => .ok (.bool (!x))
theorem Wnt.tBv {γ δ : Type} {W : D → Hp → Prop} {Rp : Hp → V → D → Prop} {Rq : Hp → δ → γ → Prop} {H : Hp} {r : Rs D} {f : Bool → Rs γ} {Q : δ → Hp → Prop} {Q' : Bool → Hp → Prop} (h : Wnt W Rq H ((FL.tB r).bind f) Q)
    (hb : ∀ H' v b, Rp H' v (.bool b) → v = .bl b) (k : ∀ b H', Same H H' → Wnt W Rq H' (f b) Q → Q' b H') : Wnt W Rp H r fun x H' => ∃ k, x = .bl k ∧ Q' k H' := by
  cases r with
  | er e => exact h
  | no => exact h
  | ok d =>
    cases d with
    | bool b => exact fun H' v s q => ⟨b, hb H' v b q, k b H' s (Wnt.mono s h)⟩
    | _ => exact h.elim
theorem de_one {op : BoolOp} (h : DE X W M a F) : DE X W M (.BoolOp op [a] pos) F := let ⟨_, p, q⟩ := h; ⟨_, pe_one p, q⟩
theorem de_and (h : DE X W M a F1) (h2 : DE X W M (.BoolOp .And (b :: rest) pos) F2) : DE X W M (.BoolOp .And (a :: b :: rest) pos) (vAnd F1 F2) := by
  obtain ⟨t, p, q⟩ := h
  obtain ⟨t2, p2, q2⟩ := h2
  refine ⟨_, pe_and p p2, fun G H0 O0 O H σ ρ Q I w => q G H0 O0 O H σ ρ _ I (Wnt.tBv w (fun H' v b q => by cases q; rfl) fun k H1 s1 w1 => ?_)⟩
  cases k with
  | true => exact q2 G H0 O0 O H1 σ ρ Q (I.mono s1) w1
  | false => exact w1.ok (.bl false)
theorem de_or (h : DE X W M a F1) (h2 : DE X W M (.BoolOp .Or (b :: rest) pos) F2) : DE X W M (.BoolOp .Or (a :: b :: rest) pos) (vOr F1 F2) := by
  obtain ⟨t, p, q⟩ := h
  obtain ⟨t2, p2, q2⟩ := h2
  refine ⟨_, pe_or p p2, fun G H0 O0 O H σ ρ Q I w => q G H0 O0 O H σ ρ _ I (Wnt.tBv w (fun H' v b q => by cases q; rfl) fun k H1 s1 w1 => ?_)⟩
  cases k with
  | false => exact q2 G H0 O0 O H1 σ ρ Q (I.mono s1) w1
  | true => exact w1.ok (.bl true)
theorem de_not (h : DE X W M a F) : DE X W M (.UnaryOp .Not a pos) (vNot F) := by
  obtain ⟨t, p, q⟩ := h
  refine ⟨_, pe_not p, fun G H0 O0 O H σ ρ Q I w => q G H0 O0 O H σ ρ _ I (Wnt.tBv w (fun H' v b q => by cases q; rfl) fun k H1 s1 w1 => ?_)⟩
  exact w1.ok (.bl _)
def fIf (B : List D → Rs Bool) (F G : List D → Rs D) : List D → Rs D := fun ρ => (B ρ).bind fun x => if x then F ρ else G ρ
theorem de_ifExp (hc : DT X W M c B1) (ha : DE X W M a F1) (hb : DE X W M b F2) : DE X W M (.IfExp c a b pos) (fIf B1 F1 F2) := by
  obtain ⟨t, p, q⟩ := hc
  obtain ⟨t1, p1, q1⟩ := ha
  obtain ⟨t2, p2, q2⟩ := hb
  refine ⟨_, pe_ifExp p p1 p2, fun G H0 O0 O H σ ρ Q I w => q G H0 O0 O H σ ρ _ I (Wnt.bind w fun x H1 k s1 e w1 => ?_)⟩
  subst e
  cases k with
  | true => exact q1 G H0 O0 O H1 σ ρ Q (I.mono s1) w1
  | false => exact q2 G H0 O0 O H1 σ ρ Q (I.mono s1) w1

/-! ### lists of expressions, displays -/
def aNil : List D → Rs (List D) := fun _ => .ok []
def aCons (F : List D → Rs D) (A : List D → Rs (List D)) : List D → Rs (List D) := fun ρ => (F ρ).bind fun x => (A ρ).bind fun xs => .ok (x :: xs)
variable {es : List Expr} {A : List D → Rs (List D)}
theorem da_nil : DA X W M [] aNil := ⟨_, pa_nil, fun _ _ _ _ _ _ _ _ _ w => w.ok .nil⟩
theorem da_cons (h : DE X W M e F) (h2 : DA X W M es A) (hs : starEach (e :: es) X.env = (false, eval e X.env) :: starEach es X.env := by rfl) : DA X W M (e :: es) (aCons F A) := by
  obtain ⟨t, p, q⟩ := h
  obtain ⟨t2, p2, q2⟩ := h2
  refine ⟨_, pa_cons p p2 hs, fun G H0 O0 O H σ ρ Q I w => q G H0 O0 O H σ ρ _ I (Wnt.bind w fun d H1 v s1 hd w1 => q2 G H0 O0 O H1 σ ρ _ (I.mono s1) (Wnt.bind w1 fun ds H2 vs s2 hds w2 => w2.ok ?_))⟩
  exact .cons (Dq.mono (hide_same s2) hd) hds
theorem dab_nil : DAb X W M [] aNil := ⟨_, pa_nil, fun _ _ _ _ _ _ _ _ _ w => w.ok .nil⟩
theorem dab_cons (h : DB X W M e F) (h2 : DAb X W M es A) (hs : starEach (e :: es) X.env = (false, eval e X.env) :: starEach es X.env := by rfl) : DAb X W M (e :: es) (aCons F A) := by
  obtain ⟨t, p, q⟩ := h
  obtain ⟨t2, p2, q2⟩ := h2
  refine ⟨_, pa_cons p p2 hs, fun G H0 O0 O H σ ρ Q I w => q G H0 O0 O H σ ρ _ I (Wnt.bind w fun d H1 v s1 hd w1 => q2 G H0 O0 O H1 σ ρ _ (I.mono s1) (Wnt.bind w1 fun ds H2 vs s2 hds w2 => w2.ok ?_))⟩
  exact .cons (hd.mono s2) hds
def fLst (A : List D → Rs (List D)) : List D → Rs D := fun ρ => (A ρ).bind fun ds => if ds.length ≤ 100000 then .ok (.list ds) else .no
def fTup (A : List D → Rs (List D)) : List D → Rs D := fun ρ => (A ρ).bind fun ds => if ds.length ≤ 100000 then .ok (.tuple ds) else .no
theorem line_of {n : Nat} (h : n ≤ 100000) : n ≤ sizeLine := Nat.le_trans h (by decide)
theorem line_lt {n : Nat} (h : n ≤ 100000) : n < sizeLine := Nat.lt_of_le_of_lt h (by decide)
theorem do_lst (h : DA X W M es A) : DO X W M (.List es pos) (fLst A) := by
  obtain ⟨t, p, q⟩ := h
  refine ⟨_, pe_lst p, fun G H0 O0 O H σ ρ Q I w => q G H0 O0 O H σ ρ _ I (Wnt.bind w fun ds H1 vs s1 hd w1 => ?_)⟩
  by_cases hl : ds.length ≤ 100000
  · rw [if_pos hl] at w1
    refine ⟨by rw [DqAll.length hd]; exact line_of hl, fun p hp => ?_⟩
    exact w1 _ _ (same_upd hp) (ow_mk s1 hp hd)
  · rw [if_neg hl] at w1; exact w1.elim
theorem de_tup {k : Nat} (h : DA X W M es A) : DE X W M (.Tuple es k pos) (fTup A) := by
  obtain ⟨t, p, q⟩ := h
  refine ⟨_, pe_tup p, fun G H0 O0 O H σ ρ Q I w => q G H0 O0 O H σ ρ _ I (Wnt.bind w fun ds H1 vs s1 hd w1 => ?_)⟩
  by_cases hl : ds.length ≤ 100000
  · rw [if_pos hl] at w1
    refine ⟨by rw [DqAll.length hd]; exact line_of hl, fun p hp => ?_⟩
    refine w1 _ _ (same_upd hp) (.tup ?_ (DqAll.mono (hide_same (same_upd hp)) hd))
    rw [hide_at ((I.mono s1).ne hp)]; exact upd_same
  · rw [if_neg hl] at w1; exact w1.elim
end
end FL
end
section
/-! FL, part C: the operators. -/
namespace FL
open PySem L2

/-! ### what the operators give -/
def strRep (x : Str) (n : Int) : Str := ⟨((List.replicate n.toNat x.cps.toList).flatten).toArray⟩
def dAdd : D → D → Rs D
  | .int a, .int b => .ok (.int (a + b))
  | .str a, .str b => if a.length + b.length ≤ 1000000 then .ok (.str (a ++ b)) else .no
  | .list a, .list b => if a.length + b.length ≤ 100000 then .ok (.list (a ++ b)) else .no
  | .tuple a, .tuple b => if a.isEmpty = false ∧ b.isEmpty = false ∧ a.length + b.length ≤ 100000 then .ok (.tuple (a ++ b)) else .no
  | _, _ => .no
def dSub : D → D → Rs D
  | .int a, .int b => .ok (.int (a - b))
  | _, _ => .no
def dMul : D → D → Rs D
  | .int a, .int b => if Builtin.Int.intBits a + Builtin.Int.intBits b ≤ 134217728 then .ok (.int (a * b)) else .no
  | .str a, .int n => if 0 ≤ n ∧ n ≤ 1000 ∧ a.length ≤ 1000 then .ok (.str (strRep a n)) else .no
  | .list a, .int n => if 0 ≤ n ∧ a.length * n.toNat ≤ 100000 ∧ n ≤ 100000 then .ok (.list (List.replicate n.toNat a).flatten) else .no
  | _, _ => .no
def dDiv : D → D → Rs D
  | .int a, .int b => if 0 < b ∧ b.natAbs.log2 < 9000 then .ok (.int (a / b)) else .no
  | _, _ => .no
def dMod : D → D → Rs D
  | .int a, .int b => if 0 < b then .ok (.int (a % b)) else .no
  | _, _ => .no
def dPow : D → D → Rs D
  | .int a, .int b => if 0 ≤ b ∧ b ≤ 1000000 ∧ a.natAbs < 2 ^ 64 then .ok (.int (a ^ b.toNat)) else .no
  | _, _ => .no
def dShl : D → D → Rs D
  | .int a, .int b => if 0 ≤ b ∧ b ≤ 1000000 ∧ a.natAbs < 2 ^ 64 then .ok (.int (a * 2 ^ b.toNat)) else .no
  | _, _ => .no
def dShr : D → D → Rs D
  | .int a, .int b => if 0 ≤ b then .ok (.int (a / 2 ^ b.toNat)) else .no
  | _, _ => .no
def dBand : D → D → Rs D
  | .int a, .int b => .ok (.int (Builtin.bitAnd a b))
  | _, _ => .no
def dBor : D → D → Rs D
  | .int a, .int b => .ok (.int (Builtin.bitOr a b))
  | _, _ => .no
def dBxor : D → D → Rs D
  | .int a, .int b => .ok (.int (Builtin.bitXor a b))
  | _, _ => .no
def dEq (d e : D) : Rs D := if SeqAt.shaped d = true ∧ SeqAt.shaped e = true then .ok (.bool (PyData.eqv d e)) else .no
def dNe (d e : D) : Rs D := if SeqAt.shaped d = true ∧ SeqAt.shaped e = true then .ok (.bool (!PyData.eqv d e)) else .no
/-- the ints of a list of data, where all are ints -/
def intsOf : List D → Option (List Int)
  | [] => some []
  | .int i :: r => (intsOf r).map (i :: ·)
  | _ :: _ => none
theorem intsOf_eq : ∀ {ds : List D} {ns : List Int}, intsOf ds = some ns → ds = ns.map .int
  | [], ns, h => by cases h; rfl
  | .int i :: r, ns, h => by
    unfold intsOf at h
    cases q : intsOf r with
    | none => rw [q] at h; cases h
    | some ms => rw [q] at h; cases h; rw [intsOf_eq q]; rfl
  | .none :: _, _, h => by cases h
  | .bool _ :: _, _, h => by cases h
  | .str _ :: _, _, h => by cases h
  | .list _ :: _, _, h => by cases h
  | .tuple _ :: _, _, h => by cases h
  | .dict _ :: _, _, h => by cases h
theorem intsOf_map (ns : List Int) : intsOf (ns.map .int) = some ns := by
  induction ns with
  | nil => rfl
  | cons n ns ih => show (intsOf (ns.map .int)).map (n :: ·) = _; rw [ih]; rfl
def dLt : D → D → Rs D
  | .int a, .int b => .ok (.bool (decide (a < b)))
  | .tuple a, .tuple b => match intsOf a, intsOf b with
    | some ns, some ms => .ok (.bool (HT.lexLt ns ms))
    | _, _ => .no
  | _, _ => .no
def dLe : D → D → Rs D
  | .int a, .int b => .ok (.bool (decide (a ≤ b)))
  | _, _ => .no
def dGt : D → D → Rs D
  | .int a, .int b => .ok (.bool (decide (b < a)))
  | _, _ => .no
def dGe : D → D → Rs D
  | .int a, .int b => .ok (.bool (decide (b ≤ a)))
  | _, _ => .no
def isNone : D → Bool
  | .none => true
  | _ => false
/-- is, is not: None, True and False alone -/
def dIs (d e : D) : Rs D := match e with
  | .none => .ok (.bool (isNone d))
  | .bool b => match d with
    | .bool a => .ok (.bool (decide (a = b)))
    | _ => .no
  | _ => .no
def dIsNot (d e : D) : Rs D := match e with
  | .none => .ok (.bool (!isNone d))
  | .bool b => match d with
    | .bool a => .ok (.bool (!decide (a = b)))
    | _ => .no
  | _ => .no
/-- x in a list, a tuple, a text -/
def strIn (x y : Str) : Bool := !(Builtin.Str.occurrences y x 0 y.length 1).isEmpty
def dIn (d e : D) : Rs D := match d, e with
  | .str x, .str y => .ok (.bool (strIn x y))
  | d, .list ds => if SeqAt.shaped d = true ∧ SeqAt.shaped (.list ds) = true then .ok (.bool (ds.any fun z => PyData.eqv z d)) else .no
  | .str x, .tuple ds => match ds.mapM (fun z => match z with | .str y => some y | _ => none) with
    | some ys => .ok (.bool (ys.any fun y => decide (y = x)))
    | none => .no
  | _, _ => .no
def dNotIn (d e : D) : Rs D := (tB (dIn d e)).bind fun b => .ok (.bool (!b))

section
variable {X : Cx}
/-- two ints, by a rule with a condition -/
theorem opd_I {g : Value → Value → Sem Value} {C : Int → Int → Prop} {h : Int → Int → Int} {f : D → D → Rs D} (r : OpR X g (rI C fun i j => .int (h i j)))
    (hf : ∀ d e, (∃ i j, d = .int i ∧ e = .int j ∧ ((C i j ∧ f d e = .ok (.int (h i j))) ∨ f d e = .no)) ∨ f d e = .no) : OpD X g f := by
  refine ⟨_, r, fun W O H x y d e Q al hx hy w => ?_⟩
  rcases hf d e with ⟨i, j, rfl, rfl, ⟨c, q⟩ | q⟩ | q
  · rw [q] at w
    exact ⟨i, j, hx.int, hy.int, c, w.ok (.int _)⟩
  · rw [q] at w; exact w.elim
  · rw [q] at w; exact w.elim
theorem opd_B {g : Value → Value → Sem Value} {h : Int → Int → Bool} {f : D → D → Rs D} (r : OpR X g (rI0 fun i j => .bl (h i j)))
    (hf : ∀ d e, (∃ i j, d = .int i ∧ e = .int j ∧ f d e = .ok (.bool (h i j))) ∨ f d e = .no) : OpD X g f := by
  refine ⟨_, r, fun W O H x y d e Q al hx hy w => ?_⟩
  rcases hf d e with ⟨i, j, rfl, rfl, q⟩ | q
  · rw [q] at w
    exact ⟨i, j, hx.int, hy.int, w.ok (.bl _)⟩
  · rw [q] at w; exact w.elim
theorem opd_I0 {g : Value → Value → Sem Value} {h : Int → Int → Int} {f : D → D → Rs D} (r : OpR X g (rI0 fun i j => .int (h i j)))
    (hf : ∀ d e, (∃ i j, d = .int i ∧ e = .int j ∧ f d e = .ok (.int (h i j))) ∨ f d e = .no) : OpD X g f := by
  refine ⟨_, r, fun W O H x y d e Q al hx hy w => ?_⟩
  rcases hf d e with ⟨i, j, rfl, rfl, q⟩ | q
  · rw [q] at w
    exact ⟨i, j, hx.int, hy.int, w.ok (.int _)⟩
  · rw [q] at w; exact w.elim
theorem opd_sub : OpD X (binaryOp .Sub) dSub := opd_I0 op_sub fun d e => by cases d <;> cases e <;> first | exact .inr rfl | exact .inl ⟨_, _, rfl, rfl, rfl⟩
theorem opd_band : OpD X (binaryOp .BitAnd) dBand := opd_I0 op_and fun d e => by cases d <;> cases e <;> first | exact .inr rfl | exact .inl ⟨_, _, rfl, rfl, rfl⟩
theorem opd_bor : OpD X (binaryOp .BitOr) dBor := opd_I0 op_or fun d e => by cases d <;> cases e <;> first | exact .inr rfl | exact .inl ⟨_, _, rfl, rfl, rfl⟩
theorem opd_bxor : OpD X (binaryOp .BitXor) dBxor := opd_I0 op_xor fun d e => by cases d <;> cases e <;> first | exact .inr rfl | exact .inl ⟨_, _, rfl, rfl, rfl⟩
theorem opd_div : OpD X (binaryOp .FloorDiv) dDiv := opd_I op_fdivW fun d e => by
  cases d <;> cases e <;> first | exact .inr rfl | skip
  rename_i i j
  refine .inl ⟨i, j, rfl, rfl, ?_⟩
  by_cases c : 0 < j ∧ j.natAbs.log2 < 9000
  · exact .inl ⟨c, if_pos c⟩
  · exact .inr (if_neg c)
theorem opd_mod : OpD X (binaryOp .Mod) dMod := opd_I op_mod fun d e => by
  cases d <;> cases e <;> first | exact .inr rfl | skip
  rename_i i j
  refine .inl ⟨i, j, rfl, rfl, ?_⟩
  by_cases c : 0 < j
  · exact .inl ⟨c, if_pos c⟩
  · exact .inr (if_neg c)
theorem opd_pow : OpD X (binaryOp .Pow) dPow := opd_I op_pow fun d e => by
  cases d <;> cases e <;> first | exact .inr rfl | skip
  rename_i i j
  refine .inl ⟨i, j, rfl, rfl, ?_⟩
  by_cases c : 0 ≤ j ∧ j ≤ 1000000 ∧ i.natAbs < 2 ^ 64
  · exact .inl ⟨c, if_pos c⟩
  · exact .inr (if_neg c)
theorem opd_shl : OpD X (binaryOp .LShift) dShl := opd_I op_shl fun d e => by
  cases d <;> cases e <;> first | exact .inr rfl | skip
  rename_i i j
  refine .inl ⟨i, j, rfl, rfl, ?_⟩
  by_cases c : 0 ≤ j ∧ j ≤ 1000000 ∧ i.natAbs < 2 ^ 64
  · exact .inl ⟨c, if_pos c⟩
  · exact .inr (if_neg c)
theorem opd_shr : OpD X (binaryOp .RShift) dShr := opd_I op_shr fun d e => by
  cases d <;> cases e <;> first | exact .inr rfl | skip
  rename_i i j
  refine .inl ⟨i, j, rfl, rfl, ?_⟩
  by_cases c : 0 ≤ j
  · exact .inl ⟨c, if_pos c⟩
  · exact .inr (if_neg c)
theorem opd_le : OpD X (compareOp .LtE) dLe := opd_B op_le fun d e => by cases d <;> cases e <;> first | exact .inr rfl | exact .inl ⟨_, _, rfl, rfl, rfl⟩
theorem opd_gt : OpD X (compareOp .Gt) dGt := opd_B op_gt fun d e => by cases d <;> cases e <;> first | exact .inr rfl | exact .inl ⟨_, _, rfl, rfl, rfl⟩
theorem opd_ge : OpD X (compareOp .GtE) dGe := opd_B op_ge fun d e => by cases d <;> cases e <;> first | exact .inr rfl | exact .inl ⟨_, _, rfl, rfl, rfl⟩
theorem opd_eq (hu : X.A.units + 64 < cLine) : OpD X (compareOp .Eq) dEq := by
  refine ⟨_, op_eqD hu, fun W O H x y d e Q al hx hy w => ?_⟩
  unfold dEq at w
  by_cases c : SeqAt.shaped d = true ∧ SeqAt.shaped e = true
  · rw [if_pos c] at w
    exact ⟨d, e, hx.dp (SeqAt.canLay_of_shaped c.1), hy.dp (SeqAt.canLay_of_shaped c.2), c.1, c.2, w.ok (.bl _)⟩
  · rw [if_neg c] at w; exact w.elim
theorem opd_ne (hu : X.A.units + 64 < cLine) : OpD X (compareOp .NotEq) dNe := by
  refine ⟨_, op_neD hu, fun W O H x y d e Q al hx hy w => ?_⟩
  unfold dNe at w
  by_cases c : SeqAt.shaped d = true ∧ SeqAt.shaped e = true
  · rw [if_pos c] at w
    exact ⟨d, e, hx.dp (SeqAt.canLay_of_shaped c.1), hy.dp (SeqAt.canLay_of_shaped c.2), c.1, c.2, w.ok (.bl _)⟩
  · rw [if_neg c] at w; exact w.elim
theorem opd_lt (hu : X.A.units < cLine) : OpD X (compareOp .Lt) dLt := by
  refine ⟨_, op_lt.or (op_ltT hu), fun W O H x y d e Q al hx hy w => ?_⟩
  cases d <;> cases e <;> first | exact w.elim | skip
  · rename_i i j
    exact .inl ⟨i, j, hx.int, hy.int, w.ok (.bl _)⟩
  · rename_i a b
    right
    unfold dLt at w
    cases ea : intsOf a with
    | none => simp only [ea] at w; exact w.elim
    | some ns =>
      cases eb : intsOf b with
      | none => simp only [ea, eb] at w; exact w.elim
      | some ms =>
        simp only [ea, eb] at w
        obtain ⟨p, xs, rfl, hp, ax⟩ := hx.tuple
        obtain ⟨q, ys, rfl, hq, ay⟩ := hy.tuple
        rw [intsOf_eq ea] at ax
        rw [intsOf_eq eb] at ay
        rw [DqAll.ints ax] at hp
        rw [DqAll.ints ay] at hq
        exact ⟨p, q, ns, ms, rfl, rfl, hp, hq, w.ok (.bl _)⟩
theorem bp_is {K : Tx} {O : Addr → Prop} {H : Hp} {v : V} {d : D} (h : Bp K O H v d) : decide (v = .non) = isNone d := by
  cases d with
  | none => rw [h.non]; rfl
  | bool b => rw [h.bl]; rfl
  | int i => rw [h.int]; rfl
  | str x => rw [h.str]; rfl
  | list ds => obtain ⟨p, _, rfl, _⟩ := h.list; rfl
  | tuple ds => obtain ⟨p, _, rfl, _⟩ := h.tuple; rfl
  | dict ds =>
    rcases h with h | ⟨p, rfl, _⟩
    · generalize hd : (.dict ds : D) = d at h
      cases h <;> first | rfl | cases hd
    · rfl
theorem opd_is : OpD X (compareOp .Is) dIs := by
  refine ⟨_, op_isN.or op_isBl, fun W O H x y d e Q al hx hy w => ?_⟩
  cases e with
  | none =>
    left
    refine ⟨hy.non, ?_⟩
    rw [bp_is hx]
    exact w.ok (.bl _)
  | bool b =>
    right
    cases d with
    | bool a => exact ⟨a, b, hx.bl, hy.bl, w.ok (.bl _)⟩
    | _ => exact w.elim
  | _ => exact w.elim
theorem opd_isNot : OpD X (compareOp .IsNot) dIsNot := by
  refine ⟨_, op_notN.or op_notBl, fun W O H x y d e Q al hx hy w => ?_⟩
  cases e with
  | none =>
    left
    refine ⟨hy.non, ?_⟩
    rw [bp_is hx]
    exact w.ok (.bl _)
  | bool b =>
    right
    cases d with
    | bool a => exact ⟨a, b, hx.bl, hy.bl, w.ok (.bl _)⟩
    | _ => exact w.elim
  | _ => exact w.elim
theorem opd_add : OpD X (binaryOp .Add) dAdd := by
  refine ⟨_, (op_add.or op_add_str).or (op_cat.or op_catT), fun W O H x y d e Q al hx hy w => ?_⟩
  cases d <;> cases e <;> first | exact w.elim | skip
  · rename_i i j
    exact .inl (.inl ⟨i, j, hx.int, hy.int, w.ok (.int _)⟩)
  · rename_i a b
    simp only [dAdd] at w
    by_cases c : a.length + b.length ≤ 1000000
    · rw [if_pos c] at w
      exact .inl (.inr ⟨a, b, hx.str, hy.str, Nat.le_trans c (by decide), w.ok (.str _)⟩)
    · rw [if_neg c] at w; exact w.elim
  · rename_i a b
    simp only [dAdd] at w
    by_cases c : a.length + b.length ≤ 100000
    · rw [if_pos c] at w
      obtain ⟨p, xs, rfl, hp, ax⟩ := hx.list
      obtain ⟨q, ys, rfl, hq, ay⟩ := hy.list
      refine .inr (.inl ⟨p, q, xs, ys, rfl, rfl, hp, hq, by rw [DqAll.length ax, DqAll.length ay]; exact line_of c, fun r hr => w _ _ (same_upd hr) (.lst ?_ (DqAll.mono (hide_same (same_upd hr)) (DqAll.append ax ay)))⟩)
      rw [hide_at fun z => al r z hr]; exact upd_same
    · rw [if_neg c] at w; exact w.elim
  · rename_i a b
    simp only [dAdd] at w
    by_cases c : a.isEmpty = false ∧ b.isEmpty = false ∧ a.length + b.length ≤ 100000
    · rw [if_pos c] at w
      obtain ⟨p, xs, rfl, hp, ax⟩ := hx.tuple
      obtain ⟨q, ys, rfl, hq, ay⟩ := hy.tuple
      have ne : xs ≠ [] := fun z => by
        subst z
        cases ax
        exact absurd c.1 (by decide)
      refine .inr (.inr ⟨p, q, xs, ys, rfl, rfl, hp, hq, ne, by rw [DqAll.length ax, DqAll.length ay]; exact line_of c.2.2, fun z => ?_, fun z r hr => w _ _ (same_upd hr) (.tup ?_ (DqAll.mono (hide_same (same_upd hr)) (DqAll.append ax ay)))⟩)
      · subst z
        cases ay
        exact absurd c.2.1 (by decide)
      · rw [hide_at fun z => al r z hr]; exact upd_same
    · rw [if_neg c] at w; exact w.elim
theorem flat_rep {α β : Type} {R : List α → List β → Prop} (h0 : R [] []) (ha : ∀ {a b c d}, R a b → R c d → R (a ++ c) (b ++ d)) {xs : List α} {ys : List β} (h : R xs ys) : ∀ n : Nat, R (List.replicate n xs).flatten (List.replicate n ys).flatten
  | 0 => h0
  | n + 1 => by rw [List.replicate_succ, List.replicate_succ, List.flatten_cons, List.flatten_cons]; exact ha h (flat_rep h0 ha h n)
theorem foldl_cps (c : Array Nat) : ∀ (k : Nat) (acc : Array Nat), (List.replicate k c).foldl (· ++ ·) acc = (acc.toList ++ (List.replicate k c.toList).flatten).toArray
  | 0, acc => by simp
  | k + 1, acc => by
    rw [List.replicate_succ, List.foldl_cons, foldl_cps c k, List.replicate_succ, List.flatten_cons]
    simp
theorem mul_strI : OpR X (binaryOp .Mult) (fun x y H Q => ∃ a n, x = .str a ∧ y = .int n ∧ (0 ≤ n ∧ n ≤ 1000 ∧ a.length ≤ 1000) ∧ Q (.str (strRep a n)) H) := by
  intro pins s σ H x y v u Q I rx ry h
  obtain ⟨a, n, rfl, rfl, ⟨h0, h1, h2⟩, q⟩ := h
  obtain ⟨t, rfl⟩ := rx
  obtain ⟨t', rfl⟩ := ry
  have tl : Builtin.Str.tooLong (a.length * n.toNat) = false := by
    have e1 : n.toNat ≤ 1000 := by omega
    have e2 : a.length * n.toNat ≤ 1000 * 1000 := Nat.mul_le_mul h2 e1
    unfold Builtin.Str.tooLong
    exact decide_eq_false (by rw [sizeLine_eq]; omega)
  refine PySem.P.mul_str ?_ (fun _ _ => ?_) (fun _ _ => tl) ?_
  · rw [decide_eq_false (by omega), decide_eq_false (by omega)]; rfl
  · rename_i hn _
    have e3 : (1000 : Int) ≤ (2 ^ 63 - 1) / n := (Int.le_ediv_iff_mul_le (by omega)).mpr (by omega)
    omega
  · by_cases c1 : n < 1
    · rw [if_pos c1]
      have n0 : n = 0 := by omega
      subst n0
      have e : strRep a 0 = Str.empty := by unfold strRep; rfl
      rw [e] at q
      exact ⟨by decide, .str _, H, I.tok _, ⟨_, rfl⟩, q⟩
    · rw [if_neg c1]
      by_cases c2 : (n == 1 || a.length == 0) = true
      · rw [if_pos c2]
        have e : strRep a n = a := by
          unfold strRep
          rcases Bool.or_eq_true_iff.mp c2 with c | c
          · have n1 : n = 1 := by simpa using c
            subst n1
            simp
          · have l0 : a.cps = #[] := by
              have : a.cps.size = 0 := of_decide_eq_true (by simpa [Str.length] using c)
              exact Array.eq_empty_of_size_eq_zero this
            rw [l0]
            have f : ∀ k : Nat, (List.replicate k ([] : List Nat)).flatten = [] := fun k => by simp
            have g : (⟨#[]⟩ : Str) = a := by cases a; simp at l0; rw [l0]
            simpa [f] using g
        rw [e] at q
        exact ⟨.str _, H, I, ⟨_, rfl⟩, q⟩
      · rw [if_neg c2]
        have e : (⟨(List.replicate n.toNat a.cps).foldl (· ++ ·) #[]⟩ : Str) = strRep a n := by
          unfold strRep
          rw [foldl_cps]
          simp
        rw [e]
        refine ⟨?_, .str _, H, I.tok _, ⟨_, rfl⟩, q⟩
        have : (strRep a n).length = a.length * n.toNat := by
          unfold strRep Str.length
          simp [Nat.mul_comm]
        rw [this]; exact Nat.le_of_not_lt (of_decide_eq_false tl)
theorem opd_mul : OpD X (binaryOp .Mult) dMul := by
  refine ⟨_, (op_mulX.or mul_strI).or op_rep, fun W O H x y d e Q al hx hy w => ?_⟩
  cases d <;> cases e <;> first | exact w.elim | skip
  · rename_i i j
    simp only [dMul] at w
    by_cases c : Builtin.Int.intBits i + Builtin.Int.intBits j ≤ 134217728
    · rw [if_pos c] at w
      exact .inl (.inl ⟨i, j, hx.int, hy.int, by unfold CMulX; omega, w.ok (.int _)⟩)
    · rw [if_neg c] at w; exact w.elim
  · rename_i a n
    simp only [dMul] at w
    by_cases c : 0 ≤ n ∧ n ≤ 1000 ∧ a.length ≤ 1000
    · rw [if_pos c] at w
      exact .inl (.inr ⟨a, n, hx.str, hy.int, c, w.ok (.str _)⟩)
    · rw [if_neg c] at w; exact w.elim
  · rename_i a n
    simp only [dMul] at w
    by_cases c : 0 ≤ n ∧ a.length * n.toNat ≤ 100000 ∧ n ≤ 100000
    · rw [if_pos c] at w
      obtain ⟨p, xs, rfl, hp, ax⟩ := hx.list
      refine .inr ⟨p, n, xs, rfl, hy.int, hp, by omega, by omega, by rw [DqAll.length ax]; exact line_of c.2.1, fun r hr => w _ _ (same_upd hr) (.lst ?_ (DqAll.mono (hide_same (same_upd hr)) (flat_rep (R := DqAll X.T (hide O H)) .nil DqAll.append ax _)))⟩
      rw [hide_at fun z => al r z hr]; exact upd_same
    · rw [if_neg c] at w; exact w.elim
theorem mapM_strs : ∀ {ds : List D} {ys : List Str}, ds.mapM (fun z => match z with | .str y => some y | _ => none) = some ys → ds = ys.map .str
  | [], ys, h => by simp at h; subst h; rfl
  | d :: ds, ys, h => by
    rw [List.mapM_cons] at h
    cases d with
    | str y =>
      simp only [Option.bind_eq_bind, Option.bind_some] at h
      cases q : ds.mapM (fun z => match z with | .str y => some y | _ => none) with
      | none => rw [q] at h; cases h
      | some zs =>
        rw [q] at h
        simp at h
        subst h
        rw [mapM_strs q]; rfl
    | _ => simp at h
theorem inV_strs (x : Str) (ys : List Str) : inV (.str x) (ys.map V.str) = ys.any fun y => decide (y = x) := by
  unfold inV
  rw [List.any_map]
  congr 1
theorem opd_in (hu : X.A.units + 65 < cLine) : OpD X (compareOp .In) dIn := by
  refine ⟨_, (op_inD hu).or (op_in_str.or op_in_seq), fun W O H x y d e Q al hx hy w => ?_⟩
  unfold dIn at w
  split at w
  · exact .inr (.inl ⟨_, _, hx.str, hy.str, w.ok (.bl _)⟩)
  · rename_i ds
    by_cases c : SeqAt.shaped d = true ∧ SeqAt.shaped (.list ds) = true
    · rw [if_pos c] at w
      exact .inl ⟨d, ds, hx.dp (SeqAt.canLay_of_shaped c.1), hy.dp (SeqAt.canLay_of_shaped c.2), c.1, c.2, w.ok (.bl _)⟩
    · rw [if_neg c] at w; exact w.elim
  · rename_i x ds
    split at w
    · rename_i ys hm
      obtain ⟨p, xs, rfl, hp, ax⟩ := hy.tuple
      rw [mapM_strs hm] at ax
      rw [DqAll.strs ax] at hp
      refine .inr (.inr ⟨p, _, rfl, .inr hp, by rw [hx.str]; rfl, by rw [List.all_map]; exact List.all_eq_true.mpr fun _ _ => rfl, ?_⟩)
      rw [hx.str, inV_strs]
      exact w.ok (.bl _)
    · exact w.elim
  · exact w.elim
theorem opd_notIn (hu : X.A.units + 65 < cLine) : OpD X (compareOp .NotIn) dNotIn := by
  refine ⟨_, (op_notInD hu).or (op_notin_str.or op_notIn_seq), fun W O H x y d e Q al hx hy w => ?_⟩
  unfold dNotIn dIn at w
  split at w
  · exact .inr (.inl ⟨_, _, hx.str, hy.str, w.ok (.bl _)⟩)
  · rename_i ds
    by_cases c : SeqAt.shaped d = true ∧ SeqAt.shaped (.list ds) = true
    · rw [if_pos c] at w
      exact .inl ⟨d, ds, hx.dp (SeqAt.canLay_of_shaped c.1), hy.dp (SeqAt.canLay_of_shaped c.2), c.1, c.2, w.ok (.bl _)⟩
    · rw [if_neg c] at w; exact w.elim
  · rename_i x ds
    split at w
    · rename_i ys hm
      obtain ⟨p, xs, rfl, hp, ax⟩ := hy.tuple
      rw [mapM_strs hm] at ax
      rw [DqAll.strs ax] at hp
      refine .inr (.inr ⟨p, _, rfl, .inr hp, by rw [hx.str]; rfl, by rw [List.all_map]; exact List.all_eq_true.mpr fun _ _ => rfl, ?_⟩)
      rw [hx.str, inV_strs]
      exact w.ok (.bl _)
    · exact w.elim
  · exact w.elim
end
end FL
end
section
/-! FL, part D: items, slices, built-ins by name, methods. -/
namespace FL
open PySem L2

section
variable {X : Cx} {W : L2.WX} {M : List Md} {e a b c : Expr} {F F1 F2 F3 : List D → Rs D} {es : List Expr} {A : List D → Rs (List D)} {pos : Pos}
/-! ### signs -/
def fNeg (F : List D → Rs D) : List D → Rs D := fun ρ => (F ρ).bind fun d => match d with
  | .int i => .ok (.int (-i))
  | _ => .no
theorem de_neg (h : DB X W M a F) : DE X W M (.UnaryOp .USub a pos) (fNeg F) := by
  obtain ⟨t, p, q⟩ := h
  refine ⟨_, pe_un un_neg p, fun G H0 O0 O H σ ρ Q I w => q G H0 O0 O H σ ρ _ I (Wnt.bind w fun d H1 v s1 hd w1 => ?_)⟩
  cases d with
  | int i => exact ⟨i, hd.int, w1.ok (.int _)⟩
  | _ => exact w1.elim

/-! ### items -/
def getAt (ds : List D) (i : Int) : Rs D := match atI ds i with
  | some d => .ok d
  | none => .no
def dIx : D → D → Rs D
  | .list ds, .int i => getAt ds i
  | .tuple ds, .int i => getAt ds i
  | .str z, .int i => if z.length ≤ 1000000 then match atI z.cps.toList i with
    | some c => .ok (.str ⟨#[c]⟩)
    | none => .no
    else .no
  | .dict ((.none, .list ds) :: _), .int i => getAt ds i
  | _, _ => .no
theorem atI_dq {K : Tx} {H : Hp} {xs : List V} {ds : List D} (h : DqAll K H xs ds) {i : Int} {d : D} (e : atI ds i = some d) : ∃ v, atI xs i = some v ∧ Dq K H v d := by
  unfold atI at e ⊢
  rw [DqAll.length h]
  cases q : ixN ds.length i with
  | none => rw [q] at e; cases e
  | some j =>
    rw [q] at e
    exact DqAll.get h e
theorem opd_ix : ∃ r : R2, IxR X r ∧ ∀ (W : D → Hp → Prop) (O : Addr → Prop) (H : Hp) (x y : V) (d e : D) (Q : VK), Bp X.T O H x d → Bp X.T O H y e → Wnt W (fun H' v z => Dq X.T (hide O H') v z) H (dIx d e) Q → r x y H Q := by
  refine ⟨_, ix_seq, fun W O H x y d e Q hx hy w => ?_⟩
  unfold dIx at w
  split at w
  · rename_i ds i
    obtain ⟨p, xs, rfl, hp, ax⟩ := hx.list
    unfold getAt at w
    split at w
    · rename_i d hd
      obtain ⟨v, hv, q⟩ := atI_dq ax hd
      exact .inl ⟨p, xs, i, v, rfl, hy.int, SqL.of hp, hv, w.ok q⟩
    · exact w.elim
  · rename_i ds i
    obtain ⟨p, xs, rfl, hp, ax⟩ := hx.tuple
    unfold getAt at w
    split at w
    · rename_i d hd
      obtain ⟨v, hv, q⟩ := atI_dq ax hd
      exact .inr (.inl ⟨p, xs, i, v, rfl, hy.int, hp, hv, w.ok q⟩)
    · exact w.elim
  · rename_i z i
    split at w
    · rename_i hz
      split at w
      · rename_i c hc
        exact .inr (.inr ⟨z, i, c, hx.str, hy.int, Nat.le_trans hz (by decide), hc, w.ok (.str _)⟩)
      · exact w.elim
    · exact w.elim
  · rename_i ds r i
    unfold getAt at w
    split at w
    · rename_i d hd
      -- a script
      have hs : ∃ ns, scrD ns = .dict ((.none, .list ds) :: r) ∧ ∃ p, x = .ref p ∧ SqL X.T.K H p (ns.map V.int) := by
        rcases hx with hx | ⟨p, e0, ⟨vs, es, e, q, a⟩ | ⟨kvs, zs, e, _, k⟩ | ⟨ss, e, h⟩⟩
        · generalize hd : (.dict ((.none, .list ds) :: r) : D) = d at hx
          cases hx with
          | scr hs => exact ⟨_, rfl, _, rfl, Same.seq hide_sub hs⟩
          | _ => cases hd
        · cases e
        · injection e with e
          generalize zs = zz at e k
          cases k with
          | nil => cases e
          | @cons k v d kvs ds _ _ =>
            injection e with e _
            injection e with e _
            cases k <;> cases e
        · cases e
      obtain ⟨ns, en, p, rfl, hp⟩ := hs
      unfold scrD at en
      injection en with en
      injection en with en _
      injection en with _ en
      injection en with en
      subst en
      have hv : ∃ n, atI ns i = some n ∧ d = .int n := by
        unfold atI at hd ⊢
        rw [List.length_map] at hd
        cases q : ixN ns.length i with
        | none => rw [q] at hd; cases hd
        | some j =>
          rw [q] at hd
          have hd' : (ns.map (fun i => (.int i : D)))[j]? = some d := hd
          rw [List.getElem?_map] at hd'
          cases z : ns[j]? with
          | none => rw [z] at hd'; cases hd'
          | some n => rw [z] at hd'; cases hd'; exact ⟨n, z, rfl⟩
      obtain ⟨n, hn, rfl⟩ := hv
      have hv2 : atI (ns.map V.int) i = some (.int n) := by
        unfold atI at hn ⊢
        rw [List.length_map]
        cases q : ixN ns.length i with
        | none => rw [q] at hn; cases hn
        | some j =>
          rw [q] at hn
          have hn' : ns[j]? = some n := hn
          show (ns.map V.int)[j]? = _
          rw [List.getElem?_map, hn']; rfl
      exact .inl ⟨p, _, i, .int n, rfl, hy.int, hp, hv2, w.ok (.int n)⟩
    · exact w.elim
  · exact w.elim
theorem de_ix (ha : DB X W M a F1) (hb : DB X W M b F2) (hs : PlainIx b := by intro _ _; rfl) : DE X W M (.Subscript a b pos) (fB dIx F1 F2) := by
  obtain ⟨r, hr, q⟩ := opd_ix (X := X)
  obtain ⟨ta, pa, qa⟩ := ha
  obtain ⟨tb, pb, qb⟩ := hb
  refine ⟨_, pe_ix hr pa pb hs, fun G H0 O0 O H σ ρ Q I w => qa G H0 O0 O H σ ρ _ I (Wnt.bind w fun d H1 x s1 hd w1 => qb G H0 O0 O H1 σ ρ _ (I.mono s1) (Wnt.bind w1 fun e H2 y s2 he w2 => ?_))⟩
  exact q _ O H2 x y d e Q (hd.mono s2) he w2

/-! ### slices -/
def DPo (X : Cx) (W : L2.WX) (M : List Md) (e : Option Expr) (F : List D → Rs (Option Int)) : Prop :=
  ∃ t : TO, PO X e t ∧ ∀ (G H0 : Hp) (O0 : Out) (O : Addr → Prop) (H : Hp) (σ : L2.St) (ρ : List D) (Q : Option Int → Hp → Prop), EOk X.T G H0 O0 M O H σ ρ → Wnt (WS W X.T O σ) (fun _ (b : Option Int) (c : Option Int) => b = c) H (F ρ) Q → t σ H Q
def fNoP : List D → Rs (Option Int) := fun _ => .ok none
def fP (F : List D → Rs D) : List D → Rs (Option Int) := fun ρ => (F ρ).bind fun d => match d with
  | .int i => .ok (some i)
  | _ => .no
theorem dp_none : DPo X W M none fNoP := ⟨_, po_none, fun _ _ _ _ _ _ _ _ _ w => w.ok rfl⟩
theorem dp_some (h : DB X W M e F) : DPo X W M (some e) (fP F) := by
  obtain ⟨t, p, q⟩ := h
  refine ⟨_, po_some p, fun G H0 O0 O H σ ρ Q I w => q G H0 O0 O H σ ρ _ I (Wnt.bind w fun d H1 v s1 hd w1 => ?_)⟩
  cases d with
  | int i => exact ⟨i, hd.int, w1.ok rfl⟩
  | _ => exact w1.elim
def cutD (xs : List D) (lo hi : Option Int) : List D := (xs.drop (HT.sIx xs.length 0 lo)).take (HT.sIx xs.length xs.length hi - HT.sIx xs.length 0 lo)
/-- a slice of a list, of the script: a new list -/
def dSlL (d : D) (lo hi : Option Int) : Rs D := match d with
  | .list ds => .ok (.list (cutD ds lo hi))
  | .dict ((.none, .list ds) :: _) => .ok (.list (cutD ds lo hi))
  | _ => .no
/-- .. of a text, of a tuple -/
def dSlT (d : D) (lo hi : Option Int) : Rs D := match d with
  | .str z => if z.length ≤ 1000000 then .ok (.str (cutS z lo hi)) else .no
  | .tuple ds => if HT.sIx ds.length 0 lo = 0 ∧ HT.sIx ds.length ds.length hi = ds.length then .no else .ok (.tuple (cutD ds lo hi))
  | _ => .no
def fSl (f : D → Option Int → Option Int → Rs D) (F : List D → Rs D) (L U : List D → Rs (Option Int)) : List D → Rs D := fun ρ => (F ρ).bind fun d => (L ρ).bind fun l => (U ρ).bind fun u => f d l u
theorem cut_dq {K : Tx} {H : Hp} {xs : List V} {ds : List D} (h : DqAll K H xs ds) (lo hi : Option Int) : DqAll K H (cutV xs lo hi) (cutD ds lo hi) := by
  unfold cutV cutD
  rw [DqAll.length h]
  exact DqAll.take _ (DqAll.drop _ h)
theorem scr_of {K : Tx} {O : Addr → Prop} {H : Hp} {x : V} {ds : List D} {r : List (D × D)} (hx : Bp K O H x (.dict ((.none, .list ds) :: r))) : ∃ ns : List Int, ds = ns.map .int ∧ ∃ p, x = .ref p ∧ SqL K.K H p (ns.map V.int) := by
  rcases hx with hx | ⟨p, e0, ⟨vs, es, e, q, a⟩ | ⟨kvs, zs, e, _, k⟩ | ⟨ss, e, h⟩⟩
  · generalize hd : (.dict ((.none, .list ds) :: r) : D) = d at hx
    cases hx with
    | @scr a ns hs =>
      unfold scrD at hd
      injection hd with en
      injection en with en _
      injection en with _ en
      injection en with en
      exact ⟨ns, en, _, rfl, Same.seq hide_sub hs⟩
    | _ => cases hd
  · cases e
  · injection e with e
    generalize zs = zz at e k
    cases k with
    | nil => cases e
    | @cons k v d kvs ds _ _ =>
      injection e with e _
      injection e with e _
      cases k <;> cases e
  · cases e
theorem do_slice {lo hi : Option Expr} {L U : List D → Rs (Option Int)} {p2 : Pos} (h : DB X W M e F) (hl : DPo X W M lo L) (hu : DPo X W M hi U) : DO X W M (.Subscript e (.Slice lo hi none p2) pos) (fSl dSlL F L U) := by
  obtain ⟨t, p, q⟩ := h
  obtain ⟨tl, pl, ql⟩ := hl
  obtain ⟨tu, pu, qu⟩ := hu
  refine ⟨_, pe_slice sl_list p pl pu, fun G H0 O0 O H σ ρ Q I w => q G H0 O0 O H σ ρ _ I (Wnt.bind w fun d H1 v s1 hd w1 => ql G H0 O0 O H1 σ ρ _ (I.mono s1) (Wnt.bind w1 fun l H2 l' s2 e2 w2 => qu G H0 O0 O H2 σ ρ _ ((I.mono s1).mono s2) (Wnt.bind w2 fun u H3 u' s3 e3 w3 => ?_)))⟩
  subst e2 e3
  have hd3 := (hd.mono s2).mono s3
  have s13 := (s1.trans s2).trans s3
  unfold dSlL at w3
  split at w3
  · obtain ⟨p, xs, rfl, hp, ax⟩ := hd3.list
    exact ⟨p, xs, rfl, SqL.of hp, fun r hr => w3 _ _ (same_upd hr) (ow_mk s13 hr (cut_dq ax _ _))⟩
  · obtain ⟨ns, rfl, p, rfl, hp⟩ := scr_of hd3
    exact ⟨p, _, rfl, hp, fun r hr => w3 _ _ (same_upd hr) (ow_mk s13 hr (cut_dq DqAll.of_ints _ _))⟩
  · exact w3.elim
theorem de_sliceT {lo hi : Option Expr} {L U : List D → Rs (Option Int)} {p2 : Pos} (h : DB X W M e F) (hl : DPo X W M lo L) (hu : DPo X W M hi U) : DE X W M (.Subscript e (.Slice lo hi none p2) pos) (fSl dSlT F L U) := by
  obtain ⟨t, p, q⟩ := h
  obtain ⟨tl, pl, ql⟩ := hl
  obtain ⟨tu, pu, qu⟩ := hu
  refine ⟨_, pe_slice (sl_str.or sl_tup) p pl pu, fun G H0 O0 O H σ ρ Q I w => q G H0 O0 O H σ ρ _ I (Wnt.bind w fun d H1 v s1 hd w1 => ql G H0 O0 O H1 σ ρ _ (I.mono s1) (Wnt.bind w1 fun l H2 l' s2 e2 w2 => qu G H0 O0 O H2 σ ρ _ ((I.mono s1).mono s2) (Wnt.bind w2 fun u H3 u' s3 e3 w3 => ?_)))⟩
  subst e2 e3
  have hd3 := (hd.mono s2).mono s3
  unfold dSlT at w3
  split at w3
  · rename_i z
    split at w3
    · rename_i hz
      exact .inl ⟨z, hd3.str, Nat.le_trans hz (by decide), w3.ok (.str _)⟩
    · exact w3.elim
  · rename_i ds
    split at w3
    · exact w3.elim
    · rename_i hn
      obtain ⟨p, xs, rfl, hp, ax⟩ := hd3.tuple
      refine .inr ⟨p, xs, rfl, hp, by rw [DqAll.length ax]; exact hn, fun r hr => w3 _ _ (same_upd hr) (.tup ?_ (DqAll.mono (hide_same (same_upd hr)) (cut_dq ax _ _)))⟩
      rw [hide_at ((((I.mono s1).mono s2).mono s3).ne hr)]; exact upd_same
  · exact w3.elim

/-! ### built-ins by name -/
def CallJ (Rp : Tx → Rep) (X : Cx) (f : Value) (g : List D → Rs D) : Prop :=
  ∃ r : List V → Hp → VK → Prop, CallR X f r ∧ ∀ (W : D → Hp → Prop) (O : Addr → Prop) (H : Hp) (vs : List V) (ds : List D) (Q : VK), (∀ p, O p → H p ≠ none) → BpAll X.T O H vs ds → Wnt W (Rp X.T O H) H (g ds) Q → r vs H Q
def fCB (g : List D → Rs D) (A : List D → Rs (List D)) : List D → Rs D := fun ρ => (A ρ).bind g
theorem ow_later {K : Tx} {O : Addr → Prop} {H H1 H' : Hp} {v : V} {d : D} (s : Same H H1) (h : owR K O H1 H' v d) : owR K O H H' v d := by
  obtain ⟨p, vs, ds, e1, e2, hp, r⟩ := h
  exact ⟨p, vs, ds, e1, e2, s.free hp, r⟩
/-- the result's kind does not hang on where one began -/
def Later (Rp : Tx → Rep) : Prop := ∀ (K : Tx) (O : Addr → Prop) (H H1 H' : Hp) (v : V) (d : D), Same H H1 → Rp K O H1 H' v d → Rp K O H H' v d
theorem later_sh : Later shR := fun _ _ _ _ _ _ _ _ h => h
theorem later_ow : Later owR := fun _ _ _ _ _ _ _ s h => ow_later s h
theorem Wnt.later {Rp : Tx → Rep} (hR : Later Rp) {K : Tx} {W : D → Hp → Prop} {O : Addr → Prop} {H H1 : Hp} (s : Same H H1) : ∀ {r : Rs D} {Q : VK}, Wnt W (Rp K O H) H1 r Q → Wnt W (Rp K O H1) H1 r Q
  | .ok _, _, h => fun H' v s' q => h H' v s' (hR K O H H1 H' v _ s q)
  | .er _, _, h => h
  | .no, _, h => h
theorem dj_callB {Rp : Tx → Rep} (hR : Later Rp) {x : Str} {p : Pos} {id : String} {g : List D → Rs D} (hc : CallJ Rp X (.builtin id) g) (hg : Gl X x) (hm : X.mg x = none) (hv : bootBuiltins x = some (.builtin id)) (ha : DAb X W M (e :: es) A) (hn : x ≠ "__name__" := by decide) (hdb : (x == ("__debug__" : Str)) = false := by decide)
    (he : starEach (e :: es) X.env = (false, eval e X.env) :: starEach es X.env := by rfl) (hpl : (backTo pos (starEach es X.env)).any (·.1) = false := by rfl) : EJ Rp X W M (.Call (.Name x p) (e :: es) [] pos) (fCB g A) := by
  obtain ⟨r, hr, q⟩ := hc
  obtain ⟨t, pt, qt⟩ := ha
  refine ⟨_, pe_callB hr hg hm hv pt hn hdb he hpl, fun G H0 O0 O H σ ρ Q I w => qt G H0 O0 O H σ ρ _ I (Wnt.bind w fun ds H1 vs s1 hd w1 => ?_)⟩
  exact q _ O H1 vs ds Q (I.mono s1).alive hd (w1.later hR s1)
theorem dj_callTy {Rp : Tx → Rep} (hR : Later Rp) {x : Str} {p : Pos} {T : String} {g : List D → Rs D} (hc : CallJ Rp X (.type T) g) (hg : Gl X x) (hm : X.mg x = none) (hv : bootBuiltins x = some (.type T)) (ha : DAb X W M (e :: es) A) (hn : x ≠ "__name__" := by decide) (hdb : (x == ("__debug__" : Str)) = false := by decide)
    (he : starEach (e :: es) X.env = (false, eval e X.env) :: starEach es X.env := by rfl) (hpl : (backTo pos (starEach es X.env)).any (·.1) = false := by rfl) : EJ Rp X W M (.Call (.Name x p) (e :: es) [] pos) (fCB g A) := by
  obtain ⟨r, hr, q⟩ := hc
  obtain ⟨t, pt, qt⟩ := ha
  refine ⟨_, pe_callTy hr hg hm hv pt hn hdb he hpl, fun G H0 O0 O H σ ρ Q I w => qt G H0 O0 O H σ ρ _ I (Wnt.bind w fun ds H1 vs s1 hd w1 => ?_)⟩
  exact q _ O H1 vs ds Q (I.mono s1).alive hd (w1.later hR s1)
theorem bpAll1 {K : Tx} {O : Addr → Prop} {H : Hp} {vs : List V} {d : D} (h : BpAll K O H vs [d]) : ∃ v, vs = [v] ∧ Bp K O H v d := by
  cases h with
  | cons r t => cases t; exact ⟨_, rfl, r⟩
theorem bpAll2 {K : Tx} {O : Addr → Prop} {H : Hp} {vs : List V} {d d2 : D} (h : BpAll K O H vs [d, d2]) : ∃ v v2, vs = [v, v2] ∧ Bp K O H v d ∧ Bp K O H v2 d2 := by
  cases h with
  | cons r t =>
    cases t with
    | cons r2 t => cases t; exact ⟨_, _, rfl, r, r2⟩
def dLen : List D → Rs D
  | [.list ds] => .ok (.int ds.length)
  | [.tuple ds] => .ok (.int ds.length)
  | [.str z] => if z.length ≤ 1000000 then .ok (.int z.length) else .no
  | [.dict ((.none, .list ds) :: _)] => .ok (.int ds.length)
  | [.dict []] => .ok (.int 0)
  | [.dict ((.int i, d) :: r)] => .ok (.int ((r.length : Nat) + 1 : Nat))
  | [.dict ((.str i, d) :: r)] => .ok (.int ((r.length : Nat) + 1 : Nat))
  | _ => .no
theorem call_lenR : CallR X (.builtin "len") (fun xs H Q => ∃ a kvs, xs = [V.ref a] ∧ Rd H a (.dK kvs) ∧ Q (.int kvs.length) H) := by
  intro pins s σ H xs us Q I r h
  obtain ⟨a, kvs, rfl, ha, q⟩ := h
  obtain ⟨u, rfl, ru⟩ := vals1 r
  cases ru
  exact d_len I ha fun t s' I' => ⟨.int kvs.length, H, I', ⟨t, rfl⟩, q⟩
theorem cj_len : CallJ shR X (.builtin "len") dLen := by
  refine ⟨_, (call_len_seq.or call_len_str).or call_lenR, fun W O H vs ds Q al h w => ?_⟩
  unfold dLen at w
  split at w
  · obtain ⟨v, rfl, hv⟩ := bpAll1 h
    obtain ⟨p, xs, rfl, hp, ax⟩ := hv.list
    rw [← DqAll.length ax] at w
    exact .inl (.inl ⟨p, xs, rfl, .inl (SqL.of hp), w.ok (.int _)⟩)
  · obtain ⟨v, rfl, hv⟩ := bpAll1 h
    obtain ⟨p, xs, rfl, hp, ax⟩ := hv.tuple
    rw [← DqAll.length ax] at w
    exact .inl (.inl ⟨p, xs, rfl, .inr hp, w.ok (.int _)⟩)
  · rename_i z
    obtain ⟨v, rfl, hv⟩ := bpAll1 h
    split at w
    · rename_i hz
      exact .inl (.inr ⟨z, by rw [hv.str], Nat.le_trans hz (by decide), w.ok (.int _)⟩)
    · exact w.elim
  · obtain ⟨v, rfl, hv⟩ := bpAll1 h
    obtain ⟨ns, rfl, p, rfl, hp⟩ := scr_of hv
    rw [List.length_map] at w
    refine .inl (.inl ⟨p, _, rfl, .inl hp, ?_⟩)
    rw [List.length_map]
    exact w.ok (.int _)
  · obtain ⟨v, rfl, hv⟩ := bpAll1 h
    obtain ⟨p, kvs, rfl, hp, k⟩ := hv.dict rfl
    refine .inr ⟨p, kvs, rfl, hp, ?_⟩
    rw [DkAll.length k]
    exact w.ok (.int _)
  · obtain ⟨v, rfl, hv⟩ := bpAll1 h
    obtain ⟨p, kvs, rfl, hp, k⟩ := hv.dict rfl
    refine .inr ⟨p, kvs, rfl, hp, ?_⟩
    rw [DkAll.length k]
    exact w.ok (.int _)
  · obtain ⟨v, rfl, hv⟩ := bpAll1 h
    obtain ⟨p, kvs, rfl, hp, k⟩ := hv.dict rfl
    refine .inr ⟨p, kvs, rfl, hp, ?_⟩
    rw [DkAll.length k]
    exact w.ok (.int _)
  · exact w.elim
def dInt : List D → Rs D
  | [.int i] => .ok (.int i)
  | [.bool b] => .ok (.int (if b then 1 else 0))
  | [.str x] => match PySem.intText? x with
    | some n => if x.length ≤ 640 then .ok (.int n) else .no
    | none => .no
  | _ => .no
theorem cj_int : CallJ shR X (.type "int") dInt := by
  refine ⟨_, call_int1.or call_int_str, fun W O H vs ds Q al h w => ?_⟩
  unfold dInt at w
  split at w
  · obtain ⟨v, rfl, hv⟩ := bpAll1 h
    exact .inl (.inl ⟨_, by rw [hv.int], w.ok (.int _)⟩)
  · obtain ⟨v, rfl, hv⟩ := bpAll1 h
    exact .inl (.inr ⟨_, by rw [hv.bl], w.ok (.int _)⟩)
  · rename_i x
    obtain ⟨v, rfl, hv⟩ := bpAll1 h
    split at w
    · rename_i n hn
      split at w
      · rename_i hl
        exact .inr ⟨x, n, by rw [hv.str], hn, hl, w.ok (.int _)⟩
      · exact w.elim
    · exact w.elim
  · exact w.elim
def dStr : List D → Rs D
  | [.int i] => if i.natAbs.log2 < 1920 then .ok (.str (toString i)) else .no
  | _ => .no
theorem cj_str : CallJ shR X (.type "str") dStr := by
  refine ⟨_, call_str_int, fun W O H vs ds Q al h w => ?_⟩
  unfold dStr at w
  split at w
  · rename_i i
    obtain ⟨v, rfl, hv⟩ := bpAll1 h
    split at w
    · rename_i hl
      exact ⟨i, by rw [hv.int], hl, w.ok (.str _)⟩
    · exact w.elim
  · exact w.elim
def imax (a b : Int) : Int := if b > a then b else a
def imin (a b : Int) : Int := if b < a then b else a
def dMax : List D → Rs D
  | [.int a, .int b] => .ok (.int (imax a b))
  | [.list (.int a :: ds)] => match intsOf ds with
    | some ns => .ok (.int (ns.foldl imax a))
    | none => .no
  | _ => .no
def dMin : List D → Rs D
  | [.int a, .int b] => .ok (.int (imin a b))
  | [.list (.int a :: ds)] => match intsOf ds with
    | some ns => .ok (.int (ns.foldl imin a))
    | none => .no
  | _ => .no
theorem foldl_imax : ∀ (ns : List Int) (a : Int), ns.foldl imax a ∈ a :: ns ∧ ∀ y ∈ a :: ns, y ≤ ns.foldl imax a
  | [], a => ⟨List.mem_singleton.mpr rfl, fun y h => by rw [List.mem_singleton.mp h]; exact Int.le_refl _⟩
  | n :: ns, a => by
    obtain ⟨h1, h2⟩ := foldl_imax ns (imax a n)
    rw [List.foldl_cons]
    have ha : a ≤ imax a n := by unfold imax; split <;> omega
    have hn : n ≤ imax a n := by unfold imax; split <;> omega
    have hm : imax a n = a ∨ imax a n = n := by unfold imax; split <;> simp
    refine ⟨?_, fun y h => ?_⟩
    · rcases List.mem_cons.mp h1 with h | h
      · rw [h]; rcases hm with z | z <;> rw [z] <;> simp
      · exact List.mem_cons_of_mem _ (List.mem_cons_of_mem _ h)
    · have h3 := h2 (imax a n) List.mem_cons_self
      rcases List.mem_cons.mp h with rfl | h
      · omega
      · rcases List.mem_cons.mp h with rfl | h
        · omega
        · exact h2 y (List.mem_cons_of_mem _ h)
theorem foldl_imin : ∀ (ns : List Int) (a : Int), ns.foldl imin a ∈ a :: ns ∧ ∀ y ∈ a :: ns, ns.foldl imin a ≤ y
  | [], a => ⟨List.mem_singleton.mpr rfl, fun y h => by rw [List.mem_singleton.mp h]; exact Int.le_refl _⟩
  | n :: ns, a => by
    obtain ⟨h1, h2⟩ := foldl_imin ns (imin a n)
    rw [List.foldl_cons]
    have ha : imin a n ≤ a := by unfold imin; split <;> omega
    have hn : imin a n ≤ n := by unfold imin; split <;> omega
    have hm : imin a n = a ∨ imin a n = n := by unfold imin; split <;> simp
    refine ⟨?_, fun y h => ?_⟩
    · rcases List.mem_cons.mp h1 with h | h
      · rw [h]; rcases hm with z | z <;> rw [z] <;> simp
      · exact List.mem_cons_of_mem _ (List.mem_cons_of_mem _ h)
    · have h3 := h2 (imin a n) List.mem_cons_self
      rcases List.mem_cons.mp h with rfl | h
      · omega
      · rcases List.mem_cons.mp h with rfl | h
        · omega
        · exact h2 y (List.mem_cons_of_mem _ h)
theorem cj_max (hc : X.calm = true) : CallJ shR X (.builtin "max") dMax := by
  refine ⟨_, (call_max2 hc).or (cr_max hc), fun W O H vs ds Q al h w => ?_⟩
  unfold dMax at w
  split at w
  · obtain ⟨v, v2, rfl, hv, hv2⟩ := bpAll2 h
    exact .inl ⟨_, _, by rw [hv.int, hv2.int], w.ok (.int _)⟩
  · rename_i a ds
    obtain ⟨v, rfl, hv⟩ := bpAll1 h
    obtain ⟨p, xs, rfl, hp, ax⟩ := hv.list
    split at w
    · rename_i ns hn
      have ax' : DqAll X.T (hide O H) xs ((a :: ns).map .int) := by rw [intsOf_eq hn] at ax; exact ax
      rw [DqAll.ints ax'] at hp
      refine .inr ⟨p, a :: ns, rfl, SqL.of hp, Nat.zero_lt_succ _, fun m h1 h2 => ?_⟩
      obtain ⟨g1, g2⟩ := foldl_imax ns a
      have e : m = ns.foldl imax a := Int.le_antisymm (g2 m h1) (h2 _ g1)
      rw [e]
      exact w.ok (.int _)
    · exact w.elim
  · exact w.elim
theorem cj_min (hc : X.calm = true) : CallJ shR X (.builtin "min") dMin := by
  refine ⟨_, (call_min2 hc).or (cr_min hc), fun W O H vs ds Q al h w => ?_⟩
  unfold dMin at w
  split at w
  · obtain ⟨v, v2, rfl, hv, hv2⟩ := bpAll2 h
    exact .inl ⟨_, _, by rw [hv.int, hv2.int], w.ok (.int _)⟩
  · rename_i a ds
    obtain ⟨v, rfl, hv⟩ := bpAll1 h
    obtain ⟨p, xs, rfl, hp, ax⟩ := hv.list
    split at w
    · rename_i ns hn
      have ax' : DqAll X.T (hide O H) xs ((a :: ns).map .int) := by rw [intsOf_eq hn] at ax; exact ax
      rw [DqAll.ints ax'] at hp
      refine .inr ⟨p, a :: ns, rfl, SqL.of hp, Nat.zero_lt_succ _, fun m h1 h2 => ?_⟩
      obtain ⟨g1, g2⟩ := foldl_imin ns a
      have e : m = ns.foldl imin a := Int.le_antisymm (h2 _ g1) (g2 m h1)
      rw [e]
      exact w.ok (.int _)
    · exact w.elim
  · exact w.elim
def dSum : List D → Rs D
  | [.list ds] => match intsOf ds with
    | some ns => .ok (.int ns.sum)
    | none => .no
  | _ => .no
theorem cj_sum (hc : X.calm = true) : CallJ shR X (.builtin "sum") dSum := by
  refine ⟨_, cr_sum hc, fun W O H vs ds Q al h w => ?_⟩
  unfold dSum at w
  split at w
  · obtain ⟨v, rfl, hv⟩ := bpAll1 h
    obtain ⟨p, xs, rfl, hp, ax⟩ := hv.list
    split at w
    · rename_i ns hn
      rw [intsOf_eq hn] at ax
      rw [DqAll.ints ax] at hp
      exact ⟨p, ns, rfl, SqL.of hp, w.ok (.int _)⟩
    · exact w.elim
  · exact w.elim
def boolsOf : List D → Option (List Bool)
  | [] => some []
  | .bool i :: r => (boolsOf r).map (i :: ·)
  | _ :: _ => none
theorem boolsOf_eq : ∀ {ds : List D} {ns : List Bool}, boolsOf ds = some ns → ds = ns.map .bool
  | [], ns, h => by cases h; rfl
  | .bool i :: r, ns, h => by
    unfold boolsOf at h
    cases q : boolsOf r with
    | none => rw [q] at h; cases h
    | some ms => rw [q] at h; cases h; rw [boolsOf_eq q]; rfl
  | .none :: _, _, h => by cases h
  | .int _ :: _, _, h => by cases h
  | .str _ :: _, _, h => by cases h
  | .list _ :: _, _, h => by cases h
  | .tuple _ :: _, _, h => by cases h
  | .dict _ :: _, _, h => by cases h
def dAll : List D → Rs D
  | [.list ds] => match boolsOf ds with
    | some ns => .ok (.bool (ns.all id))
    | none => .no
  | _ => .no
theorem cj_all (hc : X.calm = true) : CallJ shR X (.builtin "all") dAll := by
  refine ⟨_, cr_all hc, fun W O H vs ds Q al h w => ?_⟩
  unfold dAll at w
  split at w
  · obtain ⟨v, rfl, hv⟩ := bpAll1 h
    obtain ⟨p, xs, rfl, hp, ax⟩ := hv.list
    split at w
    · rename_i ns hn
      rw [boolsOf_eq hn] at ax
      rw [DqAll.bools ax] at hp
      exact ⟨p, ns, rfl, SqL.of hp, w.ok (.bl _)⟩
    · exact w.elim
  · exact w.elim
/-- list(x) of a list, a tuple, the script, a dict's keys: a new list -/
def dList : List D → Rs D
  | [.list ds] => .ok (.list ds)
  | [.tuple ds] => .ok (.list ds)
  | [.dict ((.none, .list ds) :: _)] => .ok (.list ds)
  | [.dict []] => .ok (.list [])
  | [.dict ((.int i, d) :: r)] => .ok (.list (.int i :: r.map (·.1)))
  | [.dict ((.str i, d) :: r)] => .ok (.list (.str i :: r.map (·.1)))
  | _ => .no
theorem dk_keys {K : Tx} {H H1 : Hp} : ∀ {kvs : List (Key × V)} {ds : List (D × D)}, DkAll K H kvs ds → DqAll K H1 (kvs.map fun kv => kV kv.1) (ds.map (·.1))
  | _, _, .nil => .nil
  | _, _, .cons (k := k) _ t => .cons (by cases k; exact .int _; exact .str _) (dk_keys t)
theorem cj_list (hc : X.calm = true) : CallJ owR X (.type "list") dList := by
  refine ⟨_, call_list_of.or (call_listD hc), fun W O H vs ds Q al h w => ?_⟩
  unfold dList at w
  split at w
  · obtain ⟨v, rfl, hv⟩ := bpAll1 h
    obtain ⟨p, xs, rfl, hp, ax⟩ := hv.list
    exact .inl ⟨p, xs, rfl, .inl (SqL.of hp), fun r hr => w _ _ (same_upd hr) (ow_mk (Same.refl H) hr ax)⟩
  · obtain ⟨v, rfl, hv⟩ := bpAll1 h
    obtain ⟨p, xs, rfl, hp, ax⟩ := hv.tuple
    exact .inl ⟨p, xs, rfl, .inr hp, fun r hr => w _ _ (same_upd hr) (ow_mk (Same.refl H) hr ax)⟩
  · obtain ⟨v, rfl, hv⟩ := bpAll1 h
    obtain ⟨ns, rfl, p, rfl, hp⟩ := scr_of hv
    exact .inl ⟨p, _, rfl, .inl hp, fun r hr => w _ _ (same_upd hr) (ow_mk (Same.refl H) hr DqAll.of_ints)⟩
  · obtain ⟨v, rfl, hv⟩ := bpAll1 h
    obtain ⟨p, kvs, rfl, hp, k⟩ := hv.dict rfl
    exact .inr ⟨p, kvs, rfl, hp, fun r hr => w _ _ (same_upd hr) (ow_mk (Same.refl H) hr (dk_keys k))⟩
  · obtain ⟨v, rfl, hv⟩ := bpAll1 h
    obtain ⟨p, kvs, rfl, hp, k⟩ := hv.dict rfl
    exact .inr ⟨p, kvs, rfl, hp, fun r hr => w _ _ (same_upd hr) (ow_mk (Same.refl H) hr (dk_keys k))⟩
  · obtain ⟨v, rfl, hv⟩ := bpAll1 h
    obtain ⟨p, kvs, rfl, hp, k⟩ := hv.dict rfl
    exact .inr ⟨p, kvs, rfl, hp, fun r hr => w _ _ (same_upd hr) (ow_mk (Same.refl H) hr (dk_keys k))⟩
  · exact w.elim
/-- tuple(list): a new tuple -/
def dTuple : List D → Rs D
  | [.list ds] => .ok (.tuple ds)
  | _ => .no
theorem cj_tuple : CallJ shR X (.type "tuple") dTuple := by
  refine ⟨_, call_tuple_of, fun W O H vs ds Q al h w => ?_⟩
  unfold dTuple at w
  split at w
  · obtain ⟨v, rfl, hv⟩ := bpAll1 h
    obtain ⟨p, xs, rfl, hp, ax⟩ := hv.list
    refine ⟨p, xs, rfl, .inl ⟨SqL.of hp, fun r hr => w _ _ (same_upd hr) (.tup ?_ (DqAll.mono (hide_same (same_upd hr)) ax))⟩⟩
    rw [hide_at fun z => al r z hr]; exact upd_same
  · exact w.elim
end
end FL
end
section
/-! FL, part E: sorted, isinstance, methods of texts, comprehensions, calls. -/
namespace FL
open PySem L2

/-! ### sorted -/
def dLeD : D → D → Bool := PySem.W.dataLe false id
open Classical in
noncomputable def dSorted : List D → Rs D
  | [.list ds] => if PyData.canLayAll0 ds = true ∧ PySem.W.AllAlike ds ∧ PySem.W.Sortable ds ∧ (∀ d ∈ ds, d.depth ≤ 60) then .ok (.list (ds.mergeSort dLeD)) else .no
  | _ => .no
theorem eachIs_of {α β : Type} {R : α → β → Prop} : ∀ {as : List α} {bs : List β}, as.length = bs.length → (∀ (i : Nat) (a : α) (b : β), as[i]? = some a → bs[i]? = some b → R a b) → PySem.W.EachIs R as bs
  | [], [], _, _ => .nil
  | a :: as, b :: bs, h, k => .cons (k 0 a b rfl rfl) (eachIs_of (by simpa using h) fun i a b h1 h2 => k (i + 1) a b h1 h2)
  | [], _ :: _, h, _ => by simp at h
  | _ :: _, [], h, _ => by simp at h
theorem eachIs_vals : ∀ {us : List Value} {bs : List (V × D)}, PySem.W.EachIs (fun u b => RelV b.1 u) us bs → Vals (bs.map (·.1)) us
  | _, _, .nil => .nil
  | _, _, .cons r t => .cons r (eachIs_vals t)
theorem dqAll_zip {K : Tx} {H : Hp} : ∀ {vs : List V} {ds : List D}, DqAll K H vs ds → ∀ b ∈ vs.zip ds, Dq K H b.1 b.2
  | _, _, .nil, b, h => by cases h
  | _, _, .cons r t, b, h => by
    rcases List.mem_cons.mp h with rfl | h
    · exact r
    · exact dqAll_zip t b h
theorem dqAll_unzip {K : Tx} {H : Hp} : ∀ {bs : List (V × D)}, (∀ b ∈ bs, Dq K H b.1 b.2) → DqAll K H (bs.map (·.1)) (bs.map (·.2))
  | [], _ => .nil
  | b :: bs, h => .cons (h b List.mem_cons_self) (dqAll_unzip fun c hc => h c (List.mem_cons_of_mem _ hc))
theorem canLay_mem : ∀ {ds : List D}, PyData.canLayAll0 ds = true → ∀ d ∈ ds, d.canLay0 = true
  | _ :: _, h, d, hd => by
    simp only [PyData.canLayAll0, Bool.and_eq_true] at h
    rcases List.mem_cons.mp hd with rfl | hd
    · exact h.1
    · exact canLay_mem h.2 d hd
section
variable {X : Cx}
theorem cj_sorted (hu : X.A.units + 64 < cLine) : CallJ owR X (.builtin "sorted") dSorted := by
  refine ⟨fun vs H Q => ∃ (O : Addr → Prop) (a : Addr) (xs : List V) (ds : List D), vs = [.ref a] ∧ H a = some (.lst xs) ∧ DqAll X.T (hide O H) xs ds ∧
    (PyData.canLayAll0 ds = true ∧ PySem.W.AllAlike ds ∧ PySem.W.Sortable ds ∧ (∀ d ∈ ds, d.depth ≤ 60)) ∧
    ∀ ys p, DqAll X.T (hide O H) ys (ds.mergeSort dLeD) → H p = none → Q (.ref p) (upd H p (.lst ys)), ?_, ?_⟩
  · intro pins s σ H vs us Q I r h
    obtain ⟨O, a, xs, ds, rfl, hs, ha, ⟨c1, c2, c3, c4⟩, q⟩ := h
    obtain ⟨its, rv, hl, hz⟩ := I.list (SqL.of hs)
    rw [Vals.ref1 r]
    have lxd := DqAll.length ha
    have lxi := rv.length
    have hp := DqAll.dp (DqAll.mono hide_sub ha) c1
    have lz : (xs.zip ds).length = xs.length := by rw [List.length_zip, lxd, Nat.min_self]
    have m2 : (xs.zip ds).map (·.2) = ds := by rw [← List.unzip_snd, List.unzip_zip lxd]
    have hmem : ∀ b ∈ xs.zip ds, b.2 ∈ ds := fun b hb => by rw [← m2]; exact List.mem_map_of_mem hb
    have e1 : PySem.W.EachIs (fun u (b : V × D) => RelV b.1 u) its (xs.zip ds) := eachIs_of (by rw [lz, lxi]) fun i u b h1 h2 => by
      have h3 := (List.getElem?_zip_eq_some.mp h2).1
      obtain ⟨u', h4, h5⟩ := rv.get h3
      rw [h1] at h4; cases h4
      exact h5
    have e2 : PySem.W.EachIs (fun u (b : V × D) => ∃ as, Reads s.heap u b.2 as) its (xs.zip ds) := eachIs_of (by rw [lz, lxi]) fun i u b h1 h2 => by
      obtain ⟨h3, h6⟩ := List.getElem?_zip_eq_some.mp h2
      obtain ⟨u', h4, h5⟩ := rv.get h3
      rw [h1] at h4; cases h4
      have : Dp X.T.K H b.1 b.2 := Dq.dp (Dq.mono hide_sub (dqAll_zip ha b (List.mem_of_getElem? h2))) (canLay_mem c1 _ (hmem b (List.mem_of_getElem? h2)))
      exact Dp.reads I _ _ _ this h5
    refine PySem.W.sorted_data (bs := xs.zip ds) (enc := fun b => b.2) hl.isList e1 e2 (by rw [m2]; exact c2) (by rw [m2]; exact c3) (by rw [lz]; exact hz) (fun b hb => ?_) fun out h1 h2 => ?_
    · have := c4 _ (hmem b hb)
      omega
    · obtain ⟨ep, he'⟩ := PyProof.Rows.sortedAll_at s.heap its out.toArray
      have lout : (((xs.zip ds).mergeSort (PySem.W.dataLe false fun b => b.2)).map (·.1)).length = xs.length := by rw [List.length_map, List.length_mergeSort, lz]
      have rv2 := eachIs_vals h2
      refine ⟨.ref _, upd H (s.heap.objs.size + 1) (.lst (((xs.zip ds).mergeSort (PySem.W.dataLe false fun b => b.2)).map (·.1))), I.laid (t' := s.toks) (fun _ _ => PyProof.Rows.sortedAll_old) (Nat.le_succ _) ⟨by rw [lout]; exact hz, out, ep, rv2, he'⟩, rfl, q _ _ ?_ (I.hok.fresh (Nat.le_succ _))⟩
      have hm : ((xs.zip ds).mergeSort (PySem.W.dataLe false fun b => b.2)).map (·.2) = ds.mergeSort dLeD := by
        have := List.map_mergeSort (r := PySem.W.dataLe false fun b : V × D => b.2) (s := dLeD) (f := fun b : V × D => b.2) (l := xs.zip ds) fun a _ b _ => rfl
        rw [this, m2]
      rw [← hm]
      exact dqAll_unzip fun b hb => dqAll_zip ha b ((List.mergeSort_perm _ _).mem_iff.mp hb)
  · intro W O H vs ds Q al h w
    unfold dSorted at w
    split at w
    · rename_i ds
      obtain ⟨v, rfl, hv⟩ := bpAll1 h
      obtain ⟨p, xs, rfl, hp, ax⟩ := hv.list
      split at w
      · rename_i c
        exact ⟨O, p, xs, ds, rfl, hp, ax, c, fun ys r hy hr => w _ _ (same_upd hr) (ow_mk (Same.refl H) hr hy)⟩
      · exact w.elim
    · exact w.elim
end

/-! ### isinstance of a built-in class -/
def tyNm : D → String
  | .none => "NoneType"
  | .bool _ => "bool"
  | .int _ => "int"
  | .str _ => "str"
  | .list _ => "list"
  | .tuple _ => "tuple"
  | .dict _ => "dict"
def isaB (T : String) : D → Rs D
  | .none => .ok (.bool false)
  | .bool _ => .ok (.bool (T == "bool" || T == "int"))
  | .int _ => .ok (.bool (T == "int"))
  | .str _ => .ok (.bool (T == "str"))
  | .list _ => .ok (.bool (T == "list"))
  | .tuple _ => .ok (.bool (T == "tuple"))
  | .dict _ => .no
theorem kit_isa {T : String} (hT : T ∈ (["int", "bool", "str", "list", "tuple"] : List String)) {d : D} {b : Bool} (h : isaB T d = .ok (.bool b)) : kitB (tyNm d) T = some b := by
  simp only [List.mem_cons, List.not_mem_nil, or_false] at hT
  cases d with
  | dict _ => cases h
  | none => injection h with h; injection h with h; subst h; rcases hT with rfl | rfl | rfl | rfl | rfl <;> (unfold tyNm; dsimp only; decide +kernel)
  | bool _ => injection h with h; injection h with h; subst h; rcases hT with rfl | rfl | rfl | rfl | rfl <;> (unfold tyNm; dsimp only; decide +kernel)
  | int _ => injection h with h; injection h with h; subst h; rcases hT with rfl | rfl | rfl | rfl | rfl <;> (unfold tyNm; dsimp only; decide +kernel)
  | str _ => injection h with h; injection h with h; subst h; rcases hT with rfl | rfl | rfl | rfl | rfl <;> (unfold tyNm; dsimp only; decide +kernel)
  | list _ => injection h with h; injection h with h; subst h; rcases hT with rfl | rfl | rfl | rfl | rfl <;> (unfold tyNm; dsimp only; decide +kernel)
  | tuple _ => injection h with h; injection h with h; subst h; rcases hT with rfl | rfl | rfl | rfl | rfl <;> (unfold tyNm; dsimp only; decide +kernel)
section
variable {X : Cx} {W : L2.WX} {M : List Md} {e a b c : Expr} {F F1 F2 F3 : List D → Rs D} {es : List Expr} {A : List D → Rs (List D)} {pos : Pos}
def fIsa (T : String) (F : List D → Rs D) : List D → Rs D := fun ρ => (F ρ).bind (isaB T)
theorem de_isa {T : Str} {Ts : String} {p p2 : Pos} (hg : Gl X "isinstance") (hm : X.mg "isinstance" = none) (hg2 : Gl X T) (hm2 : X.mg T = none) (ha : DB X W M a F) (hv : bootBuiltins T = some (.type Ts)) (hT : Ts ∈ (["int", "bool", "str", "list", "tuple"] : List String) := by decide)
    (hn : T ≠ "__name__" := by decide) (hd : (T == ("__debug__" : Str)) = false := by decide)
    (hs : starEach (a :: [.Name T p2]) X.env = (false, eval a X.env) :: starEach [.Name T p2] X.env := by rfl) (hs2 : starEach ((.Name T p2) :: []) X.env = (false, eval (.Name T p2) X.env) :: starEach [] X.env := by rfl) (hpl : (backTo pos (starEach [.Name T p2] X.env)).any (·.1) = false := by rfl) :
    DE X W M (.Call (.Name "isinstance" p) [a, .Name T p2] [] pos) (fIsa Ts F) := by
  obtain ⟨t, pt, q⟩ := ha
  refine ⟨_, pe_callB call_isi hg hm (by decide +kernel) (pa_cons pt (pa_cons (pe_bltn (v := .ty Ts) hg2 hm2 hv rfl hn hd) pa_nil hs2) hs) (by decide) (by decide) hs hpl, fun G H0 O0 O H σ ρ Q I w => q G H0 O0 O H σ ρ _ I (Wnt.bind w fun d H1 v s1 hd w1 => ?_)⟩
  show ∃ (x c : V) (t u : Value) (b : Bool), [v, .ty Ts] = [x, c] ∧ ClsV c u ∧ TyX X.K H1 x t ∧ PySem.W.kitOne X.K t u = some b ∧ Q (.bl b) H1
  cases hr : isaB Ts d with
  | no => rw [hr] at w1; exact w1.elim
  | er z => cases d <;> cases hr
  | ok z =>
    rw [hr] at w1
    have hz : ∃ bb, z = .bool bb := by cases d <;> cases hr <;> exact ⟨_, rfl⟩
    obtain ⟨bb, rfl⟩ := hz
    have hk := kit_isa hT hr
    refine ⟨v, .ty Ts, .type (tyNm d), .type Ts, bb, rfl, .ty Ts, ?_, kit_ty hk, w1.ok (.bl _)⟩
    cases d with
    | none => rw [hd.non]; exact .base .non
    | bool x => rw [hd.bl]; exact .base (.bl x)
    | int x => rw [hd.int]; exact .base (.int x)
    | str x => rw [hd.str]; exact .base (.str x)
    | list ds => obtain ⟨p, xs, rfl, hp, _⟩ := hd.list; exact .base (.lst hp)
    | tuple ds =>
      obtain ⟨p, xs, rfl, hp, _⟩ := hd.tuple
      rcases hp with (hp | ⟨o, hp⟩) | ⟨o, its, n, h1, h2, _⟩
      · exact .base (.tup hp)
      · exact .fTuple hp
      · exact .kTuple h1 h2
    | dict ds => cases hr

/-! ### texts -/
def fMs (g : Str → D → Rs D) (F1 F2 : List D → Rs D) : List D → Rs D := fun ρ => (F1 ρ).bind fun d => match d with
  | .str z => (F2 ρ).bind (g z)
  | _ => .no
def dSplit (a : Str) : D → Rs D
  | .str b => if (b.length == 0) = false ∧ a.length ≤ 1000000 then .ok (.list ((Txt.split a b).map .str)) else .no
  | _ => .no
def strsOf : List D → Option (List Str)
  | [] => some []
  | .str i :: r => (strsOf r).map (i :: ·)
  | _ :: _ => none
theorem strsOf_eq : ∀ {ds : List D} {ns : List Str}, strsOf ds = some ns → ds = ns.map .str
  | [], ns, h => by cases h; rfl
  | .str i :: r, ns, h => by
    unfold strsOf at h
    cases q : strsOf r with
    | none => rw [q] at h; cases h
    | some ms => rw [q] at h; cases h; rw [strsOf_eq q]; rfl
  | .none :: _, _, h => by cases h
  | .int _ :: _, _, h => by cases h
  | .bool _ :: _, _, h => by cases h
  | .list _ :: _, _, h => by cases h
  | .tuple _ :: _, _, h => by cases h
  | .dict _ :: _, _, h => by cases h
theorem strsOf_map (ns : List Str) : strsOf (ns.map .str) = some ns := by
  induction ns with
  | nil => rfl
  | cons n ns ih => show (strsOf (ns.map .str)).map (n :: ·) = _; rw [ih]; rfl
def dJoin (a : Str) : D → Rs D
  | .list ds => match strsOf ds with
    | some ys => if (ys.map (·.length)).sum + ys.length * a.length ≤ 1000000 then .ok (.str (Txt.join a ys)) else .no
    | none => .no
  | _ => .no
def dPartition (a : Str) : D → Rs D
  | .str b => if (b.length == 0) = false ∧ a.length ≤ 1000000 then .ok (.tuple [.str (Txt.partition a b).1, .str (Txt.partition a b).2.1, .str (Txt.partition a b).2.2]) else .no
  | _ => .no
theorem do_split {apos : Pos} (ha : DB X W M a F1) (hb : DB X W M b F2) (hs : starEach [b] X.env = [(false, eval b X.env)] := by rfl) (hbase : attributeBase a "split" X.env (eval a X.env) = eval a X.env := by rfl) (hline : (apos.endLine == pos.line) = true := by rfl) :
    DO X W M (.Call (.Attribute a "split" apos) [b] [] pos) (fMs dSplit F1 F2) := by
  obtain ⟨ta, pa, qa⟩ := ha
  obtain ⟨tb, pb, qb⟩ := hb
  refine ⟨_, pe_split pa pb hs hbase hline, fun G H0 O0 O H σ ρ Q I w => qa G H0 O0 O H σ ρ _ I (Wnt.bind w fun d H1 x s1 hd w1 => ?_)⟩
  cases d with
  | str z =>
    refine ⟨⟨z, hd.str⟩, qb G H0 O0 O H1 σ ρ _ (I.mono s1) (Wnt.bind w1 fun e H2 y s2 he w2 => ?_)⟩
    cases e with
    | str y' =>
      simp only [dSplit] at w2
      split at w2
      · rename_i c
        refine ⟨z, y', hd.str, by rw [he.str], c.1, Nat.le_trans (Nat.add_le_add_right c.2 2) (by decide), fun p hp => ?_⟩
        have : (Txt.split z y').map V.str = (Txt.split z y').map V.str := rfl
        exact w2 _ _ (same_upd hp) (ow_mk (s1.trans s2) hp DqAll.of_strs)
      · exact w2.elim
    | _ => exact w2.elim
  | _ => exact w1.elim
theorem de_join {apos : Pos} (ha : DB X W M a F1) (hb : DB X W M b F2) (hs : starEach [b] X.env = [(false, eval b X.env)] := by rfl) (hbase : attributeBase a "join" X.env (eval a X.env) = eval a X.env := by rfl) (hline : (apos.endLine == pos.line) = true := by rfl) :
    DE X W M (.Call (.Attribute a "join" apos) [b] [] pos) (fMs dJoin F1 F2) := by
  obtain ⟨ta, pa, qa⟩ := ha
  obtain ⟨tb, pb, qb⟩ := hb
  refine ⟨_, pe_join pa pb hs hbase hline, fun G H0 O0 O H σ ρ Q I w => qa G H0 O0 O H σ ρ _ I (Wnt.bind w fun d H1 x s1 hd w1 => ?_)⟩
  cases d with
  | str z =>
    refine ⟨⟨z, hd.str⟩, qb G H0 O0 O H1 σ ρ _ (I.mono s1) (Wnt.bind w1 fun e H2 y s2 he w2 => ?_)⟩
    cases e with
    | list ds =>
      simp only [dJoin] at w2
      split at w2
      · rename_i ys hy
        split at w2
        · rename_i c
          obtain ⟨p, xs, rfl, hp, ax⟩ := he.list
          rw [strsOf_eq hy] at ax
          rw [DqAll.strs ax] at hp
          exact ⟨z, p, ys, hd.str, rfl, .inl (SqL.of hp), Nat.le_trans c (by decide), w2.ok (.str _)⟩
        · exact w2.elim
      · exact w2.elim
    | _ => exact w2.elim
  | _ => exact w1.elim
theorem de_partition {apos : Pos} (ha : DB X W M a F1) (hb : DB X W M b F2) (hs : starEach [b] X.env = [(false, eval b X.env)] := by rfl) (hbase : attributeBase a "partition" X.env (eval a X.env) = eval a X.env := by rfl) (hline : (apos.endLine == pos.line) = true := by rfl) :
    DE X W M (.Call (.Attribute a "partition" apos) [b] [] pos) (fMs dPartition F1 F2) := by
  obtain ⟨ta, pa, qa⟩ := ha
  obtain ⟨tb, pb, qb⟩ := hb
  refine ⟨_, pe_partition pa pb hs hbase hline, fun G H0 O0 O H σ ρ Q I w => qa G H0 O0 O H σ ρ _ I (Wnt.bind w fun d H1 x s1 hd w1 => ?_)⟩
  cases d with
  | str z =>
    refine ⟨⟨z, hd.str⟩, qb G H0 O0 O H1 σ ρ _ (I.mono s1) (Wnt.bind w1 fun e H2 y s2 he w2 => ?_)⟩
    cases e with
    | str y' =>
      simp only [dPartition] at w2
      split at w2
      · rename_i c
        refine ⟨z, y', hd.str, by rw [he.str], c.1, Nat.le_trans c.2 (by decide), fun p hp => ?_⟩
        refine w2 _ _ (same_upd hp) (.tup ?_ (.cons (.str _) (.cons (.str _) (.cons (.str _) .nil))))
        rw [hide_at (((I.mono s1).mono s2).ne hp)]; exact upd_same
      · exact w2.elim
    | _ => exact w2.elim
  | _ => exact w1.elim
/-- n.bit_length() -/
def fBits (F : List D → Rs D) : List D → Rs D := fun ρ => (F ρ).bind fun d => match d with
  | .int i => .ok (.int (Builtin.Int.intBits i : Nat))
  | _ => .no
theorem de_bits {apos : Pos} (ha : DB X W M a F) (hbase : attributeBase a "bit_length" X.env (eval a X.env) = eval a X.env := by rfl) (hline : (apos.endLine == pos.line) = true := by rfl) : DE X W M (.Call (.Attribute a "bit_length" apos) [] [] pos) (fBits F) := by
  obtain ⟨ta, pa, qa⟩ := ha
  refine ⟨_, pe_bits pa hbase hline, fun G H0 O0 O H σ ρ Q I w => qa G H0 O0 O H σ ρ _ I (Wnt.bind w fun d H1 x s1 hd w1 => ?_)⟩
  cases d with
  | int i => exact ⟨i, hd.int, w1.ok (.int _)⟩
  | _ => exact w1.elim

/-! ### what is walked -/
/-- J gives out the data ds, while what is shared at G, and what stands at B, stays -/
structure ItOk (K : Tx) (G B : Hp) (J : It) (ds : List D) : Prop where
  go : ∀ (i : Nat) (O : Addr → Prop) (H : Hp), Same G (hide O H) → Same B H → i < ds.length → J.go i H
  stop : ∀ (i : Nat) (O : Addr → Prop) (H : Hp), Same G (hide O H) → Same B H → ds.length ≤ i → J.stop i H
  yld : ∀ (i : Nat) (O : Addr → Prop) (H : Hp) (x : V) (H' : Hp), Same G (hide O H) → Same B H → i < ds.length → J.yld i H x H' → H' = H ∧ ∃ d, ds[i]? = some d ∧ Dq K (hide O H) x d
theorem ItOk.later {K : Tx} {G B B' : Hp} {J : It} {ds : List D} (s : Same B B') (h : ItOk K G B J ds) : ItOk K G B' J ds := ⟨fun i O H a b => h.go i O H a (s.trans b), fun i O H a b => h.stop i O H a (s.trans b), fun i O H x H' a b => h.yld i O H x H' a (s.trans b)⟩
/-- what a for walks: what stood when the def began stays -/
def DI (X : Cx) (W : L2.WX) (M : List Md) (tg e : Expr) (F : List D → Rs (List D)) : Prop :=
  ∃ wi : TI, PI X tg e wi ∧ ∀ (G H0 : Hp) (O0 : Out) (O : Addr → Prop) (H : Hp) (σ : L2.St) (ρ : List D) (R : It → Hp → Prop), EOk X.T G H0 O0 M O H σ ρ → Wnt (WS W X.T O σ) (fun H' (J : It) (ds : List D) => ItOk X.T (hide O H') H0 J ds) H (F ρ) R → wi σ H R
/-- .. a comprehension: all that stands stays -/
def DIc (X : Cx) (W : L2.WX) (M : List Md) (tg e : Expr) (F : List D → Rs (List D)) : Prop :=
  ∃ wi : TI, PI X tg e wi ∧ ∀ (G H0 : Hp) (O0 : Out) (O : Addr → Prop) (H : Hp) (σ : L2.St) (ρ : List D) (R : It → Hp → Prop), EOk X.T G H0 O0 M O H σ ρ → Wnt (WS W X.T O σ) (fun H' (J : It) (ds : List D) => ItOk X.T (hide O H') H' J ds) H (F ρ) R → wi σ H R
theorem Wnt.imp {α β : Type} {W : D → Hp → Prop} {Rp Rq : Hp → β → α → Prop} {H : Hp} (k : ∀ H' v a, Same H H' → Rp H' v a → Rq H' v a) : ∀ {r : Rs α} {Q : β → Hp → Prop}, Wnt W Rq H r Q → Wnt W Rp H r Q
  | .ok _, _, h => fun H' v s q => h H' v s (k H' v _ s q)
  | .er _, _, h => h
  | .no, _, h => h
theorem DI.cmp {X : Cx} {W : L2.WX} {M : List Md} {tg e : Expr} {F : List D → Rs (List D)} (h : DI X W M tg e F) : DIc X W M tg e F :=
  let ⟨wi, p, q⟩ := h
  ⟨wi, p, fun G H0 O0 O H σ ρ R I w => q G H0 O0 O H σ ρ R I (w.imp fun _ _ _ s j => j.later (I.base.trans s))⟩
def fItL (F : List D → Rs D) : List D → Rs (List D) := fun ρ => (F ρ).bind fun d => match d with
  | .list ds => .ok ds
  | .dict ((.none, .list ds) :: _) => .ok ds
  | _ => .no
def fItT (F : List D → Rs D) : List D → Rs (List D) := fun ρ => (F ρ).bind fun d => match d with
  | .tuple ds => .ok ds
  | _ => .no
/-- a list that is walked, by what its items are at every later heap -/
theorem itOk_list {K : Tx} {G B : Hp} {a : Addr} {ds : List D} (h : ∀ (O : Addr → Prop) (H : Hp), Same G (hide O H) → Same B H → ∃ xs, SqL K.K H a xs ∧ DqAll K (hide O H) xs ds) : ItOk K G B (Itl K.K a) ds where
  go := fun i O H s sb hi => by
    obtain ⟨xs, h1, h2⟩ := h O H s sb
    have l : i < xs.length := by rw [DqAll.length h2]; exact hi
    exact ⟨xs, xs[i], h1, List.getElem?_eq_getElem l⟩
  stop := fun i O H s sb hi => by
    obtain ⟨xs, h1, h2⟩ := h O H s sb
    exact ⟨xs, h1, by rw [DqAll.length h2]; exact hi⟩
  yld := fun i O H x H' s sb hi y => by
    obtain ⟨e, y⟩ := y
    obtain ⟨xs, h1, h2⟩ := h O H s sb
    have hx := y xs h1
    obtain ⟨d, h3, h4⟩ := DqAll.getV h2 hx
    exact ⟨e, d, h3, h4⟩
theorem itOk_tup {K : Tx} {G B : Hp} {a : Addr} {ds : List D} (h : ∀ (O : Addr → Prop) (H : Hp), Same G (hide O H) → ∃ xs, SqT K.K H a xs ∧ DqAll K (hide O H) xs ds) : ItOk K G B (Itt K.K a) ds where
  go := fun i O H s _ hi => by
    obtain ⟨xs, h1, h2⟩ := h O H s
    have l : i < xs.length := by rw [DqAll.length h2]; exact hi
    exact ⟨xs, xs[i], h1, List.getElem?_eq_getElem l⟩
  stop := fun i O H s _ hi => by
    obtain ⟨xs, h1, h2⟩ := h O H s
    exact ⟨xs, h1, by rw [DqAll.length h2]; exact hi⟩
  yld := fun i O H x H' s _ hi y => by
    obtain ⟨e, y⟩ := y
    obtain ⟨xs, h1, h2⟩ := h O H s
    have hx := y xs h1
    obtain ⟨d, h3, h4⟩ := DqAll.getV h2 hx
    exact ⟨e, d, h3, h4⟩
end
end FL
end
section
/-! FL, part F: what is walked, comprehensions, calls. -/
namespace FL
open PySem L2
section
variable {X : Cx} {W : L2.WX} {M : List Md} {e a b c tg : Expr} {F F1 F2 F3 : List D → Rs D} {es : List Expr} {A : List D → Rs (List D)} {pos : Pos}
theorem di_list (h : DE X W M e F) : DI X W M tg e (fItL F) := by
  obtain ⟨t, p, q⟩ := h
  refine ⟨_, pi_list p, fun G H0 O0 O H σ ρ R I w => q G H0 O0 O H σ ρ _ I (Wnt.bind w fun d H1 v s1 hd w1 => ?_)⟩
  split at w1
  · cases hd with
    | @lst a xs ds h1 ax =>
      refine ⟨a, rfl, ⟨xs, SqL.of (hide_sub _ _ h1)⟩, w1.ok (itOk_list fun O' H' s _ => ⟨xs, SqL.of (hide_sub _ _ (s _ _ h1)), DqAll.mono s ax⟩)⟩
  · rename_i ds r
    generalize hz : (.dict ((.none, .list ds) :: r) : D) = d at hd
    cases hd with
    | @scr a ns h1 =>
      unfold scrD at hz
      injection hz with en
      injection en with en _
      injection en with _ en
      injection en with en
      subst en
      exact ⟨a, rfl, ⟨_, Same.seq hide_sub h1⟩, w1.ok (itOk_list fun O' H' s _ => ⟨_, Same.seq hide_sub (Same.seq s h1), DqAll.of_ints⟩)⟩
    | _ => cases hz
  · exact w1.elim
theorem di_tup (h : DE X W M e F) : DI X W M tg e (fItT F) := by
  obtain ⟨t, p, q⟩ := h
  refine ⟨_, pi_tup p, fun G H0 O0 O H σ ρ R I w => q G H0 O0 O H σ ρ _ I (Wnt.bind w fun d H1 v s1 hd w1 => ?_)⟩
  split at w1
  · cases hd with
    | @tup a xs ds h1 ax =>
      refine ⟨a, rfl, ⟨xs, SqT.of (hide_sub _ _ h1)⟩, w1.ok (itOk_tup fun O' H' s => ⟨xs, SqT.of (hide_sub _ _ (s _ _ h1)), DqAll.mono s ax⟩)⟩
  · exact w1.elim
/-- the data of range(lo, lo + n) -/
def rngD (lo : Int) (n : Nat) : List D := (List.range n).map fun (i : Nat) => .int (lo + (i : Int))
theorem itOk_range {K : Tx} {G B : Hp} (lo : Int) (n : Nat) : ItOk K G B (Itr lo n) (rngD lo n) where
  go := fun i O H s _ hi => by unfold rngD at hi; show i < n; simpa using hi
  stop := fun i O H s _ hi => by unfold rngD at hi; show n ≤ i; simpa using hi
  yld := fun i O H x H' s _ hi y => by
    obtain ⟨e, y⟩ := y
    have hn : i < n := by unfold rngD at hi; simpa using hi
    refine ⟨e, .int (lo + i), ?_, by rw [y]; exact .int _⟩
    unfold rngD
    rw [List.getElem?_map, List.getElem?_range hn]; rfl
def fItR1 (F : List D → Rs D) : List D → Rs (List D) := fun ρ => (F ρ).bind fun d => match d with
  | .int n => if -1000000 ≤ n ∧ n ≤ 1000000 then .ok (rngD 0 n.toNat) else .no
  | _ => .no
def fItR2 (F G : List D → Rs D) : List D → Rs (List D) := fun ρ => (F ρ).bind fun d => (G ρ).bind fun e => match d, e with
  | .int l, .int n => if -1000000 ≤ l ∧ l ≤ 1000000 ∧ -1000000 ≤ n ∧ n ≤ 1000000 then .ok (rngD l (n - l).toNat) else .no
  | _, _ => .no
theorem di_range1 {p : Pos} (hg : Gl X "range") (hm : X.mg "range" = none) (h : DE X W M a F) (hs : starEach [a] X.env = [(false, eval a X.env)] := by rfl) : DI X W M tg (.Call (.Name "range" p) [a] [] pos) (fItR1 F) := by
  obtain ⟨t, pt, q⟩ := h
  refine ⟨_, pi_range1 hg hm (pa_cons pt pa_nil hs) hs, fun G H0 O0 O H σ ρ R I w => q G H0 O0 O H σ ρ _ I (Wnt.bind w fun d H1 v s1 hd w1 => ?_)⟩
  cases d with
  | int n =>
    simp only at w1
    split at w1
    · rename_i c
      cases hd
      exact ⟨n, rfl, by omega, by omega, w1.ok (itOk_range 0 n.toNat)⟩
    · exact w1.elim
  | _ => exact w1.elim
theorem di_range2 {p : Pos} (hg : Gl X "range") (hm : X.mg "range" = none) (h : DE X W M a F1) (h2 : DE X W M b F2) (hs : starEach [a, b] X.env = [(false, eval a X.env), (false, eval b X.env)] := by rfl) (hs2 : starEach [b] X.env = [(false, eval b X.env)] := by rfl) :
    DI X W M tg (.Call (.Name "range" p) [a, b] [] pos) (fItR2 F1 F2) := by
  obtain ⟨t, pt, q⟩ := h
  obtain ⟨t2, pt2, q2⟩ := h2
  refine ⟨_, pi_range2 hg hm (pa_cons pt (pa_cons pt2 pa_nil hs2) (by rw [hs, hs2])) hs hs2, fun G H0 O0 O H σ ρ R I w => q G H0 O0 O H σ ρ _ I (Wnt.bind w fun d H1 v s1 hd w1 => q2 G H0 O0 O H1 σ ρ _ (I.mono s1) (Wnt.bind w1 fun e H2 u s2 he w2 => ?_))⟩
  cases d <;> cases e <;> first | exact w2.elim | skip
  rename_i l n
  simp only at w2
  split at w2
  · rename_i c
    cases hd
    cases he
    exact ⟨l, n, rfl, ⟨by omega, by omega, by omega, by omega⟩, w2.ok (itOk_range l _)⟩
  · exact w2.elim

/-! ### targets -/
def mSeq : List Nat → List Md → List Md
  | [], M => M
  | i :: is, M => mSeq is (M.set i .sh)
/-- two frames that are alike but for some slots -/
def Alk (is : List Nat) (σ σ' : L2.St) : Prop := σ'.length = σ.length ∧ ∀ j, j ∉ is → σ'[j]? = σ[j]?
def DG (X : Cx) (M : List Md) (tg : Expr) (is : List Nat) (g : D → List D → Option (List D)) : Prop :=
  ∃ t : TG, PG X tg t ∧ ∀ (G H0 : Hp) (O0 : Out) (O : Addr → Prop) (H : Hp) (σ : L2.St) (ρ ρ' : List D) (x : V) (d : D) (Q : L2.St → Hp → Prop), EOk X.T G H0 O0 M O H σ ρ → Dq X.T (hide O H) x d → g d ρ = some ρ' →
    (∀ σ' : L2.St, Alk is σ σ' → EOk X.T G H0 O0 (mSeq is M) O H σ' ρ' → Q σ' H) → t x σ H Q
def gN (i : Nat) : D → List D → Option (List D) := fun d ρ => some (ρ.set i d)
theorem alk_set {i : Nat} {σ : L2.St} {v : Option V} : Alk [i] σ (σ.set i v) := ⟨List.length_set, fun j hj => List.getElem?_set_ne fun e => hj (by rw [e]; exact List.mem_singleton.mpr rfl)⟩
theorem dg_name {x : Str} (i : Nat) (hN : X.N.Nodup) (hi : X.N[i]? = some x := by rfl) (hl : i < M.length := by decide) (hx : Loc X.env.scope x := by first | exact .inl rfl | exact .inr rfl) (hf : X.fn x = true ∨ X.env.scope.names.lookup x = some .local := by first | exact .inl rfl | exact .inr rfl | assumption) :
    DG X M (.Name x pos) [i] (gN i) := by
  refine ⟨_, pg_name hN hi hx hf, fun G H0 O0 O H σ ρ ρ' x d Q I hd e k => ?_⟩
  cases e
  exact k _ alk_set (I.setSh hl hd)
/-- a tuple of names -/
def gSeq : List Nat → List D → List D → Option (List D)
  | [], [], ρ => some ρ
  | i :: is, d :: ds, ρ => gSeq is ds (ρ.set i d)
  | _, _, _ => none
def gT (is : List Nat) : D → List D → Option (List D) := fun d ρ => match d with
  | .tuple ds => gSeq is ds ρ
  | _ => none
theorem gSeq_len : ∀ (is : List Nat) (ds : List D) (ρ ρ' : List D), gSeq is ds ρ = some ρ' → ds.length = is.length
  | [], [], _, _, _ => rfl
  | [], _ :: _, _, _, e => by cases e
  | _ :: _, [], _, _, e => by cases e
  | i :: is, d :: ds, ρ, ρ', e => by rw [List.length_cons, List.length_cons, gSeq_len is ds _ ρ' e]
def DGs (X : Cx) (es : List Expr) (is : List Nat) : Prop :=
  ∃ t : TGs, PGs X es t ∧ ∀ (M : List Md) (G H0 : Hp) (O0 : Out) (O : Addr → Prop) (H : Hp) (σ : L2.St) (ρ ρ' : List D) (xs : List V) (ds : List D) (Q : L2.St → Hp → Prop), EOk X.T G H0 O0 M O H σ ρ → (∀ i ∈ is, i < M.length) → DqAll X.T (hide O H) xs ds → gSeq is ds ρ = some ρ' →
    (∀ σ' : L2.St, Alk is σ σ' → EOk X.T G H0 O0 (mSeq is M) O H σ' ρ' → Q σ' H) → t xs σ H Q
theorem dgs_nil : DGs X [] [] := by
  refine ⟨_, pgs_nil, fun M G H0 O0 O H σ ρ ρ' xs ds Q I hl hd e k => ?_⟩
  cases hd with
  | nil => cases e; exact ⟨rfl, k _ ⟨rfl, fun _ _ => rfl⟩ I⟩
  | cons _ _ => cases e
theorem dgs_cons {x : Str} {is : List Nat} {es : List Expr} (i : Nat) (hN : X.N.Nodup) (h : DGs X es is) (hi : X.N[i]? = some x := by rfl) (hx : Loc X.env.scope x := by first | exact .inl rfl | exact .inr rfl) (hf : X.fn x = true ∨ X.env.scope.names.lookup x = some .local := by first | exact .inl rfl | exact .inr rfl | assumption)
    (hs : (assignEach ((.Name x pos) :: es) X.env).map (·.2) = assign (.Name x pos) X.env :: (assignEach es X.env).map (·.2) := by rfl) : DGs X ((.Name x pos) :: es) (i :: is) := by
  obtain ⟨t, p, q⟩ := h
  refine ⟨_, pgs_cons (pg_name hN hi hx hf) p hs, fun M G H0 O0 O H σ ρ ρ' xs ds Q I hl hd e k => ?_⟩
  cases hd with
  | nil => cases e
  | cons r t =>
    refine ⟨_, _, rfl, q _ G H0 O0 O H _ _ ρ' _ _ Q (I.setSh (hl i List.mem_cons_self) r) (fun j hj => by rw [List.length_set]; exact hl j (List.mem_cons_of_mem _ hj)) t e fun σ' a I' => k σ' ⟨by rw [a.1, List.length_set], fun j hj => ?_⟩ I'⟩
    rw [a.2 j fun z => hj (List.mem_cons_of_mem _ z), List.getElem?_set_ne fun z => hj (by rw [z]; exact List.mem_cons_self)]
theorem dg_tup {is : List Nat} {k n : Nat} (hc : X.calm = true) (h : DGs X es is) (hn : (assignEach es X.env).length = n := by rfl) (hst : (assignEach es X.env).findIdx? (·.1) = none := by rfl) (hl : is.length = n := by rfl) (hm : ∀ i ∈ is, i < M.length := by decide) : DG X M (.Tuple es k pos) is (gT is) := by
  obtain ⟨t, p, q⟩ := h
  refine ⟨_, pg_tup hc p hn hst, fun G H0 O0 O H σ ρ ρ' x d Q I hd e k => ?_⟩
  unfold gT at e
  split at e
  · rename_i ds
    cases hd with
    | @tup a xs ds h1 ax =>
      exact ⟨a, xs, rfl, SqT.of (hide_sub _ _ h1), by rw [DqAll.length ax, gSeq_len _ _ _ _ e, hl], q M G H0 O0 O H σ ρ ρ' xs ds Q I hm ax e k⟩
  · cases e

/-! ### comprehensions -/
def Rs.nx {α : Type} : Rs α → Rs α
  | .ok a => .ok a
  | _ => .no
def compL (g : D → List D → Option (List D)) (c : List D → Rs Bool) (f : List D → Rs D) (ρ : List D) : List D → Rs (List D)
  | [] => .ok []
  | x :: xs => match g x ρ with
    | none => .no
    | some ρ' => (c ρ').nx.bind fun b => if b then (f ρ').nx.bind fun y => (compL g c f ρ xs).bind fun ys => .ok (y :: ys) else compL g c f ρ xs
def fYes : List D → Rs Bool := fun _ => .ok true
def fComp (it : List D → Rs (List D)) (g : D → List D → Option (List D)) (c : List D → Rs Bool) (f : List D → Rs D) : List D → Rs D := fun ρ => (it ρ).bind fun xs => if xs.length ≤ 100000 then (compL g c f ρ xs).bind fun ys => .ok (.list ys) else .no
abbrev W0 : L2.WX := fun _ _ _ _ => False
/-- the tests of a comprehension -/
def DTs (X : Cx) (M : List Md) (ifs : List Expr) (F : List D → Rs Bool) : Prop :=
  ∃ t : TT, PTs X ifs t ∧ ∀ (G H0 : Hp) (O0 : Out) (O : Addr → Prop) (H : Hp) (σ : L2.St) (ρ : List D) (Q : Bool → Hp → Prop), EOk X.T G H0 O0 M O H σ ρ → Wnt (WS W0 X.T O σ) (fun _ (b : Bool) (c : Bool) => b = c) H (F ρ) Q → t σ H Q
theorem dts_nil : DTs X M [] fYes := ⟨_, pts_nil, fun _ _ _ _ _ _ _ _ _ w => w.ok rfl⟩
theorem dts_one {B : List D → Rs Bool} (h : DT X W0 M c B) : DTs X M [c] B := let ⟨_, p, q⟩ := h; ⟨_, pts_one p, q⟩
theorem wnt_nx {α β : Type} {W W' : D → Hp → Prop} {Rp : Hp → β → α → Prop} {H Hb : Hp} {r : Rs α} {Q : β → Hp → Prop} {γ δ : Type} {Rq : Hp → δ → γ → Prop} {f : α → Rs γ} {Q' : δ → Hp → Prop} (h : Wnt W Rq Hb (r.nx.bind f) Q')
    (k : ∀ a H' v, Same H H' → Rp H' v a → Wnt W Rq Hb (f a) Q' → Q v H') : Wnt W' Rp H r Q := by
  cases r with
  | ok a => exact fun H' v s q => k a H' v s q h
  | er e => exact h.elim
  | no => exact h
theorem Rs.assoc {α β γ : Type} (r : Rs α) (f : α → Rs β) (g : β → Rs γ) : (r.bind f).bind g = r.bind fun x => (f x).bind g := by cases r <;> rfl
variable {ifs : List Expr} {scope : Scope} {own : List (Str × Nat)}
/-- slots wiped that the target sets again -/
theorem EOk.wipe1 {K : Tx} {G H0 H : Hp} {O0 : Out} {O : Addr → Prop} {σ : L2.St} {ρ : List D} (I : EOk K G H0 O0 M O H σ ρ) (v : Nat) : EOk K G H0 O0 (M.set v .no) O H (σ.set v none) ρ := by
  obtain ⟨φ, J⟩ := I
  refine ⟨φ, J.gs, J.base, J.sub, J.al0, J.alive, J.fr, J.pre, J.nw, J.nod, J.liv, by rw [List.length_set, List.length_set, J.ls], by rw [List.length_set]; exact J.lr, fun j m x d h1 h2 h3 => ?_, fun a b ma mb p hab h1 h2 o1 o2 h3 h4 => ?_, fun a ma p h1 o1 h3 => ?_, fun a ma h1 o1 => ?_, fun e h => J.st e (by rw [List.length_set] at h; exact h)⟩
  · by_cases hj : v = j
    · subst hj
      have l := (List.getElem?_eq_some_iff.mp h1).1
      rw [List.length_set] at l
      rw [List.getElem?_set_self l] at h1
      cases h1; trivial
    · rw [List.getElem?_set_ne hj] at h1 h2
      exact J.slot j m x d h1 h2 h3
  · by_cases ha : v = a
    · subst ha
      have l := (List.getElem?_eq_some_iff.mp h1).1
      rw [List.length_set] at l
      rw [List.getElem?_set_self l] at h1; cases h1; cases o1
    · by_cases hb : v = b
      · subst hb
        have l := (List.getElem?_eq_some_iff.mp h2).1
        rw [List.length_set] at l
        rw [List.getElem?_set_self l] at h2; cases h2; cases o2
      · rw [List.getElem?_set_ne ha] at h1 h3
        rw [List.getElem?_set_ne hb] at h2 h4
        exact J.dist a b ma mb p hab h1 h2 o1 o2 h3 h4
  · by_cases ha : v = a
    · subst ha
      have l := (List.getElem?_eq_some_iff.mp h1).1
      rw [List.length_set] at l
      rw [List.getElem?_set_self l] at h1; cases h1; cases o1
    · rw [List.getElem?_set_ne ha] at h1 h3
      exact J.sep a ma p h1 o1 h3
  · by_cases ha : v = a
    · subst ha
      have l := (List.getElem?_eq_some_iff.mp h1).1
      rw [List.length_set] at l
      rw [List.getElem?_set_self l] at h1; cases h1; cases o1
    · rw [List.getElem?_set_ne ha] at h1
      rw [List.getElem?_set_ne ha]
      exact J.pins a ma h1 o1
theorem wipe_eok {K : Tx} {G H0 H : Hp} {O0 : Out} {O : Addr → Prop} {σ : L2.St} {ρ : List D} (I : EOk K G H0 O0 M O H σ ρ) : ∀ (vs : List Nat), EOk K G H0 O0 (vs.foldr (fun v M => M.set v .no) M) O H (wipe σ vs) ρ
  | [] => I
  | v :: vs => (wipe_eok I vs).wipe1 v
theorem wipe_at : ∀ (vs : List Nat) (σ : L2.St) (j : Nat), (wipe σ vs)[j]? = if j ∈ vs ∧ j < σ.length then some none else σ[j]?
  | [], σ, j => by rw [if_neg (fun h => by cases h.1)]; rfl
  | v :: vs, σ, j => by
    show ((wipe σ vs).set v none)[j]? = _
    by_cases e : v = j
    · subst e
      by_cases l : v < σ.length
      · rw [List.getElem?_set_self (by rw [wipe_length]; exact l), if_pos ⟨List.mem_cons_self, l⟩]
      · rw [if_neg fun h => l h.2, List.getElem?_eq_none (by rw [List.length_set, wipe_length]; omega), List.getElem?_eq_none (by omega)]
    · rw [List.getElem?_set_ne e, wipe_at vs σ j]
      by_cases c : j ∈ vs ∧ j < σ.length
      · rw [if_pos c, if_pos ⟨List.mem_cons_of_mem _ c.1, c.2⟩]
      · rw [if_neg c, if_neg fun h => c ⟨(List.mem_cons.mp h.1).resolve_left (Ne.symm e), h.2⟩]
theorem wipe_alk {vs : List Nat} {σ σ' : L2.St} (a : Alk vs σ σ') : wipe σ' vs = wipe σ vs := by
  apply List.ext_getElem?
  intro j
  rw [wipe_at, wipe_at, a.1]
  by_cases c : j ∈ vs
  · by_cases l : j < σ.length
    · rw [if_pos ⟨c, l⟩, if_pos ⟨c, l⟩]
    · rw [if_neg fun h => l h.2, if_neg fun h => l h.2, List.getElem?_eq_none (by rw [a.1]; omega), List.getElem?_eq_none (by omega)]
  · rw [if_neg fun h => c h.1, if_neg fun h => c h.1, a.2 j c]
theorem Alk.wiped {vs : List Nat} {σ σ' : L2.St} (a : Alk vs (wipe σ vs) σ') : Alk vs σ σ' := ⟨by rw [a.1, wipe_length], fun j hj => by rw [a.2 j hj, wipe_at, if_neg fun h => hj h.1]⟩
abbrev wipeM (own : List (Str × Nat)) (M : List Md) : List Md := (own.map (·.2)).foldr (fun v M => M.set v .no) M
theorem comp_run {wi : TI} {g : TG} {tt : TT} {te : TE} {it : List D → Rs (List D)} {gf : D → List D → Option (List D)} {c : List D → Rs Bool} {f : List D → Rs D} {M' : List Md} {vs : List Nat} {G H0 : Hp} {O0 : Out} {O : Addr → Prop} {H : Hp} {σ : L2.St} {ρ : List D} {Q : VK}
    (hi : ∀ (R : It → Hp → Prop), Wnt (WS W X.T O σ) (fun H' (J : It) (ds : List D) => ItOk X.T (hide O H') H' J ds) H (it ρ) R → wi σ H R)
    (hg : ∀ (G H0 : Hp) (O0 : Out) (O : Addr → Prop) (H : Hp) (σ : L2.St) (ρ ρ' : List D) (x : V) (d : D) (Q : L2.St → Hp → Prop), EOk X.T G H0 O0 (vs.foldr (fun v M => M.set v .no) M) O H σ ρ → Dq X.T (hide O H) x d → gf d ρ = some ρ' → (∀ σ' : L2.St, Alk vs σ σ' → EOk X.T G H0 O0 M' O H σ' ρ' → Q σ' H) → g x σ H Q)
    (ht : ∀ (G H0 : Hp) (O0 : Out) (O : Addr → Prop) (H : Hp) (σ : L2.St) (ρ : List D) (Q : Bool → Hp → Prop), EOk X.T G H0 O0 M' O H σ ρ → Wnt (WS W0 X.T O σ) (fun _ (b : Bool) (c : Bool) => b = c) H (c ρ) Q → tt σ H Q)
    (he : ∀ (G H0 : Hp) (O0 : Out) (O : Addr → Prop) (H : Hp) (σ : L2.St) (ρ : List D) (Q : VK), EOk X.T G H0 O0 M' O H σ ρ → Wnt (WS W0 X.T O σ) (shR X.T O H) H (f ρ) Q → te σ H Q)
    (I : EOk X.T G H0 O0 M O H σ ρ) (w : Wnt (WS W X.T O σ) (owR X.T O H) H (fComp it gf c f ρ) Q) : tLc wi g tt te vs σ H Q := by
  refine hi _ (Wnt.bind w fun ds H1 J s1 hJ w1 => ?_)
  intro L hL
  split at w1
  rotate_left
  · exact w1.elim
  rename_i hlen
  have I1 := I.mono s1
  -- behind i turns: the list at L holds ys, and going on over the rest gives the whole
  refine ⟨fun i m H' => m = ds.length - i ∧ i ≤ ds.length ∧ ∃ (vs' : List V) (ys : List D), Same H1 H' ∧ H' L = some (.lst vs') ∧ vs'.length ≤ i ∧ DqAll X.T (hide (fun b => O b ∨ b = L) H') vs' ys ∧
      Wnt (WS W X.T O σ) (owR X.T O H) H1 ((compL gf c f ρ (ds.drop i)).bind fun zs => .ok (.list (ys ++ zs))) Q,
    ⟨ds.length, rfl, Nat.zero_le _, [], [], same_upd hL, upd_same, Nat.le_refl _, .nil, by simpa using w1⟩, ?_⟩
  rintro i m H2 ⟨rfl, hi2, vs', ys, s2, hL2, hvl, hys, w2⟩
  have hL1 := hL
  have sO : Same (hide O H1) (hide (fun b => O b ∨ b = L) H2) := hide_new s2 hL1
  have I2 : EOk X.T G H0 O0 M (fun b => O b ∨ b = L) H2 σ ρ := I1.more s2 hL1 (by rw [hL2]; intro z; cases z)
  by_cases hlt : i < ds.length
  · right
    refine ⟨hJ.go i _ H2 sO s2 hlt, fun H' => ∃ (vs' : List V) (ys : List D), Same H1 H' ∧ H' L = some (.lst vs') ∧ vs'.length ≤ i + 1 ∧ DqAll X.T (hide (fun b => O b ∨ b = L) H') vs' ys ∧
      Wnt (WS W X.T O σ) (owR X.T O H) H1 ((compL gf c f ρ (ds.drop (i + 1))).bind fun zs => .ok (.list (ys ++ zs))) Q, fun H' n => ⟨ds.length - (i + 1), by omega, rfl, hlt, n⟩, fun x H' y => ?_⟩
    obtain ⟨rfl, d, hd1, hd2⟩ := hJ.yld i _ H2 x H' sO s2 hlt y
    have hdrop : ds.drop i = d :: ds.drop (i + 1) := by
      rw [List.drop_eq_getElem_cons hlt]
      congr 1
      have := List.getElem?_eq_getElem hlt
      rw [this] at hd1
      exact Option.some.inj hd1
    rw [hdrop] at w2
    unfold compL at w2
    split at w2
    · exact w2.elim
    · rename_i ρ' hρ'
      refine hg G H0 O0 _ H' _ ρ ρ' x d _ (wipe_eok I2 vs) hd2 hρ' fun σ' hσ' I3 => ⟨wipe_alk (hσ'.wiped), ?_⟩
      -- the test
      rw [Rs.assoc] at w2
      refine ht G H0 O0 _ H' σ' ρ' _ I3 (wnt_nx w2 fun bb H3 b' s3 eb w3 => ?_)
      subst eb
      cases b' with
      | false => exact ⟨vs', ys, s2.trans s3, s3 _ _ hL2, Nat.le_succ_of_le hvl, DqAll.mono (hide_same s3) hys, w3⟩
      | true =>
        have w3' : Wnt (WS W X.T O σ) (owR X.T O H) H1 (((f ρ').nx.bind fun y => (compL gf c f ρ (ds.drop (i + 1))).bind fun ys => .ok (y :: ys)).bind fun zs => .ok (.list (ys ++ zs))) Q := w3
        rw [Rs.assoc] at w3'
        refine he G H0 O0 _ H3 σ' ρ' _ (I3.mono s3) (wnt_nx w3' fun y H4 v s4 hv w4 => ?_)
        refine ⟨vs', s4 _ _ (s3 _ _ hL2), line_lt (by omega), vs' ++ [v], ys ++ [y], ?_, upd_same, by rw [List.length_append]; simp; omega, ?_, ?_⟩
        · intro b o hb
          rw [upd_ne (ne_of_none hb hL1)]
          exact s4 _ _ (s3 _ _ (s2 _ _ hb))
        · rw [hide_upd (.inr rfl)]
          exact DqAll.append (DqAll.mono (hide_same (s3.trans s4)) hys) (.cons hv .nil)
        · rw [Rs.assoc] at w4
          have e : (fun ys_1 : List D => (Rs.ok (y :: ys_1)).bind fun zs => Rs.ok (PyData.list (ys ++ zs))) = fun zs => Rs.ok (PyData.list (ys ++ [y] ++ zs)) := by
            funext zs; rw [List.append_assoc]; rfl
          rw [e] at w4
          exact w4
  · left
    have ei : i = ds.length := by omega
    subst ei
    refine ⟨hJ.stop _ _ H2 sO s2 (Nat.le_refl _), ?_⟩
    rw [List.drop_length] at w2
    have w2' : Wnt (WS W X.T O σ) (owR X.T O H) H1 (.ok (.list (ys ++ []))) Q := w2
    rw [List.append_nil] at w2'
    exact w2' H2 _ s2 ⟨L, vs', ys, rfl, rfl, s1.free hL1, hL2, hys⟩
/-- one reading for all of a family -/
theorem pe_all {ι : Type} {Y : ι → Cx} {e : Expr} {t : ι → TE} (h : ∀ i, PE (Y i) e (t i)) (i : ι) : PE (Y i) e (fun σ H Q => ∀ i, t i σ H Q) := ⟨fun pins s σ H Q I w => (h i).run pins s σ H Q I (w i)⟩
theorem pts_all {ι : Type} {Y : ι → Cx} {es : List Expr} {t : ι → TT} (h : ∀ i, PTs (Y i) es (t i)) (i : ι) : PTs (Y i) es (fun σ H Q => ∀ i, t i σ H Q) := ⟨fun pins s σ H Q I w => (h i).run pins s σ H Q I (w i)⟩
theorem pg_all {ι : Type} {Y : ι → Cx} {e : Expr} {t : ι → TG} (h : ∀ i, PG (Y i) e (t i)) (i : ι) : PG (Y i) e (fun v σ H Q => ∀ i, t i v σ H Q) := ⟨fun pins s σ H v u Q I r w => (h i).run pins s σ H v u Q I r (w i)⟩
/-- where a comprehension's block runs -/
structure BlkI where
  s : Shared
  H : Hp
  C : Addr
  cl : List (Str × Addr)
  fp : List Addr
abbrev Blk (X : Cx) (scope : Scope) (i : BlkI) : Cx := X.blk i.s i.H scope (compEnvC scope i.cl i.C X.env) i.fp
theorem comp_parts {elt : Expr} {g : D → List D → Option (List D)} {cf : List D → Rs Bool} {f : List D → Rs D}
    (hg : ∀ i : BlkI, DG (Blk X scope i) (wipeM own M) tg (own.map (·.2)) g) (ht : ∀ i : BlkI, DTs (Blk X scope i) (mSeq (own.map (·.2)) (wipeM own M)) ifs cf) (he : ∀ i : BlkI, DE (Blk X scope i) W0 (mSeq (own.map (·.2)) (wipeM own M)) elt f) :
    ∃ (tgr : TG) (ttr : TT) (ter : TE), (∀ i : BlkI, PG (Blk X scope i) tg tgr) ∧ (∀ i : BlkI, PTs (Blk X scope i) ifs ttr) ∧ (∀ i : BlkI, PE (Blk X scope i) elt ter) ∧
      (∀ (G H0 : Hp) (O0 : Out) (O : Addr → Prop) (H : Hp) (σ : L2.St) (ρ ρ' : List D) (x : V) (d : D) (Q : L2.St → Hp → Prop), EOk X.T G H0 O0 (wipeM own M) O H σ ρ → Dq X.T (hide O H) x d → g d ρ = some ρ' → (∀ σ' : L2.St, Alk (own.map (·.2)) σ σ' → EOk X.T G H0 O0 (mSeq (own.map (·.2)) (wipeM own M)) O H σ' ρ' → Q σ' H) → tgr x σ H Q) ∧
      (∀ (G H0 : Hp) (O0 : Out) (O : Addr → Prop) (H : Hp) (σ : L2.St) (ρ : List D) (Q : Bool → Hp → Prop), EOk X.T G H0 O0 (mSeq (own.map (·.2)) (wipeM own M)) O H σ ρ → Wnt (WS W0 X.T O σ) (fun _ (b : Bool) (c : Bool) => b = c) H (cf ρ) Q → ttr σ H Q) ∧
      (∀ (G H0 : Hp) (O0 : Out) (O : Addr → Prop) (H : Hp) (σ : L2.St) (ρ : List D) (Q : VK), EOk X.T G H0 O0 (mSeq (own.map (·.2)) (wipeM own M)) O H σ ρ → Wnt (WS W0 X.T O σ) (shR X.T O H) H (f ρ) Q → ter σ H Q) := by
  refine ⟨_, _, _, pg_all (Y := Blk X scope) (fun i => (hg i).choose_spec.1), pts_all (Y := Blk X scope) (fun i => (ht i).choose_spec.1), pe_all (Y := Blk X scope) (fun i => (he i).choose_spec.1), ?_, ?_, ?_⟩
  · exact fun G H0 O0 O H σ ρ ρ' x d Q I hd e k i => (hg i).choose_spec.2 G H0 O0 O H σ ρ ρ' x d Q I hd e k
  · exact fun G H0 O0 O H σ ρ Q I w i => (ht i).choose_spec.2 G H0 O0 O H σ ρ Q I w
  · exact fun G H0 O0 O H σ ρ Q I w i => (he i).choose_spec.2 G H0 O0 O H σ ρ Q I w
theorem do_comp {elt iter : Expr} {it : List D → Rs (List D)} {g : D → List D → Option (List D)} {cf : List D → Rs Bool} {f : List D → Rs D} (hc : X.calm = true) (hN : X.N.Nodup) (hi : DIc X W M tg iter it) (own : List (Str × Nat)) (ok : BlkOk X.N X.env.scope scope own)
    (hg : ∀ i : BlkI, DG (Blk X scope i) (wipeM own M) tg (own.map (·.2)) g) (ht : ∀ i : BlkI, DTs (Blk X scope i) (mSeq (own.map (·.2)) (wipeM own M)) ifs cf) (he : ∀ i : BlkI, DE (Blk X scope i) W0 (mSeq (own.map (·.2)) (wipeM own M)) elt f)
    (hs : ∀ x, foldedSetIterable iter X.env x = pure x := by intro _; rfl) : DO X W M (.ListComp elt [⟨tg, iter, ifs, 0⟩] scope pos) (fComp it g cf f) := by
  obtain ⟨wi, pi, qi⟩ := hi
  obtain ⟨tgr, ttr, ter, p1, p2, p3, q1, q2, q3⟩ := comp_parts hg ht he
  refine ⟨_, pe_lc hc hN pi ok (fun s H C cl fp => p1 ⟨s, H, C, cl, fp⟩) (fun s H C cl fp => p2 ⟨s, H, C, cl, fp⟩) (fun s H C cl fp => p3 ⟨s, H, C, cl, fp⟩) hs, fun G H0 O0 O H σ ρ Q I w => ?_⟩
  exact comp_run (W := W) (M := M) (fun R => qi G H0 O0 O H σ ρ R I) q1 q2 q3 I w
end
end FL
end
section
/-! FL, part G: calls, statements, defs. -/
namespace FL
open PySem L2

/-! ### what a block gives -/
inductive Fl where
  | nx (ρ : List D) | ret (d : D)
/-- how a def's return and its errors lie: the written part, what it does not see, the heap at its begin, the heap -/
structure RP where
  /-- the store may be changed -/
  rw : Bool
  rt : Tx → Out → Hp → Hp → V → D → Prop
  xt : Tx → Out → Hp → Hp → Value → Option Addr → D → Prop
def shP : RP := ⟨false, fun K O0 _ H' v d => Dq K (hide O0.p H') v d, fun K O0 _ H' cls dd e => ExR K O0.p H' e cls dd⟩
def owP : RP := ⟨false, fun K O0 H0 H' v d => owR K O0.p H0 H' v d, fun K O0 _ H' cls dd e => ExR K O0.p H' e cls dd⟩
/-- errors are told as they are -/
def PlainX (P : RP) : Prop := ∀ (K : Tx) (O0 : Out) (H0 H : Hp) (cls : Value) (dd : Option Addr) (e : D), ExR K O0.p H e cls dd → P.xt K O0 H0 H cls dd e
theorem px_sh : PlainX shP := fun _ _ _ _ _ _ _ h => h
theorem px_ow : PlainX owP := fun _ _ _ _ _ _ _ h => h
def EndOk (P : RP) (K : Tx) (W : L2.WX) (G H0 : Hp) (O0 : Out) (M : List Md) (E : Ends) : Rs Fl → Prop
  | .ok (.nx ρ) => ∀ (O : Addr → Prop) (H : Hp) (σ : L2.St), EOk K G H0 O0 M O H σ ρ → E.nx σ H
  | .ok (.ret d) => ∀ (H : Hp) (v : V), Same H0 H → P.rt K O0 H0 H v d → E.rt v H
  | .er e => ∀ (H : Hp) (cls : Value) (dd : Option Addr) (σ : L2.St), Same H0 H → P.xt K O0 H0 H cls dd e → W cls dd σ H
  | .no => False
/-- .. of a simple statement: errors are raised where it begins -/
def EndOk1 (P : RP) (K : Tx) (W : L2.WX) (G H0 : Hp) (O0 : Out) (M : List Md) (O : Addr → Prop) (H : Hp) (σ : L2.St) (E : Ends) : Rs Fl → Prop
  | .ok (.nx ρ) => ∀ (O : Addr → Prop) (H : Hp) (σ : L2.St), EOk K G H0 O0 M O H σ ρ → E.nx σ H
  | .ok (.ret d) => ∀ (H : Hp) (v : V), Same H0 H → P.rt K O0 H0 H v d → E.rt v H
  | .er e => ∀ H', Same H H' → WS W K O σ e H'
  | .no => False
def DS (Rp : RP) (X : Cx) (W : L2.WX) (M : List Md) (st : Stmt) (M' : List Md) (F : List D → Rs Fl) : Prop :=
  ∃ t : TS, PS X st t ∧ ∀ (G H0 : Hp) (O0 : Out) (O : Addr → Prop) (H : Hp) (σ : L2.St) (ρ : List D) (E : Ends), (Rp.rw = true → O0.rw = true) → EOk X.T G H0 O0 M O H σ ρ → EndOk Rp X.T W G H0 O0 M' E (F ρ) → t E σ H
def DS1 (Rp : RP) (X : Cx) (W : L2.WX) (M : List Md) (st : Stmt) (M' : List Md) (F : List D → Rs Fl) : Prop :=
  ∃ t : TS, PS X st t ∧ ∀ (G H0 : Hp) (O0 : Out) (O : Addr → Prop) (H : Hp) (σ : L2.St) (ρ : List D) (E : Ends), (Rp.rw = true → O0.rw = true) → EOk X.T G H0 O0 M O H σ ρ → EndOk1 Rp X.T W G H0 O0 M' O H σ E (F ρ) → t E σ H
def DSs (Rp : RP) (X : Cx) (W : L2.WX) (M : List Md) (st : List Stmt) (M' : List Md) (F : List D → Rs Fl) : Prop :=
  ∃ t : TS, PSs X st t ∧ ∀ (G H0 : Hp) (O0 : Out) (O : Addr → Prop) (H : Hp) (σ : L2.St) (ρ : List D) (E : Ends), (Rp.rw = true → O0.rw = true) → EOk X.T G H0 O0 M O H σ ρ → EndOk Rp X.T W G H0 O0 M' E (F ρ) → t E σ H
/-- a simple statement in a def whose errors are told as they are -/
theorem ds_of1 {Rp : RP} {X : Cx} {W : L2.WX} {M M' : List Md} {st : Stmt} {F : List D → Rs Fl} (h : DS1 Rp X W M st M' F) (hp : PlainX Rp := by first | exact px_sh | exact px_ow) : DS Rp X W M st M' F := by
  obtain ⟨t, p, q⟩ := h
  refine ⟨t, p, fun G H0 O0 O H σ ρ E rw I w => q G H0 O0 O H σ ρ E rw I ?_⟩
  generalize F ρ = r at w ⊢
  cases r with
  | er e => exact fun H' s cls dd x => w H' cls dd σ (I.base.trans s) (hp _ _ _ _ _ _ _ (x.keep (hide_less I.sub)))
  | no => exact w
  | ok f => cases f <;> exact w

section
variable {Rp : RP} {X : Cx} {W : L2.WX} {M M1 M2 M' : List Md} {e a b c tg : Expr} {F F1 F2 F3 : List D → Rs D} {B1 : List D → Rs Bool} {S1 S2 : List D → Rs Fl} {es : List Expr} {A : List D → Rs (List D)} {pos pos' : Pos} {st : Stmt} {rest body body2 : List Stmt}
/-! ### blocks -/
def fNext : List D → Rs Fl := fun ρ => .ok (.nx ρ)
def fSeq (f g : List D → Rs Fl) : List D → Rs Fl := fun ρ => (f ρ).bind fun r => match r with
  | .nx ρ' => g ρ'
  | .ret d => .ok (.ret d)
theorem dss_nil : DSs Rp X W M [] M fNext := ⟨_, pss_nil, fun G H0 O0 O H σ ρ E rw I w => w O H σ I⟩
theorem dss_one (h : DS Rp X W M st M' S1) : DSs Rp X W M [st] M' S1 := let ⟨_, p, q⟩ := h; ⟨_, pss_one p, q⟩
/-- the end of the first of two -/
theorem endOk_seq {K : Tx} {G H0 : Hp} {O0 : Out} {E : Ends} {r : Rs Fl} {g : List D → Rs Fl} {E' : Ends} (h : EndOk Rp K W G H0 O0 M2 E (r.bind fun r => match r with | .nx ρ' => g ρ' | .ret d => .ok (.ret d)))
    (hn : ∀ ρ' (O : Addr → Prop) (H : Hp) (σ : L2.St), EOk K G H0 O0 M1 O H σ ρ' → EndOk Rp K W G H0 O0 M2 E (g ρ') → E'.nx σ H) (hr : E'.rt = E.rt) : EndOk Rp K W G H0 O0 M1 E' r := by
  cases r with
  | er e => exact h
  | no => exact h
  | ok f =>
    cases f with
    | nx ρ' => exact fun O H σ I => hn ρ' O H σ I h
    | ret d => intro H v s q; rw [hr]; exact h H v s q
theorem dss_cons (h : DS Rp X W M st M1 S1) (h2 : DSs Rp X W M1 rest M2 S2) : DSs Rp X W M (st :: rest) M2 (fSeq S1 S2) := by
  obtain ⟨t, p, q⟩ := h
  obtain ⟨t2, p2, q2⟩ := h2
  exact ⟨_, pss_cons p p2, fun G H0 O0 O H σ ρ E rw I w => q G H0 O0 O H σ ρ _ rw I (endOk_seq w (fun ρ' O' H' σ' I' w' => q2 G H0 O0 O' H' σ' ρ' E rw I' w') rfl)⟩
/-- from here on the own list at slot i is shared -/
theorem dss_pub (i : Nat) (h : DSs Rp X W (M.set i .sh) body M' S1) (hm : M[i]? = some .ow := by rfl) : DSs Rp X W M body M' S1 := by
  obtain ⟨t, p, q⟩ := h
  refine ⟨_, p, fun G H0 O0 O H σ ρ E rw I w => ?_⟩
  obtain ⟨O', I'⟩ := I.publish hm
  exact q G H0 O0 O' H σ ρ E rw I' w
/-- forgetting: slots that are not held any more -/
def wkB : List Md → List Md → Bool
  | [], [] => true
  | m :: M, m' :: M' => (m' == .no || m == m') && wkB M M'
  | _, _ => false
theorem wk_get : ∀ {M M' : List Md} {i : Nat} {m : Md}, wkB M M' = true → M'[i]? = some m → m = .no ∨ M[i]? = some m
  | [], [], i, m, _, h => by simp at h
  | m :: M, m' :: M', 0, x, h, e => by
    simp only [wkB, Bool.and_eq_true, Bool.or_eq_true, beq_iff_eq] at h
    cases e
    rcases h.1 with z | z
    · exact .inl z
    · exact .inr (by rw [z]; rfl)
  | m :: M, m' :: M', i + 1, x, h, e => by
    simp only [wkB, Bool.and_eq_true] at h
    exact wk_get (i := i) h.2 e
  | [], _ :: _, _, _, h, _ => by cases h
  | _ :: _, [], _, _, h, _ => by cases h
theorem wk_len : ∀ {M M' : List Md}, wkB M M' = true → M.length = M'.length
  | [], [], _ => rfl
  | m :: M, m' :: M', h => by
    simp only [wkB, Bool.and_eq_true] at h
    rw [List.length_cons, List.length_cons, wk_len h.2]
  | [], _ :: _, h => by cases h
  | _ :: _, [], h => by cases h
theorem EOk.weak {K : Tx} {G H0 H : Hp} {O0 : Out} {O : Addr → Prop} {σ : L2.St} {ρ : List D} (I : EOk K G H0 O0 M O H σ ρ) (h : wkB M M' = true) : EOk K G H0 O0 M' O H σ ρ := by
  have hl := wk_len h
  obtain ⟨φ, I⟩ := I
  refine ⟨φ, I.gs, I.base, I.sub, I.al0, I.alive, I.fr, I.pre, I.nw, I.nod, I.liv, by rw [I.ls, hl], by rw [← hl]; exact I.lr, fun i m x d h1 h2 h3 => ?_, fun i j mi mj p hij h1 h2 o1 o2 h3 h4 => ?_, fun i m p h1 o1 h3 => ?_, fun i m h1 o1 => ?_, fun e he => I.st e (by rw [hl]; exact he)⟩
  · rcases wk_get h h1 with z | z
    · subst z; trivial
    · exact I.slot i m x d z h2 h3
  · rcases wk_get h h1 with z | z
    · subst z; cases o1
    · rcases wk_get h h2 with z' | z'
      · subst z'; cases o2
      · exact I.dist i j mi mj p hij z z' o1 o2 h3 h4
  · rcases wk_get h h1 with z | z
    · subst z; cases o1
    · exact I.sep i m p z o1 h3
  · rcases wk_get h h1 with z | z
    · subst z; cases o1
    · exact I.pins i m z o1
theorem endOk_weak {K : Tx} {G H0 : Hp} {O0 : Out} {E : Ends} {r : Rs Fl} (h : wkB M M' = true) (w : EndOk Rp K W G H0 O0 M' E r) : EndOk Rp K W G H0 O0 M E r := by
  cases r with
  | er e => exact w
  | no => exact w
  | ok f =>
    cases f with
    | nx ρ' => exact fun O H σ I => w O H σ (I.weak h)
    | ret d => exact w
/-- a block that ends with more than is asked -/
theorem dss_wk (h : DSs Rp X W M body M1 S1) (wk : wkB M1 M' = true := by rfl) : DSs Rp X W M body M' S1 := by
  obtain ⟨t, p, q⟩ := h
  exact ⟨_, p, fun G H0 O0 O H σ ρ E rw I w => q G H0 O0 O H σ ρ E rw I (endOk_weak wk w)⟩
/-- a slot published at a block's end -/
theorem dss_pubEnd (i : Nat) (h : DSs Rp X W M body M1 S1) (hm : M1[i]? = some .ow := by rfl) : DSs Rp X W M body (M1.set i .sh) S1 := by
  obtain ⟨t, p, q⟩ := h
  refine ⟨_, p, fun G H0 O0 O H σ ρ E rw I w => q G H0 O0 O H σ ρ E rw I ?_⟩
  generalize S1 ρ = r at w ⊢
  cases r with
  | er e => exact w
  | no => exact w
  | ok f =>
    cases f with
    | nx ρ' => exact fun O H σ I => let ⟨O', I'⟩ := I.publish hm; w O' H σ I'
    | ret d => exact w
/-- .. ahead of one statement -/
theorem ds_pub (i : Nat) (h : DS Rp X W (M.set i .sh) st M' S1) (hm : M[i]? = some .ow := by rfl) : DS Rp X W M st M' S1 := by
  obtain ⟨t, p, q⟩ := h
  refine ⟨_, p, fun G H0 O0 O H σ ρ E rw I w => ?_⟩
  obtain ⟨O', I'⟩ := I.publish hm
  exact q G H0 O0 O' H σ ρ E rw I' w

/-! ### small statements -/
theorem rt_sh {K : Tx} {G H0 H H' : Hp} {O0 : Out} {O : Addr → Prop} {M : List Md} {σ : L2.St} {ρ : List D} (I : EOk K G H0 O0 M O H σ ρ) (s : Same H H') {v : V} {d : D} (h : shR K O H H' v d) : shP.rt K O0 H0 H' v d := Dq.mono (hide_less I.sub) h
theorem rt_ow {K : Tx} {G H0 H H' : Hp} {O0 : Out} {O : Addr → Prop} {M : List Md} {σ : L2.St} {ρ : List D} (I : EOk K G H0 O0 M O H σ ρ) (s : Same H H') {v : V} {d : D} (h : owR K O H H' v d) : owP.rt K O0 H0 H' v d := by
  obtain ⟨p, vs, ds, e1, e2, hp, h1, h2⟩ := h
  exact ⟨p, vs, ds, e1, e2, I.base.free hp, h1, DqAll.mono (hide_less fun b hb => hb.elim (fun z => .inl (I.sub b z)) .inr) h2⟩
def fRet (F : List D → Rs D) : List D → Rs Fl := fun ρ => (F ρ).bind fun d => .ok (.ret d)
theorem d1_ret (h : DE X W M e F) : DS1 shP X W M (.Return (some e) pos) M' (fRet F) := by
  obtain ⟨t, p, q⟩ := h
  refine ⟨_, ps_ret p, fun G H0 O0 O H σ ρ E rw I w => q G H0 O0 O H σ ρ _ I ?_⟩
  unfold fRet at w
  generalize F ρ = r at w ⊢
  cases r with
  | er e => exact w
  | no => exact w
  | ok d => exact fun H' v s h => w H' v (I.base.trans s) (rt_sh I s h)
theorem d1_retO (h : DO X W M e F) : DS1 owP X W M (.Return (some e) pos) M' (fRet F) := by
  obtain ⟨t, p, q⟩ := h
  refine ⟨_, ps_ret p, fun G H0 O0 O H σ ρ E rw I w => q G H0 O0 O H σ ρ _ I ?_⟩
  unfold fRet at w
  generalize F ρ = r at w ⊢
  cases r with
  | er e => exact w
  | no => exact w
  | ok d => exact fun H' v s h => w H' v (I.base.trans s) (rt_ow I s h)
theorem d1_retN : DS1 shP X W M (.Return none pos) M' (fun _ => .ok (.ret .none)) := by
  refine ⟨_, ps_retN, fun G H0 O0 O H σ ρ E rw I w => ?_⟩
  exact w H .non I.base .non
/-- return x, x an own list -/
theorem d1_retX {x : Str} (i : Nat) (hm : M[i]? = some .ow := by rfl) (hN : X.N[i]? = some x := by rfl) (hv : Vis X.env.scope x := by first | exact Or.inl rfl | exact Or.inr (Or.inl rfl) | exact Or.inr (Or.inr rfl)) (hd : (x == ("__debug__" : Str)) = false := by decide) (hcd : (x == ("__classdict__" : Str)) = false := by decide) :
    DS1 owP X W M (.Return (some (.Name x pos')) pos) M' (fRet (fVar i)) := by
  refine ⟨_, ps_ret (pe_var hN hv hd hcd), fun G H0 O0 O H σ ρ E rw I w => ?_⟩
  unfold fRet fVar at w
  cases hr : ρ[i]? with
  | none => rw [hr] at w; exact w.elim
  | some d =>
    rw [hr] at w
    obtain ⟨p, e1, oO, h0, vs, ds, e2, h1, h2⟩ := I.ow hm hr
    exact ⟨_, e1, w H _ I.base ⟨p, vs, ds, rfl, e2, h0, h1, DqAll.mono (hide_less fun b hb => hb.elim (I.sub b) fun z => by rw [z]; exact oO) h2⟩⟩
def fSet (i : Nat) (F : List D → Rs D) : List D → Rs Fl := fun ρ => (F ρ).bind fun d => .ok (.nx (ρ.set i d))
theorem d1_set {x : Str} (i : Nat) (hN : X.N.Nodup) (h : DE X W M e F) (hi : X.N[i]? = some x := by rfl) (hl : i < M.length := by decide) (hx : Loc X.env.scope x := by first | exact .inl rfl | exact .inr rfl) (hs : swapsWith e (some (.Name x pos')) pos.line X.env = pure false := by rfl) (hf : X.fn x = true ∨ X.env.scope.names.lookup x = some .local := by first | exact .inl rfl | exact .inr rfl | assumption) :
    DS1 Rp X W M (.Assign [.Name x pos'] e pos) (M.set i .sh) (fSet i F) := by
  obtain ⟨t, p, q⟩ := h
  refine ⟨_, ps_set hN hi hx p hs hf, fun G H0 O0 O H σ ρ E rw I w => q G H0 O0 O H σ ρ _ I ?_⟩
  unfold fSet at w
  generalize F ρ = r at w ⊢
  cases r with
  | er e => exact w
  | no => exact w
  | ok d => exact fun H' v s h => w _ _ _ ((I.mono s).setSh hl h)
theorem ow_adopt {K : Tx} {G H0 H H' : Hp} {O0 : Out} {O : Addr → Prop} {σ : L2.St} {ρ : List D} (I : EOk K G H0 O0 M O H σ ρ) (s : Same H H') {v : V} {d : D} (h : owR K O H H' v d) (i : Nat) (hl : i < M.length) :
    ∃ O', EOk K G H0 O0 (M.set i .ow) O' H' (σ.set i (some v)) (ρ.set i d) := by
  obtain ⟨p, vs, ds, rfl, rfl, hp, h1, h2⟩ := h
  exact ⟨_, I.adopt hl rfl s hp (by rw [h1]; intro z; cases z) rfl fun _ => ⟨p, rfl, .inr rfl, I.base.free hp, vs, ds, rfl, h1, h2⟩⟩
theorem d1_setO {x : Str} (i : Nat) (hN : X.N.Nodup) (h : DO X W M e F) (hi : X.N[i]? = some x := by rfl) (hl : i < M.length := by decide) (hx : Loc X.env.scope x := by first | exact .inl rfl | exact .inr rfl) (hs : swapsWith e (some (.Name x pos')) pos.line X.env = pure false := by rfl) (hf : X.fn x = true ∨ X.env.scope.names.lookup x = some .local := by first | exact .inl rfl | exact .inr rfl | assumption) :
    DS1 Rp X W M (.Assign [.Name x pos'] e pos) (M.set i .ow) (fSet i F) := by
  obtain ⟨t, p, q⟩ := h
  refine ⟨_, ps_set hN hi hx p hs hf, fun G H0 O0 O H σ ρ E rw I w => q G H0 O0 O H σ ρ _ I ?_⟩
  unfold fSet at w
  generalize F ρ = r at w ⊢
  cases r with
  | er e => exact w
  | no => exact w
  | ok d => exact fun H' v s h => let ⟨O', I'⟩ := ow_adopt I s h i hl; w O' H' _ I'
/-- y = [.. for ..], own from here on -/
theorem d1_setLc {y : Str} {py : Pos} {elt iter : Expr} {ifs : List Expr} {scope : Scope} {spos : Pos} {it : List D → Rs (List D)} {g : D → List D → Option (List D)} {cf : List D → Rs Bool} {f : List D → Rs D} (i : Nat) (hc : X.calm = true) (hN : X.N.Nodup) (hsw : swapsWith (.ListComp elt [⟨tg, iter, ifs, 0⟩] scope pos) (some (.Name y py)) spos.line X.env = pure true)
    (hi : DIc X W M tg iter it) (own : List (Str × Nat)) (ok : BlkOk X.N X.env.scope scope own)
    (hg : ∀ i : BlkI, DG (Blk X scope i) (wipeM own M) tg (own.map (·.2)) g) (ht : ∀ i : BlkI, DTs (Blk X scope i) (mSeq (own.map (·.2)) (wipeM own M)) ifs cf) (he : ∀ i : BlkI, DE (Blk X scope i) W0 (mSeq (own.map (·.2)) (wipeM own M)) elt f)
    (hy : X.N[i]? = some y := by rfl) (hl : i < M.length := by decide) (hyl : X.env.scope.names.lookup y = some .local := by rfl) (hs : ∀ x, foldedSetIterable iter X.env x = pure x := by intro _; rfl) :
    DS1 Rp X W M (.Assign [.Name y py] (.ListComp elt [⟨tg, iter, ifs, 0⟩] scope pos) spos) (M.set i .ow) (fSet i (fComp it g cf f)) := by
  obtain ⟨wi, pi, qi⟩ := hi
  obtain ⟨tgr, ttr, ter, p1, p2, p3, q1, q2, q3⟩ := comp_parts hg ht he
  refine ⟨_, ps_setLc hc hN hy hyl hsw pi ok (fun s H C cl fp => p1 ⟨s, H, C, cl, fp⟩) (fun s H C cl fp => p2 ⟨s, H, C, cl, fp⟩) (fun s H C cl fp => p3 ⟨s, H, C, cl, fp⟩) hs, fun G H0 O0 O H σ ρ E rw I w => ?_⟩
  refine comp_run (W := W) (M := M) (fun R => qi G H0 O0 O H σ ρ R I) q1 q2 q3 I ?_
  unfold fSet at w
  generalize fComp it g cf f ρ = r at w ⊢
  cases r with
  | er e => exact w
  | no => exact w
  | ok d => exact fun H' v s h => let ⟨O', I'⟩ := ow_adopt I s h i hl; w O' H' _ I'
/-- y = e, e own, held as shared from the start: publish behind -/
theorem ds_sharedEnd (i : Nat) (h : DS Rp X W M st (M.set i .ow) S1) (hm : (M.set i .ow)[i]? = some .ow := by rfl) : DS Rp X W M st (M.set i .sh) S1 := by
  obtain ⟨t, p, q⟩ := h
  refine ⟨_, p, fun G H0 O0 O H σ ρ E rw I w => q G H0 O0 O H σ ρ E rw I ?_⟩
  generalize S1 ρ = r at w ⊢
  cases r with
  | er e => exact w
  | no => exact w
  | ok f =>
    cases f with
    | nx ρ' => exact fun O H σ I => let ⟨O', I'⟩ := I.publish hm; w O' H σ (by rw [List.set_set] at I'; exact I')
    | ret d => exact w
/-- a, b, .. = e -/
def fSetT (g : D → List D → Option (List D)) (F : List D → Rs D) : List D → Rs Fl := fun ρ => (F ρ).bind fun d => match g d ρ with
  | some ρ' => .ok (.nx ρ')
  | none => .no
theorem d1_setT {is : List Nat} {g : D → List D → Option (List D)} (h : DE X W M e F) (hg : DG X M tg is g) (hs : swapsWithSole [tg] e pos.line X.env = pure false := by rfl) (hw : swappedStores [tg] e X.env = pure none := by rfl) (h1 : (assignEach [tg] X.env).map (·.2) = [assign tg X.env] := by rfl) :
    DS1 Rp X W M (.Assign [tg] e pos) (mSeq is M) (fSetT g F) := by
  obtain ⟨t, p, q⟩ := h
  obtain ⟨tgr, pg, qg⟩ := hg
  refine ⟨_, ps_asg p pg hs hw h1, fun G H0 O0 O H σ ρ E rw I w => q G H0 O0 O H σ ρ _ I ?_⟩
  unfold fSetT at w
  generalize F ρ = r at w ⊢
  cases r with
  | er e => exact w
  | no => exact w
  | ok d =>
    intro H' v s h
    have w' : EndOk1 Rp X.T W G H0 O0 (mSeq is M) O H σ E (match g d ρ with | some ρ' => .ok (.nx ρ') | none => .no) := w
    split at w'
    · rename_i ρ' hρ
      exact qg G H0 O0 O H' σ ρ ρ' v d _ (I.mono s) h hρ fun σ' _ I' => w' _ _ _ I'
    · exact w'.elim
def fExp (F : List D → Rs D) : List D → Rs Fl := fun ρ => (F ρ).bind fun _ => .ok (.nx ρ)
theorem d1_expr (h : DE X W M e F) (hs : swapsWith e none pos.line X.env = pure false := by rfl) : DS1 Rp X W M (.Expr e pos) M (fExp F) := by
  obtain ⟨t, p, q⟩ := h
  refine ⟨_, ps_expr p hs, fun G H0 O0 O H σ ρ E rw I w => q G H0 O0 O H σ ρ _ I ?_⟩
  unfold fExp at w
  generalize F ρ = r at w ⊢
  cases r with
  | er e => exact w
  | no => exact w
  | ok d => exact fun H' v s h => w _ _ _ (I.mono s)
theorem d1_pass : DS1 Rp X W M (.Pass pos) M fNext := ⟨_, ps_pass, fun G H0 O0 O H σ ρ E rw I w => w O H σ I⟩

/-! ### own lists changed -/
def fApp (i : Nat) (F : List D → Rs D) : List D → Rs Fl := fun ρ => (F ρ).bind fun d => match ρ[i]? with
  | some (.list ds) => if ds.length ≤ 100000 then .ok (.nx (ρ.set i (.list (ds ++ [d])))) else .no
  | _ => .no
theorem d1_app {x : Str} {p1 p2 p3 : Pos} (i : Nat) (h : DE X W M e F) (hm : M[i]? = some .ow := by rfl) (hN : X.N[i]? = some x := by rfl) (hv : Vis X.env.scope x := by first | exact Or.inl rfl | exact Or.inr (Or.inl rfl) | exact Or.inr (Or.inr rfl)) (hd : (x == ("__debug__" : Str)) = false := by decide) (hcd : (x == ("__classdict__" : Str)) = false := by decide)
    (hbase : attributeBase (.Name x p1) "append" X.env (eval (.Name x p1) X.env) = eval (.Name x p1) X.env := by rfl)
    (hfew : ((backTo p3 (starEach (e :: []) X.env)).all (fun x => !x.1) && (backToKw p3 (keywordEach [] X.env)).all (fun x => x.1.isSome) && decide ((e :: []).length + ([] : List Keyword).length + (if ([] : List Keyword).isEmpty then 0 else 1) < 30)) = true := by rfl)
    (hline : (p2.endLine == p3.line) = true := by rfl) (hse : starEach (e :: []) X.env = (false, eval e X.env) :: starEach [] X.env := by rfl) (hs : swapsWith (.Call (.Attribute (.Name x p1) "append" p2) [e] [] p3) none pos.line X.env = pure false := by rfl) :
    DS1 Rp X W M (.Expr (.Call (.Attribute (.Name x p1) "append" p2) [e] [] p3) pos) M (fApp i F) := by
  obtain ⟨t, p, q⟩ := h
  refine ⟨_, ps_expr (pe_bm PySem.F.plainAttrs_list PySem.F.slot_list_append PySem.F.type_list_append mt_append (pe_var hN hv hd hcd) (pa_cons p pa_nil hse) hbase hfew hline hse) hs, fun G H0 O0 O H σ ρ E rw I w => ?_⟩
  have li : i < M.length := (List.getElem?_eq_some_iff.mp hm).1
  obtain ⟨z, hz⟩ : ∃ z, ρ[i]? = some z := ⟨_, List.getElem?_eq_getElem (Nat.lt_of_lt_of_le li I.lr)⟩
  obtain ⟨p, e1, oO, h0, vs, ds, e2, h1, h2⟩ := I.ow hm hz
  subst e2
  refine ⟨_, e1, .inl ⟨rfl, _, SqL.of h1⟩, q G H0 O0 O H σ ρ _ I ?_⟩
  unfold fApp at w
  rw [hz] at w
  generalize F ρ = r at w ⊢
  cases r with
  | er e => exact w
  | no => exact w
  | ok d =>
    intro H' v s hv'
    have w' : EndOk1 Rp X.T W G H0 O0 M O H σ E (if ds.length ≤ 100000 then .ok (.nx (ρ.set i (.list (ds ++ [d])))) else .no) := w
    split at w'
    · rename_i hl
      refine ⟨p, vs, v, rfl, rfl, s _ _ h1, by rw [DqAll.length h2]; exact line_lt hl, w' O _ _ ((I.mono s).change hm rfl e1 oO h0 fun _ hh => ?_)⟩
      exact ⟨p, rfl, oO, h0, _, _, rfl, upd_same, by rw [hh]; exact DqAll.append (DqAll.mono (hide_same s) h2) (.cons hv' .nil)⟩
    · exact w'.elim
/-- x.extend(e), e a list -/
def fExt (i : Nat) (F : List D → Rs D) : List D → Rs Fl := fun ρ => (F ρ).bind fun d => match ρ[i]?, d with
  | some (.list ds), .list es => if ds.length + es.length ≤ 100000 then .ok (.nx (ρ.set i (.list (ds ++ es)))) else .no
  | _, _ => .no
theorem d1_ext {x : Str} {p1 p2 p3 : Pos} (i : Nat) (h : DE X W M e F) (hm : M[i]? = some .ow := by rfl) (hN : X.N[i]? = some x := by rfl) (hv : Vis X.env.scope x := by first | exact Or.inl rfl | exact Or.inr (Or.inl rfl) | exact Or.inr (Or.inr rfl)) (hd : (x == ("__debug__" : Str)) = false := by decide) (hcd : (x == ("__classdict__" : Str)) = false := by decide)
    (hbase : attributeBase (.Name x p1) "extend" X.env (eval (.Name x p1) X.env) = eval (.Name x p1) X.env := by rfl)
    (hfew : ((backTo p3 (starEach (e :: []) X.env)).all (fun x => !x.1) && (backToKw p3 (keywordEach [] X.env)).all (fun x => x.1.isSome) && decide ((e :: []).length + ([] : List Keyword).length + (if ([] : List Keyword).isEmpty then 0 else 1) < 30)) = true := by rfl)
    (hline : (p2.endLine == p3.line) = true := by rfl) (hse : starEach (e :: []) X.env = (false, eval e X.env) :: starEach [] X.env := by rfl) (hs : swapsWith (.Call (.Attribute (.Name x p1) "extend" p2) [e] [] p3) none pos.line X.env = pure false := by rfl) :
    DS1 Rp X W M (.Expr (.Call (.Attribute (.Name x p1) "extend" p2) [e] [] p3) pos) M (fExt i F) := by
  obtain ⟨t, p, q⟩ := h
  refine ⟨_, ps_expr (pe_bm PySem.F.plainAttrs_list PySem.F.slot_list_extend PySem.F.type_list_extend mt_extend (pe_var hN hv hd hcd) (pa_cons p pa_nil hse) hbase hfew hline hse) hs, fun G H0 O0 O H σ ρ E rw I w => ?_⟩
  have li : i < M.length := (List.getElem?_eq_some_iff.mp hm).1
  obtain ⟨z, hz⟩ : ∃ z, ρ[i]? = some z := ⟨_, List.getElem?_eq_getElem (Nat.lt_of_lt_of_le li I.lr)⟩
  obtain ⟨p, e1, oO, h0, vs, ds, e2, h1, h2⟩ := I.ow hm hz
  subst e2
  refine ⟨_, e1, .inl ⟨rfl, _, SqL.of h1⟩, q G H0 O0 O H σ ρ _ I ?_⟩
  unfold fExt at w
  rw [hz] at w
  generalize F ρ = r at w ⊢
  cases r with
  | er e => exact w
  | no => exact w
  | ok d =>
    intro H' v s hv'
    cases d with
    | list es =>
      have w' : EndOk1 Rp X.T W G H0 O0 M O H σ E (if ds.length + es.length ≤ 100000 then .ok (.nx (ρ.set i (.list (ds ++ es)))) else .no) := w
      split at w'
      · rename_i hl
        cases hv' with
        | @lst b xs _ k1 k2 =>
          refine ⟨p, b, vs, xs, rfl, rfl, s _ _ h1, hide_sub _ _ k1, by rw [DqAll.length h2, DqAll.length k2]; exact line_of hl, w' O _ _ ((I.mono s).change hm rfl e1 oO h0 fun _ hh => ?_)⟩
          exact ⟨p, rfl, oO, h0, _, _, rfl, upd_same, by rw [hh]; exact DqAll.append (DqAll.mono (hide_same s) h2) k2⟩
      · exact w'.elim
    | _ => exact w.elim
/-- x[k] = e -/
def fPut (i : Nat) (F K : List D → Rs D) : List D → Rs Fl := fun ρ => (F ρ).bind fun d => (K ρ).bind fun k => match ρ[i]?, k with
  | some (.list ds), .int j => match ixN ds.length j with
    | some n => .ok (.nx (ρ.set i (.list (ds.set n d))))
    | none => .no
  | _, _ => .no
theorem d1_put {x : Str} {p1 p2 : Pos} (i : Nat) (h : DE X W M e F1) (hk : DE X W M b F2) (hm : M[i]? = some .ow := by rfl) (hN : X.N[i]? = some x := by rfl) (hv : Vis X.env.scope x := by first | exact Or.inl rfl | exact Or.inr (Or.inl rfl) | exact Or.inr (Or.inr rfl)) (hd : (x == ("__debug__" : Str)) = false := by decide) (hcd : (x == ("__classdict__" : Str)) = false := by decide)
    (ha : ∀ v, assign (.Subscript (.Name x p1) b p2) X.env v = (do
      let ov ← holding [v] (eval (.Name x p1) X.env)
      let iv ← holding [v, ov] (eval b X.env)
      standAt p2
      holding [v, ov, iv] (setItem ov iv v)
      release [v, ov, iv] []) := by intro _; rfl)
    (hs : swapsWithSole [.Subscript (.Name x p1) b p2] e pos.line X.env = pure false := by rfl) (hw : swappedStores [.Subscript (.Name x p1) b p2] e X.env = pure none := by rfl) (h1 : (assignEach [.Subscript (.Name x p1) b p2] X.env).map (·.2) = [assign (.Subscript (.Name x p1) b p2) X.env] := by rfl) :
    DS1 Rp X W M (.Assign [.Subscript (.Name x p1) b p2] e pos) M (fPut i F1 F2) := by
  obtain ⟨t, p, q⟩ := h
  obtain ⟨tk, pk, qk⟩ := hk
  refine ⟨_, ps_asg p (pg_sub (pe_var hN hv hd hcd) pk set_list ha) hs hw h1, fun G H0 O0 O H σ ρ E rw I w => ?_⟩
  have li : i < M.length := (List.getElem?_eq_some_iff.mp hm).1
  obtain ⟨z, hz⟩ : ∃ z, ρ[i]? = some z := ⟨_, List.getElem?_eq_getElem (Nat.lt_of_lt_of_le li I.lr)⟩
  obtain ⟨p, e1, oO, h0, vs, ds, e2, h1, h2⟩ := I.ow hm hz
  subst e2
  refine q G H0 O0 O H σ ρ _ I ?_
  unfold fPut at w
  rw [hz] at w
  generalize F1 ρ = r at w ⊢
  cases r with
  | er e => exact w
  | no => exact w
  | ok d =>
    intro H1 v s1 hv1
    refine ⟨_, e1, qk G H0 O0 O H1 σ ρ _ (I.mono s1) ?_⟩
    have w : EndOk1 Rp X.T W G H0 O0 M O H σ E ((F2 ρ).bind fun k => match some (PyData.list ds), k with
      | some (.list ds), .int j => match ixN ds.length j with
        | some n => .ok (.nx (ρ.set i (.list (ds.set n d))))
        | none => .no
      | _, _ => .no) := w
    generalize F2 ρ = r at w ⊢
    cases r with
    | er e => exact fun H' s' => w H' (s1.trans s')
    | no => exact w
    | ok k =>
      intro H2 u s2 hu
      cases k with
      | int j =>
        cases hu
        have w' : EndOk1 Rp X.T W G H0 O0 M O H σ E (match ixN ds.length j with | some n => .ok (.nx (ρ.set i (.list (ds.set n d)))) | none => .no) := w
        split at w'
        · rename_i n hn
          refine ⟨p, vs, j, n, rfl, rfl, s2 _ _ (s1 _ _ h1), by rw [DqAll.length h2]; exact hn, w' O _ _ (((I.mono s1).mono s2).change hm rfl e1 oO h0 fun _ hh => ?_)⟩
          exact ⟨p, rfl, oO, h0, _, _, rfl, upd_same, by rw [hh]; exact DqAll.set (Dq.mono (hide_same s2) hv1) _ (DqAll.mono (hide_same (s1.trans s2)) h2)⟩
        · exact w'.elim
      | _ => exact w.elim

/-! ### if, for, while -/
def fIfS (B : List D → Rs Bool) (f g : List D → Rs Fl) : List D → Rs Fl := fun ρ => (B ρ).nx.bind fun b => if b then f ρ else g ρ
theorem ds_if (hc : DT X W M c B1) (ha : DSs Rp X W M body M' S1) (hb : DSs Rp X W M body2 M' S2) : DS Rp X W M (.If c body body2 pos) M' (fIfS B1 S1 S2) := by
  obtain ⟨t, p, q⟩ := hc
  obtain ⟨t1, p1, q1⟩ := ha
  obtain ⟨t2, p2, q2⟩ := hb
  refine ⟨_, ps_if p p1 p2, fun G H0 O0 O H σ ρ E rw I w => q G H0 O0 O H σ ρ _ I ?_⟩
  unfold fIfS at w
  generalize B1 ρ = r at w ⊢
  cases r with
  | er e => exact (show False from w).elim
  | no => exact w
  | ok d =>
    intro H' v s hv
    subst hv
    cases v with
    | true => exact q1 G H0 O0 O H' σ ρ E rw (I.mono s) w
    | false => exact q2 G H0 O0 O H' σ ρ E rw (I.mono s) w
def forL (g : D → List D → Option (List D)) (f : List D → Rs Fl) : List D → List D → Rs Fl
  | [], ρ => .ok (.nx ρ)
  | x :: xs, ρ => match g x ρ with
    | none => .no
    | some ρ' => (f ρ').bind fun r => match r with
      | .nx ρ2 => forL g f xs ρ2
      | .ret d => .ok (.ret d)
def fFor (it : List D → Rs (List D)) (g : D → List D → Option (List D)) (f : List D → Rs Fl) : List D → Rs Fl := fun ρ => (it ρ).nx.bind fun xs => forL g f xs ρ
theorem endOk_again {K : Tx} {G G' H0 : Hp} {O0 : Out} {E : Ends} {r : Rs Fl} (s : Same G G') (w : EndOk Rp K W G H0 O0 M E r) : EndOk Rp K W G' H0 O0 M E r := by
  cases r with
  | er e => exact w
  | no => exact w
  | ok f =>
    cases f with
    | nx ρ' => exact fun O H σ I => w O H σ (I.again (s.trans I.gs))
    | ret d => exact w
theorem ds_for {is : List Nat} {iter : Expr} {it : List D → Rs (List D)} {g : D → List D → Option (List D)} (hp : PassesOwn (model X.prog X.w) X.A X.env X.xe) (hc : X.calm = true) (hi : DI X W M tg iter it) (hg : DG X M tg is g) (hb : DSs Rp X W (mSeq is M) body M S1) (hs : ∀ x, foldedSetIterable iter X.env x = pure x := by intro _; rfl) :
    DS Rp X W M (.For tg iter body [] pos) M (fFor it g S1) := by
  obtain ⟨wi, pi, qi⟩ := hi
  obtain ⟨tgr, pg, qg⟩ := hg
  obtain ⟨tb, pb, qb⟩ := hb
  refine ⟨_, ps_for hp hc pi pg pb hs, fun G H0 O0 O H σ ρ E rw I w => qi G H0 O0 O H σ ρ _ I ?_⟩
  unfold fFor at w
  generalize it ρ = r at w ⊢
  cases r with
  | er e => exact (show False from w).elim
  | no => exact w
  | ok ds =>
    intro H1 J s1 hJ
    have I1 := I.mono s1
    have w1 : EndOk Rp X.T W (hide O H1) H0 O0 M E (forL g S1 ds ρ) := endOk_again (G := G) (I.gs.trans (hide_same s1)) w
    refine ⟨fun i m σ' H' => m = ds.length - i ∧ i ≤ ds.length ∧ ∃ (O' : Addr → Prop) (ρ' : List D), EOk X.T (hide O H1) H0 O0 M O' H' σ' ρ' ∧ EndOk Rp X.T W (hide O H1) H0 O0 M E (forL g S1 (ds.drop i) ρ'),
      ⟨ds.length, rfl, Nat.zero_le _, O, ρ, I1.again (Same.refl _), w1⟩, ?_⟩
    rintro i m σ2 H2 ⟨rfl, hi2, O2, ρ2, I2, w2⟩
    by_cases hlt : i < ds.length
    · right
      refine ⟨hJ.go i O2 H2 I2.gs I2.base hlt, fun σ' H' => ∃ (O' : Addr → Prop) (ρ' : List D), EOk X.T (hide O H1) H0 O0 M O' H' σ' ρ' ∧ EndOk Rp X.T W (hide O H1) H0 O0 M E (forL g S1 (ds.drop (i + 1)) ρ'), fun σ' H' n => ⟨ds.length - (i + 1), by omega, rfl, hlt, n⟩, fun x H' y => ?_⟩
      obtain ⟨rfl, d, hd1, hd2⟩ := hJ.yld i O2 H2 x H' I2.gs I2.base hlt y
      have hdrop : ds.drop i = d :: ds.drop (i + 1) := by
        rw [List.drop_eq_getElem_cons hlt]
        congr 1
        have := List.getElem?_eq_getElem hlt
        rw [this] at hd1
        exact Option.some.inj hd1
      rw [hdrop] at w2
      unfold forL at w2
      split at w2
      · exact w2.elim
      · rename_i ρ' hρ'
        refine qg _ H0 O0 O2 H' σ2 ρ2 ρ' x d _ I2 hd2 hρ' fun σ' _ I3 => qb _ H0 O0 O2 H' σ' ρ' _ rw I3 ?_
        exact endOk_seq (g := fun ρ2 => forL g S1 (ds.drop (i + 1)) ρ2) w2 (fun ρ3 O3 H3 σ3 I4 w4 => ⟨O3, ρ3, I4, w4⟩) rfl
    · left
      have ei : i = ds.length := by omega
      subst ei
      refine ⟨hJ.stop _ O2 H2 I2.gs I2.base (Nat.le_refl _), ?_⟩
      rw [List.drop_length] at w2
      exact w2 O2 H2 σ2 I2
def whileN (c : List D → Rs Bool) (f : List D → Rs Fl) : Nat → List D → Rs Fl
  | 0, _ => .no
  | n + 1, ρ => (c ρ).nx.bind fun b => if b then (f ρ).bind (fun r => match r with
    | .nx ρ2 => whileN c f n ρ2
    | .ret d => .ok (.ret d)) else .ok (.nx ρ)
open Classical in
noncomputable def fWhile (c : List D → Rs Bool) (f : List D → Rs Fl) : List D → Rs Fl := fun ρ => if h : ∃ n r, whileN c f n ρ = r ∧ r ≠ .no then whileN c f h.choose ρ else .no
theorem whileN_more {c : List D → Rs Bool} {f : List D → Rs Fl} : ∀ {n m : Nat} {ρ : List D} {r : Rs Fl}, whileN c f n ρ = r → r ≠ .no → n ≤ m → whileN c f m ρ = r
  | 0, m, ρ, r, h, hr, _ => absurd h.symm hr
  | n + 1, 0, ρ, r, h, hr, l => absurd l (by omega)
  | n + 1, m + 1, ρ, r, h, hr, l => by
    unfold whileN at h ⊢
    cases hc : c ρ with
    | er e => rw [hc] at h; exact h
    | no => rw [hc] at h; exact h
    | ok b =>
      rw [hc] at h
      cases b with
      | false => exact h
      | true =>
        have h : (f ρ).bind (fun r => match r with | .nx ρ2 => whileN c f n ρ2 | .ret d => .ok (.ret d)) = r := h
        show (f ρ).bind (fun r => match r with | .nx ρ2 => whileN c f m ρ2 | .ret d => .ok (.ret d)) = r
        cases hf : f ρ with
        | er e => rw [hf] at h; exact h
        | no => rw [hf] at h; exact h
        | ok z =>
          rw [hf] at h
          cases z with
          | ret d => exact h
          | nx ρ2 => exact whileN_more (n := n) (m := m) h hr (by omega)
theorem fWhile_eq {c : List D → Rs Bool} {f : List D → Rs Fl} {n : Nat} {ρ : List D} {r : Rs Fl} (h : whileN c f n ρ = r) (hr : r ≠ .no) : fWhile c f ρ = r := by
  unfold fWhile
  have he : ∃ n r, whileN c f n ρ = r ∧ r ≠ .no := ⟨n, r, h, hr⟩
  rw [dif_pos he]
  obtain ⟨r', h1, h2⟩ := he.choose_spec
  rcases Nat.le_total n he.choose with l | l
  · exact whileN_more h hr l
  · rw [← h, h1]; exact (whileN_more h1 h2 l).symm
theorem fWhile_get {c : List D → Rs Bool} {f : List D → Rs Fl} {ρ : List D} {r : Rs Fl} (h : fWhile c f ρ = r) (hr : r ≠ .no) : ∃ n, whileN c f n ρ = r := by
  unfold fWhile at h
  split at h
  · exact ⟨_, h⟩
  · exact absurd h.symm hr
theorem ds_while (hp : PassesOwn (model X.prog X.w) X.A X.env X.xe) (hc : DT X W M c B1) (hb : DSs Rp X W M body M S1) : DS Rp X W M (.While c body [] pos) M (fWhile B1 S1) := by
  obtain ⟨tc, pc, qc⟩ := hc
  obtain ⟨tb, pb, qb⟩ := hb
  refine ⟨_, ps_while hp pc pb, fun G H0 O0 O H σ ρ E rw I w => ?_⟩
  have hne : fWhile B1 S1 ρ ≠ .no := fun z => by rw [z] at w; exact w
  obtain ⟨n, hn⟩ := fWhile_get rfl hne
  rw [← hn] at w
  refine ⟨fun m σ' H' => ∃ (O' : Addr → Prop) (ρ' : List D), EOk X.T G H0 O0 M O' H' σ' ρ' ∧ EndOk Rp X.T W G H0 O0 M E (whileN B1 S1 m ρ'), ⟨n, O, ρ, I, w⟩, ?_⟩
  rintro m σ2 H2 ⟨O2, ρ2, I2, w2⟩
  cases m with
  | zero => exact w2.elim
  | succ m =>
    refine qc G H0 O0 O2 H2 σ2 ρ2 _ I2 ?_
    unfold whileN at w2
    generalize B1 ρ2 = r at w2 ⊢
    cases r with
    | er e => exact (show False from w2).elim
    | no => exact w2
    | ok b =>
      intro H3 b' s3 hb
      subst hb
      cases b' with
      | false => exact w2 O2 H3 σ2 (I2.mono s3)
      | true =>
        refine ⟨fun σ' H' => ∃ (O' : Addr → Prop) (ρ' : List D), EOk X.T G H0 O0 M O' H' σ' ρ' ∧ EndOk Rp X.T W G H0 O0 M E (whileN B1 S1 m ρ'), fun σ' H' n => ⟨m, Nat.lt_succ_self _, n⟩, ?_⟩
        refine qb G H0 O0 O2 H3 σ2 ρ2 _ rw (I2.mono s3) ?_
        exact endOk_seq (g := fun ρ2 => whileN B1 S1 m ρ2) w2 (fun ρ3 O3 H3 σ3 I4 w4 => ⟨O3, ρ3, I4, w4⟩) rfl
/-- a statement that is never reached -/
theorem ds_never : DS Rp X W M st M' (fun _ => .no) := ⟨_, ps_never, fun _ _ _ _ _ _ _ _ _ _ w => w.elim⟩
end

/-! ### calls -/
/-- what a call wishes of errors -/
def WE (K : Tx) (O : Addr → Prop) (E : XK) : D → Hp → Prop := fun e H => ∀ cls dd, ExR K O H e cls dd → E cls dd H
def spD (Rp : Tx → Rep) (K : Tx) (n : Nat) (F : List D → Rs D) : Sp := fun vs H Q E => ∃ (O : Addr → Prop) (ds : List D), vs.length = n ∧ (∀ p, O p → H p ≠ none) ∧ DqAll K (hide O H) vs ds ∧ Wnt (WE K O E) (Rp K O H) H (F ds) Q
def Cal (Rp : Tx → Rep) (P : Program) (w : World) (K : Tx) (base : Heap) (x : Str) (k n : Nat) (F : List D → Rs D) : Prop :=
  ∃ (f : Addr) (fd : FuncData) (ps : List Str), FnOk P w K.K K.mg base (L2.CX P w) k f fd ps (spD Rp K n F) ∧ K.mg x = some (.ref f) ∧ PySem.W.keepIn K.K (.ref f) = true ∧ Binds K.K fd ps []
def fCall (n : Nat) (G : List D → Rs D) (A : List D → Rs (List D)) : List D → Rs D := fun ρ => (A ρ).bind fun ds => if ds.length = n then G ds else .no
section
variable {Rp : Tx → Rep} {X : Cx} {W : L2.WX} {M : List Md} {e : Expr} {es : List Expr} {A : List D → Rs (List D)} {pos p : Pos} {x : Str} {k n : Nat} {G : List D → Rs D}
theorem wnt_call {K : Tx} {σ : L2.St} {O : Addr → Prop} {H H1 : Hp} {r : Rs D} {Q : VK} (hR : Later Rp) (s : Same H H1) (w : Wnt (WS W K O σ) (Rp K O H) H1 r Q) : Wnt (WE K O (L2.WE W σ)) (Rp K O H1) H1 r Q := by
  cases r with
  | ok d => exact fun H' v s' h => w H' v s' (hR K O H H1 H' v d s h)
  | er e => exact w
  | no => exact w
theorem ej_call (tk : Takes X W) (hR : Later Rp) (C : Cal Rp X.prog X.w X.T X.base x k n G) (hr : Room k X.A) (hg : Gl X x) (ha : DA X W M (e :: es) A) (hdb : (x == ("__debug__" : Str)) = false := by decide)
    (he : starEach (e :: es) X.env = (false, eval e X.env) :: starEach es X.env := by rfl) (hpl : (backTo pos (starEach es X.env)).any (·.1) = false := by rfl) : EJ Rp X W M (.Call (.Name x p) (e :: es) [] pos) (fCall n G A) := by
  obtain ⟨f, fd, ps, F, hm, hk, hb⟩ := C
  obtain ⟨t, pt, qt⟩ := ha
  refine ⟨_, pe_callS F hr hg hm hk hb (fun σ => passAt tk σ) pt hdb he hpl, fun G' H0 O0 O H σ ρ Q I w => qt G' H0 O0 O H σ ρ _ I (Wnt.bind w fun ds H1 vs s1 hd w1 => ?_)⟩
  split at w1
  · rename_i hl
    exact ⟨O, ds, by rw [DqAll.length hd, hl], (I.mono s1).alive, hd, wnt_call hR s1 w1⟩
  · exact w1.elim
/-- .. of no arguments -/
theorem pe_bare {CT : CXT} {E : L2.St → XK} (F : FnOk X.prog X.w X.K X.mg X.base CT k f fd ps sp) (hr : Room k X.A) (hg : Gl X x) (hm : X.mg x = some (.ref f)) (hk : PySem.W.keepIn X.K (.ref f) = true) (hb : Binds X.K fd ps []) (hx : ∀ σ, PassesAt CT X σ (E σ)) (hdb : (x == ("__debug__" : Str)) = false) :
    PE X (.Call (.Name x p) [] [] pos) (tCallS sp E tNil) :=
  ⟨fun pins s σ H Q I h => wpAny_Call_Name_kw (ld_glob I hg hm (PySem.W.callWith_K0 I.kIn hk (run_fnS F hr hb (hx σ) I .nil h)) hdb)⟩
theorem ej_call0 (tk : Takes X W) (hR : Later Rp) (C : Cal Rp X.prog X.w X.T X.base x k 0 G) (hr : Room k X.A) (hg : Gl X x) (hdb : (x == ("__debug__" : Str)) = false := by decide) : EJ Rp X W M (.Call (.Name x p) [] [] pos) (fCall 0 G aNil) := by
  obtain ⟨f, fd, ps, F, hm, hk, hb⟩ := C
  refine ⟨_, pe_bare F hr hg hm hk hb (fun σ => passAt tk σ) hdb, fun G' H0 O0 O H σ ρ Q I w => ?_⟩
  exact ⟨O, [], rfl, I.alive, .nil, wnt_call (σ := σ) hR (Same.refl H) w⟩
/-- .. within a comprehension: nothing is raised -/
theorem ej_callN (hR : Later Rp) (C : Cal Rp X.prog X.w X.T X.base x k n G) (hr : Room k X.A) (hg : Gl X x) (ha : DA X W0 M (e :: es) A) (hdb : (x == ("__debug__" : Str)) = false := by decide)
    (he : starEach (e :: es) X.env = (false, eval e X.env) :: starEach es X.env := by rfl) (hpl : (backTo pos (starEach es X.env)).any (·.1) = false := by rfl) : EJ Rp X W0 M (.Call (.Name x p) (e :: es) [] pos) (fCall n G A) := by
  obtain ⟨f, fd, ps, F, hm, hk, hb⟩ := C
  obtain ⟨t, pt, qt⟩ := ha
  refine ⟨_, pe_call F hr hg hm hk hb .nil passL pt hdb he hpl, fun G' H0 O0 O H σ ρ Q I w => qt G' H0 O0 O H σ ρ _ I (Wnt.bind w fun ds H1 vs s1 hd w1 => ?_)⟩
  split at w1
  · rename_i hl
    exact ⟨O, ds, by rw [List.append_nil, DqAll.length hd, hl], (I.mono s1).alive, by rw [List.append_nil]; exact hd, wnt_call (σ := σ) hR s1 w1⟩
  · exact w1.elim
theorem ej_call0N (hR : Later Rp) (C : Cal Rp X.prog X.w X.T X.base x k 0 G) (hr : Room k X.A) (hg : Gl X x) (hdb : (x == ("__debug__" : Str)) = false := by decide) : EJ Rp X W0 M (.Call (.Name x p) [] [] pos) (fCall 0 G aNil) := by
  obtain ⟨f, fd, ps, F, hm, hk, hb⟩ := C
  refine ⟨_, pe_call0 F hr hg hm hk hb .nil passL hdb, fun G' H0 O0 O H σ ρ Q I w => ?_⟩
  exact ⟨O, [], rfl, I.alive, .nil, wnt_call (σ := σ) hR (Same.refl H) w⟩
end

/-! ### a def -/
def fDef (n : Nat) (f : List D → Rs Fl) : List D → Rs D := fun ds => (f (ds ++ List.replicate (n - ds.length) .none)).bind fun r => match r with
  | .ret d => .ok d
  | .nx _ => .ok .none
def fDefO (n : Nat) (f : List D → Rs Fl) : List D → Rs D := fun ds => (f (ds ++ List.replicate (n - ds.length) .none)).bind fun r => match r with
  | .ret d => .ok d
  | .nx _ => .no
def M0 (m n : Nat) : List Md := List.replicate m .sh ++ List.replicate (n - m) .no
/-- where a def's body stands -/
abbrev DCx (P : Program) (w : World) (K : Tx) (base : Heap) (N : List Str) (qual : Str) (st : Stmt) (f : Addr) (cdv : Value) (A : Around) (outer : List Env) (s : Shared) (H : Hp) (E : XK) : Cx := cxOf (L2.CX P w) P w K.K K.mg base N qual (defScope st) f cdv A outer s H E
/-- what it wishes of errors -/
abbrev WD (E : XK) : L2.WX := fun cls d _ H => E cls d H
section
variable {P : Program} {w : World} {K : Tx} {base : Heap}
theorem start_eok {N : List Str} {vs : List V} {ds : List D} {H : Hp} {O : Addr → Prop} (hal : ∀ p, O p → H p ≠ none) (hd : DqAll K (hide O H) vs ds) : EOk K (hide O H) H ⟨O, [], false, fun _ => none⟩ (M0 vs.length N.length) O H (L2.start N vs) (ds ++ List.replicate (N.length - ds.length) .none) := by
  have hl := DqAll.length hd
  have no : ∀ (i : Nat) (m : Md), (M0 vs.length N.length)[i]? = some m → m.own = false := fun i m h1 => by
    unfold M0 at h1
    by_cases hi : i < vs.length
    · rw [List.getElem?_append_left (by simpa using hi), List.getElem?_replicate, if_pos hi] at h1
      cases h1; rfl
    · rw [List.getElem?_append_right (by simpa using hi), List.getElem?_replicate] at h1
      split at h1
      · cases h1; rfl
      · cases h1
  refine ⟨[], Same.refl _, Same.refl _, fun _ h => h, hal, hal, fun _ h => .inl h, pre_refl, (fun _ h => (List.not_mem_nil h).elim), List.nodup_nil, (fun _ h => (List.not_mem_nil h).elim), by unfold L2.start M0; simp, by unfold M0; simp [hl], fun i m x d h1 h2 h3 => ?_, fun i j mi mj p hij h1 h2 o1 o2 _ _ => ?_, fun i m p h1 o1 _ => ?_, fun i m h1 o1 => ?_, fun d h => ?_⟩
  · by_cases hi : i < vs.length
    · unfold M0 at h1
      rw [List.getElem?_append_left (by simpa using hi), List.getElem?_replicate, if_pos hi] at h1
      cases h1
      unfold L2.start at h2
      rw [List.getElem?_append_left (by simpa using hi), List.getElem?_map] at h2
      rw [List.getElem?_append_left (by rw [← hl]; exact hi)] at h3
      obtain ⟨v, hv, q⟩ := DqAll.get hd h3
      rw [hv] at h2
      cases h2
      exact ⟨v, rfl, q⟩
    · unfold M0 at h1
      rw [List.getElem?_append_right (by simpa using hi), List.getElem?_replicate] at h1
      split at h1
      · cases h1; trivial
      · cases h1
  · rw [no i mi h1] at o1; cases o1
  · rw [no i m h1] at o1; cases o1
  · rw [Md.pin_own (no i m h1)] at o1; cases o1
  · have : (ds ++ List.replicate (N.length - ds.length) (.none : D)).length ≤ (M0 vs.length N.length).length := by unfold M0; simp [hl]
    rw [List.getElem?_eq_none this] at h; cases h
/-- a def that gives shared data -/
theorem cal_of {x nm qual : Str} {st : Stmt} {f : Addr} {fd : FuncData} {N ps : List Str} {k : Nat} {M' : List Md} {fb : List D → Rs Fl} (F : Fun K.K nm qual st f fd) (S : FnScope N ps (defScope st)) (hm : K.mg x = some (.ref f)) (hb : Binds K.K fd ps [])
    (body : ∀ (cdv : Value) (A : Around) (outer : List Env) (s : Shared) (H : Hp) (E : XK), Room k (A.deeper (PyProof.Rows.envOfC qual (defScope st) s.heap.objs.size f cdv)) → Takes (DCx P w K base N qual st f cdv A outer s H E) (WD E) →
      PassesOwn (model P w) (DCx P w K base N qual st f cdv A outer s H E).A (DCx P w K base N qual st f cdv A outer s H E).env (DCx P w K base N qual st f cdv A outer s H E).xe → DSs shP (DCx P w K base N qual st f cdv A outer s H E) (WD E) (M0 ps.length N.length) (defBody st) M' fb) :
    Cal shR P w K base x (k + 1) ps.length (fDef N.length fb) := by
  refine ⟨f, fd, ps, F.okX S (fun vs H Q E h => ?_) (fun cdv A outer s H vs Q E hr h => ?_), hm, F.kp, hb⟩
  · obtain ⟨_, _, h, _⟩ := h; exact h
  · obtain ⟨O, ds, hl, hal, hd, w⟩ := h
    obtain ⟨t, p, q⟩ := body cdv A outer s H E hr (takes_of rfl rfl rfl rfl) (passes_of rfl)
    refine ⟨t, p, ?_⟩
    have I := start_eok (N := N) hal hd
    rw [hl] at I
    refine q _ H ⟨O, [], false, fun _ => none⟩ O H _ _ _ (fun z => by cases z) I ?_
    unfold fDef at w
    generalize fb (ds ++ List.replicate (N.length - ds.length) .none) = r at w ⊢
    cases r with
    | er e => exact fun H' cls dd σ s' x => w H' s' cls dd x
    | no => exact w
    | ok z =>
      cases z with
      | nx ρ => exact fun O' H' σ' I' => w H' .non I'.base .non
      | ret d => exact fun H' v s h => w H' v s h
/-- .. a new list -/
theorem cal_ofO {x nm qual : Str} {st : Stmt} {f : Addr} {fd : FuncData} {N ps : List Str} {k : Nat} {M' : List Md} {fb : List D → Rs Fl} (F : Fun K.K nm qual st f fd) (S : FnScope N ps (defScope st)) (hm : K.mg x = some (.ref f)) (hb : Binds K.K fd ps [])
    (body : ∀ (cdv : Value) (A : Around) (outer : List Env) (s : Shared) (H : Hp) (E : XK), Room k (A.deeper (PyProof.Rows.envOfC qual (defScope st) s.heap.objs.size f cdv)) → Takes (DCx P w K base N qual st f cdv A outer s H E) (WD E) →
      PassesOwn (model P w) (DCx P w K base N qual st f cdv A outer s H E).A (DCx P w K base N qual st f cdv A outer s H E).env (DCx P w K base N qual st f cdv A outer s H E).xe → DSs owP (DCx P w K base N qual st f cdv A outer s H E) (WD E) (M0 ps.length N.length) (defBody st) M' fb) :
    Cal owR P w K base x (k + 1) ps.length (fDefO N.length fb) := by
  refine ⟨f, fd, ps, F.okX S (fun vs H Q E h => ?_) (fun cdv A outer s H vs Q E hr h => ?_), hm, F.kp, hb⟩
  · obtain ⟨_, _, h, _⟩ := h; exact h
  · obtain ⟨O, ds, hl, hal, hd, w⟩ := h
    obtain ⟨t, p, q⟩ := body cdv A outer s H E hr (takes_of rfl rfl rfl rfl) (passes_of rfl)
    refine ⟨t, p, ?_⟩
    have I := start_eok (N := N) hal hd
    rw [hl] at I
    refine q _ H ⟨O, [], false, fun _ => none⟩ O H _ _ _ (fun z => by cases z) I ?_
    unfold fDefO at w
    generalize fb (ds ++ List.replicate (N.length - ds.length) .none) = r at w ⊢
    cases r with
    | er e => exact fun H' cls dd σ s' x => w H' s' cls dd x
    | no => exact w
    | ok z =>
      cases z with
      | nx ρ => exact w.elim
      | ret d => exact fun H' v s h => w H' v s h
theorem Cal.sh {x : Str} {k n : Nat} {F : List D → Rs D} (C : Cal owR P w K base x k n F) : Cal shR P w K base x k n F := by
  obtain ⟨f, fd, ps, G, r⟩ := C
  refine ⟨f, fd, ps, G.imp fun vs H Q E ⟨O, ds, hl, hal, hd, w⟩ => ⟨O, ds, hl, hal, hd, ?_⟩, r⟩
  generalize F ds = r at w ⊢
  cases r with
  | er e => exact w
  | no => exact w
  | ok d =>
    rintro H' v s ⟨p, vs, ds, rfl, rfl, hp, h1, ha⟩
    exact w _ _ s (.lst (by rw [hide_at fun z => hal p z hp]; exact h1) (DqAll.mono (hide_less fun b h => .inl h) ha))
theorem Cal.mono {Rp : Tx → Rep} {x : Str} {j k n : Nat} {F : List D → Rs D} (C : Cal Rp P w K base x j n F) (h : j ≤ k) : Cal Rp P w K base x k n F := by
  obtain ⟨f, fd, ps, F, r⟩ := C
  exact ⟨f, fd, ps, F.mono h, r⟩
end
end FL
end
section
/-! FL, part H: more rules; the built-ins' facts; the end. -/
namespace FL
open PySem L2
theorem units65 {k : Nat} {A : Around} (r : Room k A) : A.units + 65 < cLine := by have := r.un; omega
theorem units1 {k : Nat} {A : Around} (r : Room k A) : A.units + 1 < cLine := by have := r.un; omega
/-- no built-in's name is bound by the text -/
structure Bn (mg : Str → Option Value) : Prop where
  len_ : mg "len" = none
  range_ : mg "range" = none
  isinstance_ : mg "isinstance" = none
  int_ : mg "int" = none
  bool_ : mg "bool" = none
  str_ : mg "str" = none
  list_ : mg "list" = none
  tuple_ : mg "tuple" = none
  min_ : mg "min" = none
  max_ : mg "max" = none
  sum_ : mg "sum" = none
  sorted_ : mg "sorted" = none
  set_ : mg "set" = none
  all_ : mg "all" = none
  dict_ : mg "dict" = none
  enumerate_ : mg "enumerate" = none
  reversed_ : mg "reversed" = none
section
variable {Rp : RP} {X : Cx} {W : L2.WX} {M M1 M2 M' : List Md} {e a b c tg : Expr} {F F1 F2 F3 : List D → Rs D} {B1 : List D → Rs Bool} {S1 S2 : List D → Rs Fl} {es : List Expr} {A : List D → Rs (List D)} {pos pos' : Pos} {st : Stmt} {rest body body2 : List Stmt}
/-! ### constants of the module -/
theorem de_globI {x : Str} {i : Int} (hg : Gl X x) (hm : ∃ t, X.mg x = some (.int i t)) (hd : (x == ("__debug__" : Str)) = false := by decide) : DE X W M (.Name x pos) (fC (.int i)) := by
  obtain ⟨t, hm⟩ := hm
  exact ⟨_, pe_glob (v := .int i) hg hm ⟨t, rfl⟩ hd, fun _ _ _ _ _ _ _ _ _ w => w.ok (.int i)⟩
theorem de_globS {x z : Str} (hg : Gl X x) (hm : ∃ t, X.mg x = some (.str z t)) (hd : (x == ("__debug__" : Str)) = false := by decide) : DE X W M (.Name x pos) (fC (.str z)) := by
  obtain ⟨t, hm⟩ := hm
  exact ⟨_, pe_glob (v := .str z) hg hm ⟨t, rfl⟩ hd, fun _ _ _ _ _ _ _ _ _ w => w.ok (.str z)⟩
def TupK (K : Tx) (x : Str) (ss : List Str) : Prop := ∃ a o its n, K.mg x = some (.ref a) ∧ K.K.lookup a = some o ∧ o.cls = .type "tuple" ∧ o.data = .seq its n ∧ its.size ≤ sizeLine ∧ Vals (ss.map V.str) its.toList
theorem db_globT {x : Str} {ss : List Str} (hg : Gl X x) (hm : TupK X.T x ss) (hd : (x == ("__debug__" : Str)) = false := by decide) : DB X W M (.Name x pos) (fC (.tuple (ss.map .str))) := by
  obtain ⟨a, o, its, n, hm, h1, h2, h3, h4, h5⟩ := hm
  exact ⟨_, pe_glob (v := .ref a) hg hm rfl hd, fun _ _ _ _ _ _ _ _ _ w => w.ok (.inr ⟨a, rfl, .inr (.inr ⟨ss, rfl, fun H => .inr ⟨o, its, n, h1, h2, h3, h4, h5⟩⟩)⟩)⟩
/-! ### slices of anything, lists put together -/
def dSl (d : D) (lo hi : Option Int) : Rs D := match d with
  | .list ds => .ok (.list (cutD ds lo hi))
  | .dict ((.none, .list ds) :: _) => .ok (.list (cutD ds lo hi))
  | .str z => if z.length ≤ 1000000 then .ok (.str (cutS z lo hi)) else .no
  | .tuple ds => if HT.sIx ds.length 0 lo = 0 ∧ HT.sIx ds.length ds.length hi = ds.length then .no else .ok (.tuple (cutD ds lo hi))
  | _ => .no
theorem de_slice {lo hi : Option Expr} {L U : List D → Rs (Option Int)} {p2 : Pos} (h : DB X W M e F) (hl : DPo X W M lo L) (hu : DPo X W M hi U) : DE X W M (.Subscript e (.Slice lo hi none p2) pos) (fSl dSl F L U) := by
  obtain ⟨t, p, q⟩ := h
  obtain ⟨tl, pl, ql⟩ := hl
  obtain ⟨tu, pu, qu⟩ := hu
  refine ⟨_, pe_slice (sl_list.or (sl_str.or sl_tup)) p pl pu, fun G H0 O0 O H σ ρ Q I w => q G H0 O0 O H σ ρ _ I (Wnt.bind w fun d H1 v s1 hd w1 => ql G H0 O0 O H1 σ ρ _ (I.mono s1) (Wnt.bind w1 fun l H2 l' s2 e2 w2 => qu G H0 O0 O H2 σ ρ _ ((I.mono s1).mono s2) (Wnt.bind w2 fun u H3 u' s3 e3 w3 => ?_)))⟩
  subst e2 e3
  have hd3 := (hd.mono s2).mono s3
  have I3 := ((I.mono s1).mono s2).mono s3
  unfold dSl at w3
  split at w3
  · obtain ⟨p, xs, rfl, hp, ax⟩ := hd3.list
    refine .inl ⟨p, xs, rfl, SqL.of hp, fun r hr => w3 _ _ (same_upd hr) (.lst ?_ (DqAll.mono (hide_same (same_upd hr)) (cut_dq ax _ _)))⟩
    rw [hide_at (I3.ne hr)]; exact upd_same
  · obtain ⟨ns, rfl, p, rfl, hp⟩ := scr_of hd3
    refine .inl ⟨p, _, rfl, hp, fun r hr => w3 _ _ (same_upd hr) (.lst ?_ (cut_dq DqAll.of_ints _ _))⟩
    rw [hide_at (I3.ne hr)]; exact upd_same
  · rename_i z
    split at w3
    · rename_i hz
      exact .inr (.inl ⟨z, hd3.str, Nat.le_trans hz (by decide), w3.ok (.str _)⟩)
    · exact w3.elim
  · rename_i ds
    split at w3
    · exact w3.elim
    · rename_i hn
      obtain ⟨p, xs, rfl, hp, ax⟩ := hd3.tuple
      refine .inr (.inr ⟨p, xs, rfl, hp, by rw [DqAll.length ax]; exact hn, fun r hr => w3 _ _ (same_upd hr) (.tup ?_ (DqAll.mono (hide_same (same_upd hr)) (cut_dq ax _ _)))⟩)
      rw [hide_at (I3.ne hr)]; exact upd_same
  · exact w3.elim
def dCatL : D → D → Rs D
  | .list a, .list b => if a.length + b.length ≤ 100000 then .ok (.list (a ++ b)) else .no
  | _, _ => .no
def dRepL : D → D → Rs D
  | .list a, .int n => if 0 ≤ n ∧ a.length * n.toNat ≤ 100000 ∧ n ≤ 100000 then .ok (.list (List.replicate n.toNat a).flatten) else .no
  | _, _ => .no
theorem do_cat (ha : DB X W M a F1) (hb : DB X W M b F2) : DO X W M (.BinOp a .Add b pos) (fB dCatL F1 F2) := by
  obtain ⟨ta, pa, qa⟩ := ha
  obtain ⟨tb, pb, qb⟩ := hb
  refine ⟨_, pe_op op_cat pa pb, fun G H0 O0 O H σ ρ Q I w => qa G H0 O0 O H σ ρ _ I (Wnt.bind w fun d H1 x s1 hd w1 => qb G H0 O0 O H1 σ ρ _ (I.mono s1) (Wnt.bind w1 fun e H2 y s2 he w2 => ?_))⟩
  unfold dCatL at w2
  split at w2
  · rename_i u v
    split at w2
    · rename_i c
      obtain ⟨p, xs, rfl, hp, ax⟩ := (hd.mono s2).list
      obtain ⟨q, ys, rfl, hq, ay⟩ := he.list
      exact ⟨p, q, xs, ys, rfl, rfl, hp, hq, by rw [DqAll.length ax, DqAll.length ay]; exact line_of c, fun r hr => w2 _ _ (same_upd hr) (ow_mk (s1.trans s2) hr (DqAll.append ax ay))⟩
    · exact w2.elim
  · exact w2.elim
theorem do_rep (ha : DB X W M a F1) (hb : DB X W M b F2) : DO X W M (.BinOp a .Mult b pos) (fB dRepL F1 F2) := by
  obtain ⟨ta, pa, qa⟩ := ha
  obtain ⟨tb, pb, qb⟩ := hb
  refine ⟨_, pe_op op_rep pa pb, fun G H0 O0 O H σ ρ Q I w => qa G H0 O0 O H σ ρ _ I (Wnt.bind w fun d H1 x s1 hd w1 => qb G H0 O0 O H1 σ ρ _ (I.mono s1) (Wnt.bind w1 fun e H2 y s2 he w2 => ?_))⟩
  unfold dRepL at w2
  split at w2
  · rename_i u n
    split at w2
    · rename_i c
      obtain ⟨p, xs, rfl, hp, ax⟩ := (hd.mono s2).list
      exact ⟨p, n, xs, rfl, he.int, hp, by omega, by omega, by rw [DqAll.length ax]; exact line_of c.2.1, fun r hr => w2 _ _ (same_upd hr) (ow_mk (s1.trans s2) hr (flat_rep (R := DqAll X.T (hide O H2)) .nil DqAll.append ax _))⟩
    · exact w2.elim
  · exact w2.elim
/-- list(range(n)) -/
def fListRg (it : List D → Rs (List D)) : List D → Rs D := fun ρ => (it ρ).bind fun ds => .ok (.list ds)
theorem rgV_eq (lo : Int) (n : Nat) : rgV lo (lo + n) = (List.range n).map fun (i : Nat) => V.int (lo + (i : Int)) := by
  unfold rgV
  have : (lo + (n : Int) - lo).toNat = n := by omega
  rw [this]
theorem rngD_dq {K : Tx} {H : Hp} (lo : Int) (n : Nat) : DqAll K H ((List.range n).map fun (i : Nat) => V.int (lo + (i : Int))) (rngD lo n) := by
  unfold rngD
  generalize List.range n = l
  induction l with
  | nil => exact .nil
  | cons i l ih => exact .cons (.int _) ih
theorem do_listRg1 {p p2 pos2 : Pos} (hc : X.calm = true) (hg : Gl X "list") (hm : X.mg "list" = none) (hg2 : Gl X "range") (hm2 : X.mg "range" = none) (ha : DE X W M a F)
    (na : starEach [a] X.env = (false, eval a X.env) :: starEach [] X.env := by rfl) (nb : starEach [.Call (.Name "range" p2) [a] [] pos2] X.env = (false, eval (.Call (.Name "range" p2) [a] [] pos2) X.env) :: starEach [] X.env := by rfl) :
    DO X W M (.Call (.Name "list" p) [.Call (.Name "range" p2) [a] [] pos2] [] pos) (fListRg (fItR1 F)) := by
  obtain ⟨t, pt, q⟩ := ha
  refine ⟨_, pe_listRg hc hg hm (prg_1 hg2 hm2 pt na) nb, fun G H0 O0 O H σ ρ Q I w => ?_⟩
  unfold fListRg fItR1 at w
  rw [Rs.assoc] at w
  refine q G H0 O0 O H σ ρ _ I (Wnt.bind w fun d H1 v s1 hd w1 => ?_)
  cases d with
  | int n =>
    simp only at w1
    split at w1
    · rename_i c
      refine ⟨n, by cases hd; rfl, ?_, fun r hr => ?_⟩
      · unfold RgOk
        have : (2 : Nat) ^ 24 = 16777216 := by decide
        omega
      · have e : rgV 0 n = (List.range n.toNat).map fun (i : Nat) => V.int (0 + (i : Int)) := by
          unfold rgV
          rw [Int.sub_zero]
        rw [e]
        exact w1 _ _ (same_upd hr) (ow_mk s1 hr (rngD_dq 0 n.toNat))
    · exact w1.elim
  | _ => exact w1.elim
/-- a slot that is given up -/
theorem dss_fgt (i : Nat) (h : DSs Rp X W (M.set i .no) body M' S1) : DSs Rp X W M body M' S1 := by
  obtain ⟨t, p, q⟩ := h
  exact ⟨_, p, fun G H0 O0 O H σ ρ E rw I w => q G H0 O0 O H σ ρ E rw I.forget w⟩
end
section
variable {P : Program} {w : World} {K : Tx} {base : Heap}
/-- a def of which nothing is told -/
theorem cal_no {Rp : Tx → Rep} {x nm qual : Str} {st : Stmt} {f : Addr} {fd : FuncData} {N ps : List Str} {k n : Nat} (F : Fun K.K nm qual st f fd) (S : FnScope N ps (defScope st)) (hm : K.mg x = some (.ref f)) (hb : Binds K.K fd ps []) : Cal Rp P w K base x (k + 1) n fun _ => .no := by
  refine ⟨f, fd, ps, F.okX (k := k) S (fun vs H Q E ⟨O, ds, hl, hal, hd, w⟩ => w.elim) (fun cdv A outer s H vs Q E hr ⟨O, ds, hl, hal, hd, w⟩ => w.elim), hm, F.kp, hb⟩
theorem blkOk_at {N N' : List Str} {sc sc' scope : Scope} {own : List (Str × Nat)} (h : N' = N) (h2 : sc' = sc) (h3 : blkC N' sc' scope own = true) : BlkOk N sc scope own := by
  subst h h2
  exact blkOk_by h3
/-- the law's own def, told by its place -/
theorem fnok_of {nm qual : Str} {st : Stmt} {f : Addr} {fd : FuncData} {N ps : List Str} {k : Nat} {M' : List Md} {fb : List D → Rs Fl} (F : Fun K.K nm qual st f fd) (S : FnScope N ps (defScope st))
    (body : ∀ (cdv : Value) (A : Around) (outer : List Env) (s : Shared) (H : Hp) (E : XK), Room k (A.deeper (PyProof.Rows.envOfC qual (defScope st) s.heap.objs.size f cdv)) → Takes (DCx P w K base N qual st f cdv A outer s H E) (WD E) →
      PassesOwn (model P w) (DCx P w K base N qual st f cdv A outer s H E).A (DCx P w K base N qual st f cdv A outer s H E).env (DCx P w K base N qual st f cdv A outer s H E).xe → DSs shP (DCx P w K base N qual st f cdv A outer s H E) (WD E) (M0 ps.length N.length) (defBody st) M' fb) :
    FnOk P w K.K K.mg base (L2.CX P w) (k + 1) f fd ps (spD shR K ps.length (fDef N.length fb)) := by
  refine F.okX S (fun vs H Q E h => ?_) (fun cdv A outer s H vs Q E hr h => ?_)
  · obtain ⟨_, _, h, _⟩ := h; exact h
  · obtain ⟨O, ds, hl, hal, hd, w⟩ := h
    obtain ⟨t, p, q⟩ := body cdv A outer s H E hr (takes_of rfl rfl rfl rfl) (passes_of rfl)
    refine ⟨t, p, ?_⟩
    have I := start_eok (N := N) hal hd
    rw [hl] at I
    refine q _ H ⟨O, [], false, fun _ => none⟩ O H _ _ _ (fun z => by cases z) I ?_
    unfold fDef at w
    generalize fb (ds ++ List.replicate (N.length - ds.length) .none) = r at w ⊢
    cases r with
    | er e => exact fun H' cls dd σ s' x => w H' s' cls dd x
    | no => exact w
    | ok z =>
      cases z with
      | nx ρ => exact fun O' H' σ' I' => w H' .non I'.base .non
      | ret d => exact fun H' v s h => w H' v s h
/-- the law's own promise -/
def spL (K : PySem.W.Frag) : Sp := fun vs H Q _ => ∃ (a : Addr) (ns : List Int), vs = [.ref a] ∧ ns.length ≤ 63 ∧ (∀ z ∈ ns, Builtin.Int.intBits z ≤ 1048576) ∧ SqL K H a (ns.map V.int) ∧ ∀ H', Q (.bl true) H'
theorem spL_of {K : Tx} {F : List D → Rs D} (hF : ∀ ns : List Int, ns.length ≤ 63 → (∀ z ∈ ns, Builtin.Int.intBits z ≤ 1048576) → F [scrD ns] = .ok (.bool true)) {vs : List V} {H : Hp} {Q : VK} {E : XK} (h : spL K.K vs H Q E) : spD shR K 1 F vs H Q E := by
  obtain ⟨a, ns, rfl, hl, hb, hS, q⟩ := h
  refine ⟨fun _ => False, [scrD ns], rfl, fun _ z => z.elim, .cons (.scr (by
      have e : hide (fun _ => False) H = H := by funext b; exact hide_at fun z => z
      rw [e]; exact hS)) .nil, by rw [hF ns hl hb]; exact fun H' v _ h => by cases h; exact q H'⟩
theorem walk {l : PySem.W.OpenLaw} {k : Nat} {F : List D → Rs D} {q : Program} {loose : List Str} {XP : (Str → Option Value) → Heap → Prop} {YP : World → Heap → Prop} {d : DefRec} {K : Params → PySem.W.Frag} (hn : l.most = some 63) (hdf : d.params.defaults = []) (hr : Room k PySem.callerA)
    (hY : ∀ (w : World) (h : Heap), YP w h → (K w.params).In h) (hF : ∀ ns : List Int, ns.length ≤ 63 → (∀ z ∈ ns, Builtin.Int.intBits z ≤ 1048576) → F [scrD ns] = .ok (.bool true))
    (C : ∀ (w : World) (mg : Str → Option Value) (fa : Addr) (h : Heap), (K w.params).In h → h.Ns mainGlobals mg → mg d.name = some (.ref fa) →
      ∃ fd : FuncData, (∀ (s : Shared) (u : Value), BindsTo s fd ⟨[u], []⟩ [("_law_script", u)]) ∧ ∀ base : Heap, (K w.params).In base → base.Ns mainGlobals mg → FnOk l.prog w (K w.params) mg base (L2.CX l.prog w) k fa fd ["_law_script"] (spD shR ⟨K w.params, mg⟩ 1 F)) :
    PySem.W.WalkO q loose XP YP l.row.toRowW d [] (fun f vs => PySem.call f vs) :=
  L2.walk_ofB (n := 63) (k := k) (x := "_law_script") (CX := fun w => L2.CX l.prog w) (sp := fun w => spL (K w.params)) hn (by decide) hdf hr hY
    (fun w mg fa h a b c => let ⟨fd, h1, h2⟩ := C w mg fa h a b c; ⟨fd, h1, fun base a b => (h2 base a b).imp fun vs H Q E z => spL_of (K := ⟨K w.params, mg⟩) hF z⟩)
    (fun w H a ns hl hb _ hS => ⟨a, ns, rfl, hl, hb, hS, fun _ => rfl⟩) fun w H s e s' z => by
      obtain ⟨_, _, _, _, _, _, _, _, _, _, _, _, z⟩ := z
      exact z
end
end FL
end
section
/-! FL, part I: dicts, texts walked, sets that are sorted, max with a default. -/
namespace FL
open PySem L2
def tT (F : List D → Rs D) : List D → Rs Bool := fun ρ => tB (F ρ)
/-! ### dicts -/
def keyOf : D → Option Key
  | .int i => some (.inl i)
  | .str x => some (.inr x)
  | _ => none
theorem keyOf_kD (k : Key) : keyOf (kD k) = some k := by cases k <;> rfl
theorem keyOf_eq {d : D} {k : Key} (h : keyOf d = some k) : d = kD k := by
  cases d <;> first | (cases h; rfl) | cases h
/-- all keys are ints or texts -/
def isK (ds : List (D × D)) : Bool := ds.all fun kv => (keyOf kv.1).isSome
def getD' (ds : List (D × D)) (k : Key) : Option D := (ds.find? fun kv => decide (keyOf kv.1 = some k)).map (·.2)
def putD (ds : List (D × D)) (k : Key) (d : D) : List (D × D) :=
  if (ds.any fun kv => decide (keyOf kv.1 = some k)) = true then ds.map (fun kv => if keyOf kv.1 = some k then (kv.1, d) else kv) else ds ++ [(kD k, d)]
theorem getD_cons {kv : D × D} {ds : List (D × D)} {k : Key} : getD' (kv :: ds) k = if keyOf kv.1 = some k then some kv.2 else getD' ds k := by
  unfold getD'
  by_cases h : keyOf kv.1 = some k
  · simp [List.find?_cons, h]
  · simp [List.find?_cons, h]
theorem dkAll_isK {K : Tx} {H : Hp} : ∀ {ds : List (D × D)} {kvs : List (Key × V)}, DkAll K H kvs ds → isK ds = true
  | _, _, .nil => rfl
  | _, _, .cons (k := k) r t => by
    unfold isK
    rw [List.all_cons, keyOf_kD]
    exact dkAll_isK t
theorem dkAll_val {K : Tx} {H : Hp} {k : Key} : ∀ {ds : List (D × D)} {kvs : List (Key × V)}, DkAll K H kvs ds → (valV kvs k).isSome = (getD' ds k).isSome ∧ ∀ d, getD' ds k = some d → ∃ v, valV kvs k = some v ∧ Dq K H v d
  | _, _, .nil => ⟨rfl, fun d h => by cases h⟩
  | _, _, .cons (k := k') (v := v) (d := d') (kvs := kvs) (ds := ds) r t => by
    obtain ⟨h1, h2⟩ := dkAll_val (k := k) t
    rw [getD_cons]
    show _ = (if keyOf (kD k') = some k then some d' else getD' ds k).isSome ∧ ∀ d, (if keyOf (kD k') = some k then some d' else getD' ds k) = some d → _
    rw [keyOf_kD]
    by_cases e : k' = k
    · subst e
      rw [if_pos rfl, valV_pos rfl]
      exact ⟨rfl, fun d hd => by cases hd; exact ⟨v, rfl, r⟩⟩
    · rw [if_neg fun z => e (Option.some.inj z), valV_neg e]
      exact ⟨h1, h2⟩
theorem dkAll_map {K : Tx} {H : Hp} {k : Key} {v : V} {d : D} (r : Dq K H v d) : ∀ {ds : List (D × D)} {kvs : List (Key × V)}, DkAll K H kvs ds →
    DkAll K H (kvs.map fun kv => if kv.1 = k then (kv.1, v) else kv) (ds.map fun kv => if keyOf kv.1 = some k then (kv.1, d) else kv)
  | _, _, .nil => .nil
  | _, _, .cons (k := k') q t => by
    rw [List.map_cons, List.map_cons]
    show DkAll K H ((if k' = k then (k', v) else _) :: _) ((if keyOf (kD k') = some k then (kD k', d) else _) :: _)
    rw [keyOf_kD]
    by_cases e : k' = k
    · rw [if_pos e, if_pos (by rw [e])]
      exact .cons r (dkAll_map r t)
    · rw [if_neg e, if_neg fun z => e (Option.some.inj z)]
      exact .cons q (dkAll_map r t)
theorem dkAll_append {K : Tx} {H : Hp} {k : Key} {v : V} {d : D} (r : Dq K H v d) : ∀ {ds : List (D × D)} {kvs : List (Key × V)}, DkAll K H kvs ds → DkAll K H (kvs ++ [(k, v)]) (ds ++ [(kD k, d)])
  | _, _, .nil => .cons r .nil
  | _, _, .cons q t => .cons q (dkAll_append r t)
theorem dkAll_any {K : Tx} {H : Hp} {k : Key} : ∀ {ds : List (D × D)} {kvs : List (Key × V)}, DkAll K H kvs ds → (kvs.any fun kv => decide (kv.1 = k)) = (ds.any fun kv => decide (keyOf kv.1 = some k))
  | _, _, .nil => rfl
  | _, _, .cons (k := k') q t => by
    rw [List.any_cons, List.any_cons, dkAll_any t]
    congr 1
    show decide (k' = k) = decide (keyOf (kD k') = some k)
    rw [keyOf_kD]
    simp
theorem dkAll_put {K : Tx} {H : Hp} {k : Key} {v : V} {d : D} {ds : List (D × D)} {kvs : List (Key × V)} (r : Dq K H v d) (h : DkAll K H kvs ds) : DkAll K H (putK kvs k v) (putD ds k d) := by
  unfold putK putD
  rw [dkAll_any h]
  split
  · exact dkAll_map r h
  · exact dkAll_append r h
def dDget : D → D → Rs D
  | .dict ds, k => if isK ds = true then match keyOf k with
    | some key => match getD' ds key with
      | some d => .ok d
      | none => .no
    | none => .no
    else .no
  | _, _ => .no
def dDin : D → D → Rs D
  | k, .dict ds => if isK ds = true then match keyOf k with
    | some key => .ok (.bool (getD' ds key).isSome)
    | none => .no
    else .no
  | _, _ => .no
def dDnin : D → D → Rs D
  | k, .dict ds => if isK ds = true then match keyOf k with
    | some key => .ok (.bool (!(getD' ds key).isSome))
    | none => .no
    else .no
  | _, _ => .no
theorem isK_hd {ds : List (D × D)} (h : isK ds = true) : hdK ds = true := by
  cases ds with
  | nil => rfl
  | cons kv ds =>
    obtain ⟨k, v⟩ := kv
    unfold isK at h
    rw [List.all_cons, Bool.and_eq_true] at h
    cases k <;> first | rfl | cases h.1
theorem dq_key {K : Tx} {O : Addr → Prop} {H : Hp} {v : V} {k : D} {key : Key} (h : Bp K O H v k) (e : keyOf k = some key) : v = kV key := by
  have := keyOf_eq e
  subst this
  cases key with
  | inl i => exact h.int
  | inr x => exact h.str
section
variable {Rp : RP} {X : Cx} {W : L2.WX} {M M1 M2 M' : List Md} {e a b c tg : Expr} {F F1 F2 F3 : List D → Rs D} {B1 : List D → Rs Bool} {S1 S2 : List D → Rs Fl} {es : List Expr} {A : List D → Rs (List D)} {pos pos' : Pos} {st : Stmt} {rest body body2 : List Stmt}
theorem bp_get {K : Tx} {O : Addr → Prop} {H : Hp} {v : V} {ds : List (D × D)} (h : Bp K O H v (.dict ds)) (hk : isK ds = true) : ∃ p kvs, v = .ref p ∧ Rd H p (.dK kvs) ∧ DkAll K (hide O H) kvs ds := h.dict (isK_hd hk)
theorem dget_rd {H : Hp} {a : Addr} {kvs : List (Key × V)} {k : Key} (e : Rd H a (.dK kvs)) : DGet H a (kV k) (valV kvs k) := .inl ⟨kvs, k, e, rfl, rfl⟩
theorem de_dget (hu : X.A.units + 1 < cLine) (ha : DB X W M a F1) (hb : DE X W M b F2) (hs : NoSl b := by intro _ _; rfl) : DE X W M (.Subscript a b pos) (fB dDget F1 F2) := by
  obtain ⟨ta, pa, qa⟩ := ha
  obtain ⟨tb, pb, qb⟩ := hb
  refine ⟨_, pe_dget hu pa pb hs, fun G H0 O0 O H σ ρ Q I w => qa G H0 O0 O H σ ρ _ I (Wnt.bind w fun d H1 x s1 hd w1 => qb G H0 O0 O H1 σ ρ _ (I.mono s1) (Wnt.bind w1 fun e H2 y s2 he w2 => ?_))⟩
  unfold dDget at w2
  split at w2
  · rename_i ds k
    split at w2
    · rename_i hk
      split at w2
      · rename_i key hkey
        obtain ⟨p, kvs, rfl, hp, hall⟩ := bp_get (hd.mono s2) hk
        have ey : y = kV key := dq_key (.inl he) hkey
        subst ey
        split at w2
        · rename_i d hg
          obtain ⟨v, hv, q⟩ := (dkAll_val hall).2 d hg
          exact ⟨p, v, rfl, by rw [← hv]; exact dget_rd hp, w2.ok q⟩
        · exact w2.elim
      · exact w2.elim
    · exact w2.elim
  · exact w2.elim
theorem din_run {neg : Bool} {f : D → D → Rs D} (hf : f = if neg then dDnin else dDin) {W' : D → Hp → Prop} {O : Addr → Prop} {H : Hp} {x y : V} {k d : D} {Q : VK} (hy : Bp X.T O H y k) (hx : Bp X.T O H x d) (w : Wnt W' (fun H' v z => Dq X.T (hide O H') v z) H (f k d) Q) :
    ∃ a o, x = .ref a ∧ DGet H a y o ∧ Q (.bl (if neg then !o.isSome else o.isSome)) H := by
  have key : ∀ ds, d = .dict ds → isK ds = true → ∀ q, keyOf k = some q → ∃ a o, x = .ref a ∧ DGet H a y o ∧ o.isSome = (getD' ds q).isSome := by
    intro ds hd hk q hq
    subst hd
    obtain ⟨p, kvs, rfl, hp, hall⟩ := bp_get hx hk
    have ey : y = kV q := dq_key hy hq
    subst ey
    exact ⟨p, _, rfl, dget_rd hp, (dkAll_val hall).1⟩
  subst hf
  cases neg with
  | false =>
    simp only [Bool.false_eq_true, if_false] at w ⊢
    unfold dDin at w
    split at w
    · rename_i ds
      split at w
      · rename_i hk
        split at w
        · rename_i q hq
          obtain ⟨p, o, e1, e2, e3⟩ := key ds rfl hk q hq
          rw [← e3] at w
          exact ⟨p, o, e1, e2, w.ok (.bl _)⟩
        · exact w.elim
      · exact w.elim
    · exact w.elim
  | true =>
    simp only [if_true] at w ⊢
    unfold dDnin at w
    split at w
    · rename_i ds
      split at w
      · rename_i hk
        split at w
        · rename_i q hq
          obtain ⟨p, o, e1, e2, e3⟩ := key ds rfl hk q hq
          rw [← e3] at w
          exact ⟨p, o, e1, e2, w.ok (.bl _)⟩
        · exact w.elim
      · exact w.elim
    · exact w.elim
theorem de_din (hu : X.A.units + 1 < cLine) (ha : DE X W M a F1) (hb : DB X W M b F2) (hm : behindInMarks .In b = false := by rfl) : DE X W M (.Compare a [.In] [b] pos) (fB dDin F1 F2) := by
  obtain ⟨ta, pa, qa⟩ := ha
  obtain ⟨tb, pb, qb⟩ := hb
  refine ⟨_, pe_cmp (pc_din hu pa pb) hm, fun G H0 O0 O H σ ρ Q I w => qa G H0 O0 O H σ ρ _ I (Wnt.bind w fun d H1 x s1 hd w1 => qb G H0 O0 O H1 σ ρ _ (I.mono s1) (Wnt.bind w1 fun e H2 y s2 he w2 => ?_))⟩
  exact din_run (neg := false) rfl (.inl (Dq.mono (hide_same s2) hd)) he w2
theorem de_dnin (hu : X.A.units + 1 < cLine) (ha : DE X W M a F1) (hb : DB X W M b F2) (hm : behindInMarks .NotIn b = false := by rfl) : DE X W M (.Compare a [.NotIn] [b] pos) (fB dDnin F1 F2) := by
  obtain ⟨ta, pa, qa⟩ := ha
  obtain ⟨tb, pb, qb⟩ := hb
  refine ⟨_, pe_cmp (pc_dnotin hu pa pb) hm, fun G H0 O0 O H σ ρ Q I w => qa G H0 O0 O H σ ρ _ I (Wnt.bind w fun d H1 x s1 hd w1 => qb G H0 O0 O H1 σ ρ _ (I.mono s1) (Wnt.bind w1 fun e H2 y s2 he w2 => ?_))⟩
  exact din_run (neg := true) rfl (.inl (Dq.mono (hide_same s2) hd)) he w2
theorem dt_din (hu : X.A.units + 1 < cLine) (ha : DE X W M a F1) (hb : DB X W M b F2) (hm : behindInMarks .In b = false := by rfl) : DT X W M (.Compare a [.In] [b] pos) (tT (fB dDin F1 F2)) := by
  obtain ⟨ta, pa, qa⟩ := ha
  obtain ⟨tb, pb, qb⟩ := hb
  refine ⟨_, pt_cmp (pc_din hu pa pb) hm, fun G H0 O0 O H σ ρ Q I w0 => ?_⟩
  have w := Wnt.tB (Rp := fun H' v z => Dq X.T (hide O H') v z) w0 (fun H' v b q => by cases q; rfl)
  refine qa G H0 O0 O H σ ρ _ I (Wnt.bind w fun d H1 x s1 hd w1 => qb G H0 O0 O H1 σ ρ _ (I.mono s1) (Wnt.bind w1 fun e H2 y s2 he w2 => ?_))
  exact din_run (neg := false) rfl (.inl (Dq.mono (hide_same s2) hd)) he w2
theorem dt_dnin (hu : X.A.units + 1 < cLine) (ha : DE X W M a F1) (hb : DB X W M b F2) (hm : behindInMarks .NotIn b = false := by rfl) : DT X W M (.Compare a [.NotIn] [b] pos) (tT (fB dDnin F1 F2)) := by
  obtain ⟨ta, pa, qa⟩ := ha
  obtain ⟨tb, pb, qb⟩ := hb
  refine ⟨_, pt_cmp (pc_dnotin hu pa pb) hm, fun G H0 O0 O H σ ρ Q I w0 => ?_⟩
  have w := Wnt.tB (Rp := fun H' v z => Dq X.T (hide O H') v z) w0 (fun H' v b q => by cases q; rfl)
  refine qa G H0 O0 O H σ ρ _ I (Wnt.bind w fun d H1 x s1 hd w1 => qb G H0 O0 O H1 σ ρ _ (I.mono s1) (Wnt.bind w1 fun e H2 y s2 he w2 => ?_))
  exact din_run (neg := true) rfl (.inl (Dq.mono (hide_same s2) hd)) he w2
/-- x = {} -/
theorem d1_setD {x : Str} {p2 : Pos} (i : Nat) (hN : X.N.Nodup) (hi : X.N[i]? = some x := by rfl) (hl : i < M.length := by decide) (hx : Loc X.env.scope x := by first | exact .inl rfl | exact .inr rfl) (hs : swapsWith (.Dict [] [] p2) (some (.Name x pos')) pos.line X.env = pure false := by rfl) (hf : X.fn x = true ∨ X.env.scope.names.lookup x = some .local := by first | exact .inl rfl | exact .inr rfl | assumption) :
    DS1 Rp X W M (.Assign [.Name x pos'] (.Dict [] [] p2) pos) (M.set i .dk) (fSet i (fC (.dict []))) := by
  refine ⟨_, ps_set hN hi hx pe_dnewK hs hf, fun G H0 O0 O H σ ρ E rw I w => ?_⟩
  intro p hp
  exact w _ _ _ (I.adopt hl rfl (same_upd hp) hp (by rw [upd_same]; intro z; cases z) rfl fun _ => ⟨p, rfl, .inr rfl, I.base.free hp, [], [], rfl, upd_same, .nil⟩)
/-- x[k] = e, x an own dict -/
def fDput (i : Nat) (F K : List D → Rs D) : List D → Rs Fl := fun ρ => (F ρ).bind fun d => (K ρ).bind fun k => match ρ[i]?, keyOf k with
  | some (.dict ds), some key => if ds.length ≤ 100000 then .ok (.nx (ρ.set i (.dict (putD ds key d)))) else .no
  | _, _ => .no
theorem d1_dput {x : Str} {p1 p2 : Pos} (i : Nat) (hu : X.A.units + 1 < cLine) (h : DE X W M e F1) (hk : DE X W M b F2) (hm : M[i]? = some .dk := by rfl) (hN : X.N[i]? = some x := by rfl) (hv : Vis X.env.scope x := by first | exact Or.inl rfl | exact Or.inr (Or.inl rfl) | exact Or.inr (Or.inr rfl)) (hd : (x == ("__debug__" : Str)) = false := by decide) (hcd : (x == ("__classdict__" : Str)) = false := by decide)
    (hs : swapsWith e (some (.Subscript (.Name x p1) b p2)) pos.line X.env = pure false := by rfl) :
    DS1 Rp X W M (.Assign [.Subscript (.Name x p1) b p2] e pos) M (fDput i F1 F2) := by
  obtain ⟨t, p, q⟩ := h
  obtain ⟨tk, pk, qk⟩ := hk
  refine ⟨_, ps_dput hu (pe_var hN hv hd hcd) pk p hs, fun G H0 O0 O H σ ρ E rw I w => ?_⟩
  have li : i < M.length := (List.getElem?_eq_some_iff.mp hm).1
  obtain ⟨z, hz⟩ : ∃ z, ρ[i]? = some z := ⟨_, List.getElem?_eq_getElem (Nat.lt_of_lt_of_le li I.lr)⟩
  obtain ⟨p, e1, oO, h0, kvs, ds, e2, h1, h2⟩ := I.dk hm hz
  subst e2
  refine q G H0 O0 O H σ ρ _ I ?_
  unfold fDput at w
  rw [hz] at w
  generalize F1 ρ = r at w ⊢
  cases r with
  | er e => exact w
  | no => exact w
  | ok d =>
    intro H1 v s1 hv1
    refine ⟨_, e1, qk G H0 O0 O H1 σ ρ _ (I.mono s1) ?_⟩
    have w : EndOk1 Rp X.T W G H0 O0 M O H σ E ((F2 ρ).bind fun k => match some (PyData.dict ds), keyOf k with
      | some (.dict ds), some key => if ds.length ≤ 100000 then .ok (.nx (ρ.set i (.dict (putD ds key d)))) else .no
      | _, _ => .no) := w
    generalize F2 ρ = r at w ⊢
    cases r with
    | er e => exact fun H' s' => w H' (s1.trans s')
    | no => exact w
    | ok k =>
      intro H2 u s2 hu
      cases hkey : keyOf k with
      | none =>
        have w : EndOk1 Rp X.T W G H0 O0 M O H σ E (match some (PyData.dict ds), keyOf k with
          | some (.dict ds), some key => if ds.length ≤ 100000 then .ok (.nx (ρ.set i (.dict (putD ds key d)))) else .no
          | _, _ => .no) := w
        rw [hkey] at w; exact w.elim
      | some key =>
        have w : EndOk1 Rp X.T W G H0 O0 M O H σ E (match some (PyData.dict ds), keyOf k with
          | some (.dict ds), some key => if ds.length ≤ 100000 then .ok (.nx (ρ.set i (.dict (putD ds key d)))) else .no
          | _, _ => .no) := w
        rw [hkey] at w
        have w' : EndOk1 Rp X.T W G H0 O0 M O H σ E (if ds.length ≤ 100000 then .ok (.nx (ρ.set i (.dict (putD ds key d)))) else .no) := w
        split at w'
        · rename_i hl
          have ey : u = kV key := dq_key (O := O) (H := H2) (.inl hu) hkey
          subst ey
          refine ⟨p, _, rfl, DPut.k (s2 _ _ (s1 _ _ h1)) (by rw [DkAll.length h2]; exact line_lt hl), w' O _ _ (((I.mono s1).mono s2).change hm rfl e1 oO h0 fun _ hh => ?_)⟩
          exact ⟨p, rfl, oO, h0, _, _, rfl, upd_same, by rw [hh]; exact dkAll_put (Dq.mono (hide_same s2) hv1) (DkAll.mono (hide_same (s1.trans s2)) h2)⟩
        · exact w'.elim
/-! ### texts, walked -/
def signsD (x : Str) : List D := x.cps.toList.map fun c => .str ⟨#[c]⟩
def fItS (F : List D → Rs D) : List D → Rs (List D) := fun ρ => (F ρ).bind fun d => match d with
  | .str x => .ok (signsD x)
  | _ => .no
theorem itOk_str {K : Tx} {G B : Hp} (x : Str) : ItOk K G B (Its x) (signsD x) where
  go := fun i O H s _ hi => by unfold signsD at hi; rw [List.length_map, Array.length_toList] at hi; exact hi
  stop := fun i O H s _ hi => by unfold signsD at hi; rw [List.length_map, Array.length_toList] at hi; exact hi
  yld := fun i O H v H' s _ hi y => by
    obtain ⟨e, c, hc, rfl⟩ := y
    refine ⟨e, .str ⟨#[c]⟩, ?_, .str _⟩
    unfold signsD
    rw [List.getElem?_map, Array.getElem?_toList, hc]; rfl
theorem di_str (h : DE X W M e F) : DI X W M tg e (fItS F) := by
  obtain ⟨t, p, q⟩ := h
  refine ⟨_, pi_str p, fun G H0 O0 O H σ ρ R I w => q G H0 O0 O H σ ρ _ I (Wnt.bind w fun d H1 v s1 hd w1 => ?_)⟩
  split at w1
  · rename_i x
    cases hd with
    | str _ => exact ⟨x, rfl, w1.ok (itOk_str x)⟩
  · exact w1.elim
end
end FL
end
section
/-! FL, part X: own dicts walked (locked), own lists walked turn by turn. -/
namespace FL
open PySem L2
section
variable {K : Tx} {G H0 H H' : Hp} {O0 : Out} {O : Addr → Prop} {φ : List Addr} {M : List Md} {σ : L2.St} {ρ : List D} {i : Nat} {p : Addr} {u : HO}
open Classical in
/-- what a def does not see, and the locked thing at p of slot i -/
noncomputable def lkOut (O0 : Out) (i : Nat) (p : Addr) : Out := ⟨fun q => O0.p q ∨ q = p, O0.φ, O0.rw, fun k => if k = i then some p else O0.pin k⟩
theorem lk_get {M : List Md} {i j : Nat} {m : Md} (h : (M.set i .lk)[j]? = some m) (hj : i ≠ j) : M[j]? = some m := by rwa [List.getElem?_set_ne hj] at h
/-- the dict at slot i is locked -/
theorem EOkF.lock (I : EOkF K G H0 O0 M O φ H σ ρ) (hm : M[i]? = some .dk) {kvs : List (Key × V)} {od : Obj} (hσ : σ[i]? = some (some (.ref p))) (hO : O p) (h0 : H0 p = none) (hp : H p = some (.dK kvs)) {d : D} {ds : List (D × D)} (hd : ρ[i]? = some d) (ed : d = .dict ds) (hk : DkAll K (hide O H) kvs ds) :
    EOkF K G (upd H0 p (.frz od (.dK kvs))) (lkOut O0 i p) (M.set i .lk) O φ (upd H p (.frz od (.dK kvs))) σ ρ := by
  have hh := hide_upd (O := O) (H := H) (o := .frz od (.dK kvs)) hO
  have li := (List.getElem?_eq_some_iff.mp hm).1
  have pφ := I.sep i _ p hm rfl hσ
  have sh : Same (hide O H) (hide O (upd H p (.frz od (.dK kvs)))) := by rw [hh]; exact Same.refl _
  have al : ∀ b, H b ≠ none → upd H p (.frz od (.dK kvs)) b ≠ none := fun b h => by
    by_cases n : b = p
    · subst n; rw [upd_same]; intro z; cases z
    · rw [upd_ne n]; exact h
  refine ⟨by rw [hh]; exact I.gs, fun b o e => ?_, fun q h => ?_, fun q h => ?_, fun b h => al b (I.alive b h), fun q h => ?_, I.pre, fun a h => ?_, I.nod, fun a h => al a (I.liv a h), by rw [List.length_set]; exact I.ls, by rw [List.length_set]; exact I.lr, fun j mj x e h1 h2 h3 => ?_, fun a b ma mb q hab h1 h2 o1 o2 h3 h4 => ?_, fun j mj q h1 o1 h3 => ?_, fun j mj h1 o1 => ?_, fun e h => ?_⟩
  · by_cases n : b = p
    · subst n; rw [upd_same] at e ⊢; exact e
    · rw [upd_ne n] at e ⊢; exact I.base b o e
  · rcases h with h | h
    · exact I.sub q h
    · rw [h]; exact hO
  · by_cases n : q = p
    · subst n; rw [upd_same]; intro z; cases z
    · rw [upd_ne n]
      rcases h with h | h
      · exact I.al0 q h
      · exact absurd h n
  · by_cases n : q = p
    · exact .inl (.inr n)
    · rw [upd_ne n]
      rcases I.fr q h with h | h
      · exact .inl (.inl h)
      · exact .inr h
  · rcases I.nw a h with z | z
    · exact .inl z
    · exact .inr (by rw [upd_ne (fun e : a = p => pφ (by rw [← e]; exact h))]; exact z)
  · by_cases hj : i = j
    · subst hj
      rw [List.getElem?_set_self li] at h1
      cases h1
      rw [hσ] at h2; cases h2
      rw [hd] at h3; cases h3
      exact ⟨p, rfl, hO, od, kvs, ds, ed, upd_same, DkAll.mono sh hk, upd_same⟩
    · have h1' := lk_get h1 hj
      have ne : ∀ q, mj.own = true → x = some (.ref q) → q ≠ p := fun q o1 e1 z => by
        subst z e1
        exact I.dist i j _ _ q hj hm h1' rfl o1 hσ h2
      have := (I.slot j mj x e h1' h2 h3).keep sh (pre_refl (φ := φ)) fun q o1 e1 oq _ => ⟨upd_ne (ne q o1 e1), oq⟩
      cases mj with
      | no => trivial
      | sh => exact this
      | vr => exact this
      | lk => obtain ⟨q, e1, k1, od, k2, k3, k4, k5, k6, k7⟩ := this; exact ⟨q, e1, k1, od, k2, k3, k4, k5, k6, by rw [upd_ne (ne q rfl e1)]; exact k7⟩
      | ow => obtain ⟨q, e1, k1, k2, k3⟩ := this; exact ⟨q, e1, k1, by rw [upd_ne (ne q rfl e1)]; exact k2, k3⟩
      | dk => obtain ⟨q, e1, k1, k2, k3⟩ := this; exact ⟨q, e1, k1, by rw [upd_ne (ne q rfl e1)]; exact k2, k3⟩
      | pn => obtain ⟨q, e1, k1, k2, k3, k4, k5, k6, k7⟩ := this; exact ⟨q, e1, k1, k2, k3, k4, k5, k6, by rw [upd_ne (ne q rfl e1)]; exact k7⟩
  · have get : ∀ {a : Nat} {m : Md}, (M.set i .lk)[a]? = some m → m.own = true → ∃ m', M[a]? = some m' ∧ m'.own = true := fun {a m} h o => by
      by_cases ha : i = a
      · subst ha; exact ⟨_, hm, rfl⟩
      · exact ⟨m, lk_get h ha, o⟩
    obtain ⟨m1, g1, g2⟩ := get h1 o1
    obtain ⟨m2, g3, g4⟩ := get h2 o2
    exact I.dist a b m1 m2 q hab g1 g3 g2 g4 h3 h4
  · by_cases hj : i = j
    · subst hj
      rw [hσ] at h3; cases h3; exact pφ
    · exact I.sep j mj q (lk_get h1 hj) o1 h3
  · by_cases hj : i = j
    · subst hj
      exact ⟨p, if_pos rfl, hσ⟩
    · obtain ⟨q, e1, e2⟩ := I.pins j mj (lk_get h1 hj) o1
      exact ⟨q, by unfold lkOut; simp only [if_neg (Ne.symm hj)]; exact e1, e2⟩
  · rw [List.length_set] at h
    obtain ⟨S, e1, q⟩ := I.st e h
    refine ⟨S, e1, q.len, fun j a d h1 h2 h3 => ?_⟩
    obtain ⟨k1, k2, k3⟩ := q.node j a d h1 h2 h3
    have na : a ≠ p := fun z => pφ (z ▸ List.mem_of_getElem? h1)
    exact ⟨k1, fun w => by rw [upd_ne na]; exact k2 w, k3.keep sh pre_refl (upd_ne na)⟩
/-- the heap with the dict unlocked -/
theorem same_unlock {H0 H : Hp} {p : Addr} {o u : HO} (h0 : H0 p = none) (s : Same (upd H0 p o) H) : Same H0 (upd H p u) := fun b x e => by
  have n : b ≠ p := ne_of_none e h0
  rw [upd_ne n]; exact s b x (by rw [upd_ne n]; exact e)
theorem EOkF.unlock {kvs : List (Key × V)} {od : Obj} (I : EOkF K G (upd H0 p (.frz od (.dK kvs))) (lkOut O0 i p) M O φ H σ ρ) (hm : M[i]? = some .lk) (h0 : H0 p = none) (hal : ∀ q, O0.p q → H0 q ≠ none) :
    H p = some (.frz od (.dK kvs)) ∧ EOkF K G H0 O0 (M.set i .dk) O φ (upd H p (.dK kvs)) σ ρ := by
  have hp : H p = some (.frz od (.dK kvs)) := I.base p _ upd_same
  have li := (List.getElem?_eq_some_iff.mp hm).1
  obtain ⟨p', ep, hσ⟩ := I.pins i _ hm rfl
  have : p' = p := by
    unfold lkOut at ep; simp only [if_true] at ep
    injection ep with ep; exact ep.symm
  subst this
  have hρ : ρ[i]? = some (ρ[i]'(Nat.lt_of_lt_of_le li I.lr)) := List.getElem?_eq_getElem _
  have hsl := I.slot i _ _ _ hm hσ hρ
  obtain ⟨q, e1, hO, od', kvs', ds, ed, hp', hk, _⟩ := hsl
  cases e1
  rw [hp] at hp'
  injection hp' with hp'
  injection hp' with _ hp'
  injection hp' with hp'
  subst hp'
  refine ⟨hp, ?_⟩
  have pφ := I.sep i _ p' hm rfl hσ
  have hh := hide_upd (O := O) (H := H) (o := .dK kvs) hO
  have sh : Same (hide O H) (hide O (upd H p' (.dK kvs))) := by rw [hh]; exact Same.refl _
  have al : ∀ b, H b ≠ none → upd H p' (.dK kvs) b ≠ none := fun b h => by
    by_cases n : b = p'
    · subst n; rw [upd_same]; intro z; cases z
    · rw [upd_ne n]; exact h
  have gt : ∀ {j : Nat} {m : Md}, (M.set i .dk)[j]? = some m → i ≠ j → M[j]? = some m := fun h hj => by rwa [List.getElem?_set_ne hj] at h
  refine ⟨by rw [hh]; exact I.gs, same_unlock h0 I.base, fun q h => I.sub q (.inl h), hal, fun b h => al b (I.alive b h), fun q h => ?_, I.pre, fun a h => ?_, I.nod, fun a h => al a (I.liv a h), by rw [List.length_set]; exact I.ls, by rw [List.length_set]; exact I.lr, fun j mj x e h1 h2 h3 => ?_, fun a b ma mb q hab h1 h2 o1 o2 h3 h4 => ?_, fun j mj q h1 o1 h3 => ?_, fun j mj h1 o1 => ?_, fun e h => ?_⟩
  · by_cases n : q = p'
    · subst n; exact .inr h0
    · rcases I.fr q h with h | h
      · rcases h with h | h
        · exact .inl h
        · exact absurd h n
      · rw [upd_ne n] at h; exact .inr h
  · rcases I.nw a h with z | z
    · exact .inl z
    · exact .inr (by rw [upd_ne (fun e : a = p' => pφ (by rw [← e]; exact h))] at z; exact z)
  · by_cases hj : i = j
    · subst hj
      rw [List.getElem?_set_self li] at h1
      cases h1
      rw [hσ] at h2; cases h2
      rw [hρ] at h3; cases h3
      exact ⟨p', rfl, hO, h0, kvs, ds, ed, upd_same, DkAll.mono sh hk⟩
    · have h1' := gt h1 hj
      have ne : ∀ q, mj.own = true → x = some (.ref q) → q ≠ p' := fun q o1 e1 z => by
        subst z e1
        exact I.dist i j _ _ q hj hm h1' rfl o1 hσ h2
      have := (I.slot j mj x e h1' h2 h3).keep sh (pre_refl (φ := φ)) fun q o1 e1 oq _ => ⟨upd_ne (ne q o1 e1), oq⟩
      cases mj with
      | no => trivial
      | sh => exact this
      | vr => exact this
      | lk => obtain ⟨q, e1, k1, od, k2, k3, k4, k5, k6, k7⟩ := this; exact ⟨q, e1, k1, od, k2, k3, k4, k5, k6, by rw [upd_ne (ne q rfl e1)] at k7; exact k7⟩
      | ow => obtain ⟨q, e1, k1, k2, k3⟩ := this; exact ⟨q, e1, k1, by rw [upd_ne (ne q rfl e1)] at k2; exact k2, k3⟩
      | dk => obtain ⟨q, e1, k1, k2, k3⟩ := this; exact ⟨q, e1, k1, by rw [upd_ne (ne q rfl e1)] at k2; exact k2, k3⟩
      | pn => obtain ⟨q, e1, k1, k2, k3, k4, k5, k6, k7⟩ := this; exact ⟨q, e1, k1, k2, k3, k4, k5, k6, by rw [upd_ne (ne q rfl e1)] at k7; exact k7⟩
  · have get : ∀ {a : Nat} {m : Md}, (M.set i .dk)[a]? = some m → m.own = true → ∃ m', M[a]? = some m' ∧ m'.own = true := fun {a m} h o => by
      by_cases ha : i = a
      · subst ha; exact ⟨_, hm, rfl⟩
      · exact ⟨m, gt h ha, o⟩
    obtain ⟨m1, g1, g2⟩ := get h1 o1
    obtain ⟨m2, g3, g4⟩ := get h2 o2
    exact I.dist a b m1 m2 q hab g1 g3 g2 g4 h3 h4
  · by_cases hj : i = j
    · subst hj
      rw [hσ] at h3; cases h3; exact pφ
    · exact I.sep j mj q (gt h1 hj) o1 h3
  · by_cases hj : i = j
    · subst hj
      rw [List.getElem?_set_self li] at h1; cases h1; cases o1
    · obtain ⟨q, e1, e2⟩ := I.pins j mj (gt h1 hj) o1
      exact ⟨q, by unfold lkOut at e1; simp only [if_neg (Ne.symm hj)] at e1; exact e1, e2⟩
  · rw [List.length_set] at h
    obtain ⟨S, e1, q⟩ := I.st e h
    refine ⟨S, e1, q.len, fun j a d h1 h2 h3 => ?_⟩
    obtain ⟨k1, k2, k3⟩ := q.node j a d h1 h2 h3
    have na : a ≠ p' := fun z => pφ (z ▸ List.mem_of_getElem? h1)
    exact ⟨k1, fun w => by have := k2 w; rw [upd_ne na] at this; exact this, k3.keep sh pre_refl (upd_ne na)⟩
end
/-- returns and errors are told alike from behind a lock -/
structure LkRP (P : RP) : Prop where
  rt : ∀ {K : Tx} {H0 H : Hp} {O0 : Out} {i : Nat} {p : Addr} {o u : HO} {v : V} {d : D}, H0 p = none → Same (upd H0 p o) H → P.rt K (lkOut O0 i p) (upd H0 p o) H v d → P.rt K O0 H0 (upd H p u) v d
  xt : ∀ {K : Tx} {H0 H : Hp} {O0 : Out} {i : Nat} {p : Addr} {o : HO} {cls : Value} {dd : Option Addr} {e : D}, H0 p = none → Same (upd H0 p o) H → P.xt K (lkOut O0 i p) (upd H0 p o) H cls dd e → P.xt K O0 H0 H cls dd e
theorem hide_lk {O : Addr → Prop} {H : Hp} {p : Addr} {u : HO} : Same (hide (fun q => O q ∨ q = p) H) (hide O (upd H p u)) := fun b o e => by
  obtain ⟨n, e⟩ := hide_some e
  have n1 : b ≠ p := fun z => n (.inr z)
  rw [hide_at fun z => n (.inl z), upd_ne n1]; exact e
theorem lk_sh : LkRP shP where
  rt := fun _ _ q => Dq.mono hide_lk q
  xt := fun _ _ q => ExR.keep (hide_less fun _ h => .inl h) q
theorem lk_ow : LkRP owP where
  rt := fun {K H0 H O0 i p o u v d} h0 s q => by
    obtain ⟨r, vs, ds, e1, e2, hr, hr', ha⟩ := q
    have n : r ≠ p := fun z => by subst z; rw [upd_same] at hr; cases hr
    refine ⟨r, vs, ds, e1, e2, by rw [upd_ne n] at hr; exact hr, by rw [upd_ne n]; exact hr', DqAll.mono (fun b x e => ?_) ha⟩
    obtain ⟨k, e⟩ := hide_some e
    have n1 : b ≠ p := fun z => k (.inl (.inr z))
    rw [hide_at (fun z => z.elim (fun z => k (.inl (.inl z))) fun z => k (.inr z)), upd_ne n1]; exact e
  xt := fun _ _ q => ExR.keep (hide_less fun _ h => .inl h) q
section
variable {Rp : RP} {X : Cx} {W : L2.WX} {M M1 M2 M' : List Md} {e a b c tg : Expr} {F F1 F2 F3 : List D → Rs D} {B1 : List D → Rs Bool} {S1 S2 : List D → Rs Fl} {es : List Expr} {A : List D → Rs (List D)} {pos pos' : Pos} {st : Stmt} {rest body body2 : List Stmt}
/-- a name whose dict is walked: read alone -/
theorem db_lk {x : Str} (i : Nat) (hm : M[i]? = some .lk := by rfl) (hN : X.N[i]? = some x := by rfl) (hv : Vis X.env.scope x := by first | exact Or.inl rfl | exact Or.inr (Or.inl rfl) | exact Or.inr (Or.inr rfl)) (hd : (x == ("__debug__" : Str)) = false := by decide) (hcd : (x == ("__classdict__" : Str)) = false := by decide) :
    DB X W M (.Name x pos) (fVar i) := by
  refine ⟨_, pe_var hN hv hd hcd, fun G H0 O0 O H σ ρ Q I w => ?_⟩
  unfold fVar at w
  cases hr : ρ[i]? with
  | none => rw [hr] at w; exact w.elim
  | some d =>
    rw [hr] at w
    have hi : i < σ.length := by rw [I.ls]; exact (List.getElem?_eq_some_iff.mp hm).1
    obtain ⟨φ, J⟩ := I
    obtain ⟨p, e1, _, od, kvs, ds, e2, h1, h2, h3⟩ := J.slot i _ _ _ hm (List.getElem?_eq_getElem hi) hr
    exact ⟨_, by rw [List.getElem?_eq_getElem hi, e1], w.ok (.inr ⟨p, rfl, .inr (.inl ⟨kvs, ds, e2, .inr ⟨od, h1⟩, h2⟩)⟩)⟩
/-- the keys of the dict at slot i -/
def fItK (i : Nat) : List D → Rs (List D) := fun ρ => match ρ[i]? with
  | some (.dict ds) => .ok (ds.map (·.1))
  | _ => .no
theorem itOk_keys {K : Tx} {G B : Hp} {p : Addr} {od : Obj} {kvs : List (Key × V)} {ds : List (D × D)} (hp : B p = some (.frz od (.dK kvs))) (hk : DkAll K G kvs ds) : ItOk K G B (Itk p od kvs) (ds.map (·.1)) where
  go := fun i O H _ s hi => ⟨s _ _ hp, by rw [DkAll.length hk]; rw [List.length_map] at hi; exact hi⟩
  stop := fun i O H _ s hi => ⟨s _ _ hp, by rw [DkAll.length hk]; rw [List.length_map] at hi; exact hi⟩
  yld := fun i O H x H' _ s hi y => by
    obtain ⟨e, k, v, h1, h2⟩ := y
    have hks : DqAll K (hide O H) (kvs.map fun kv => kV kv.1) (ds.map (·.1)) := dk_keys hk
    have : (kvs.map fun kv => kV kv.1)[i]? = some x := by rw [List.getElem?_map, h1, h2]; rfl
    obtain ⟨d, h3, h4⟩ := DqAll.getV hks this
    exact ⟨e, d, h3, h4⟩
theorem di_lk {x : Str} (i : Nat) (hm : M[i]? = some .lk := by rfl) (hN : X.N[i]? = some x := by rfl) (hv : Vis X.env.scope x := by first | exact Or.inl rfl | exact Or.inr (Or.inl rfl) | exact Or.inr (Or.inr rfl)) (hd : (x == ("__debug__" : Str)) = false := by decide) (hcd : (x == ("__classdict__" : Str)) = false := by decide) :
    DI X W M tg (.Name x pos) (fItK i) := by
  refine ⟨_, pi_keys (pe_var hN hv hd hcd), fun G H0 O0 O H σ ρ R I w => ?_⟩
  unfold fItK at w
  cases hr : ρ[i]? with
  | none => rw [hr] at w; exact w.elim
  | some d =>
    rw [hr] at w
    have hi : i < σ.length := by rw [I.ls]; exact (List.getElem?_eq_some_iff.mp hm).1
    obtain ⟨φ, J⟩ := I
    obtain ⟨p, e1, _, od, kvs, ds, e2, h1, h2, h3⟩ := J.slot i _ _ _ hm (List.getElem?_eq_getElem hi) hr
    subst e2
    exact ⟨_, by rw [List.getElem?_eq_getElem hi, e1], p, od, rfl, .inl ⟨kvs, h1, w.ok (itOk_keys h3 h2)⟩⟩
/-- a value told while the dict at slot i is locked; nothing is raised -/
theorem ow_unlock {K : Tx} {O : Addr → Prop} {H H' : Hp} {p : Addr} {o u : HO} {v : V} {d : D} (hO : O p) (hp : H p ≠ none) (h : owR K O (upd H p o) H' v d) : owR K O H (upd H' p u) v d := by
  obtain ⟨r, vs, ds, e1, e2, hr, hr', ha⟩ := h
  have n : r ≠ p := fun z => by subst z; rw [upd_same] at hr; cases hr
  refine ⟨r, vs, ds, e1, e2, by rw [upd_ne n] at hr; exact hr, by rw [upd_ne n]; exact hr', ?_⟩
  rw [hide_upd (.inl hO)]; exact ha
theorem same_lock {H H' : Hp} {p : Addr} {o u : HO} (hp : H p = some u) (s : Same (upd H p o) H') : Same H (upd H' p u) := fun b x e => by
  by_cases n : b = p
  · subst n; rw [hp] at e; rw [upd_same]; exact e
  · rw [upd_ne n]; exact s b x (by rw [upd_ne n]; exact e)
theorem do_lock (i : Nat) (h : DO X W (M.set i .lk) e F) (hne : ∀ ρ x, F ρ ≠ .er x) (hm : M[i]? = some .dk := by rfl) : DO X W M e F := by
  obtain ⟨t, p, q⟩ := h
  refine ⟨_, pe_lock p, fun G H0 O0 O H σ ρ Q I w => ?_⟩
  have hl : i < ρ.length := Nat.lt_of_lt_of_le (List.getElem?_eq_some_iff.mp hm).1 I.lr
  obtain ⟨a, e1, hO, h0, kvs, ds, ed, hp, hk⟩ := I.dk hm (List.getElem?_eq_getElem hl)
  obtain ⟨φ, J⟩ := I
  refine ⟨a, .dK kvs, hp, trivial, fun od => ?_⟩
  refine q _ _ _ _ _ σ ρ _ (J.lock (od := od) hm e1 hO h0 hp (List.getElem?_eq_getElem hl) ed hk).ok ?_
  generalize hF : F ρ = r at w ⊢
  cases r with
  | no => exact w
  | er x => exact absurd hF (hne ρ x)
  | ok d => exact fun H' v s hv => ⟨s _ _ upd_same, w _ _ (same_lock hp s) (ow_unlock hO (by rw [hp]; intro z; cases z) hv)⟩
theorem compL_noer {g : D → List D → Option (List D)} {c : List D → Rs Bool} {f : List D → Rs D} {ρ : List D} {z : D} : ∀ xs : List D, compL g c f ρ xs ≠ .er z
  | [], h => by cases h
  | x :: xs, h => by
    unfold compL at h
    split at h
    · cases h
    · rename_i ρ' _
      cases hc : c ρ' with
      | no => rw [hc] at h; cases h
      | er _ => rw [hc] at h; cases h
      | ok b =>
        rw [hc] at h
        simp only [Rs.nx, Rs.bind_ok] at h
        have ih := compL_noer (g := g) (c := c) (f := f) (ρ := ρ) (z := z) xs
        cases b with
        | false => exact ih h
        | true =>
          simp only [if_true] at h
          cases hf : f ρ' with
          | no => rw [hf] at h; cases h
          | er _ => rw [hf] at h; cases h
          | ok y =>
            rw [hf] at h
            simp only [Rs.nx, Rs.bind_ok] at h
            cases hr : compL g c f ρ xs with
            | no => rw [hr] at h; cases h
            | er _ => rw [hr] at h; exact ih (by rw [hr]; cases h; rfl)
            | ok _ => rw [hr] at h; cases h
theorem comp_noer {i : Nat} {g : D → List D → Option (List D)} {c : List D → Rs Bool} {f : List D → Rs D} : ∀ ρ x, fComp (fItK i) g c f ρ ≠ .er x := fun ρ x h => by
  unfold fComp fItK at h
  split at h
  · simp only [Rs.bind_ok] at h
    split at h
    · rename_i ds _ _
      cases hr : compL g c f ρ (ds.map (·.1)) with
      | no => rw [hr] at h; cases h
      | er _ => exact compL_noer _ hr
      | ok _ => rw [hr] at h; cases h
    · cases h
  · cases h
/-- a statement that runs while the dict at slot i is locked -/
theorem ds_lock (i : Nat) (hL : LkRP Rp) (h : DS Rp X W (M.set i .lk) st (M'.set i .lk) S1) (hm : M[i]? = some .dk := by rfl) (hm' : M'[i]? = some .dk := by rfl) : DS Rp X W M st M' S1 := by
  obtain ⟨t, p, q⟩ := h
  refine ⟨_, ps_lock p, fun G H0 O0 O H σ ρ E rw I w => ?_⟩
  have hl : i < ρ.length := Nat.lt_of_lt_of_le (List.getElem?_eq_some_iff.mp hm).1 I.lr
  obtain ⟨a, e1, hO, h0, kvs, ds, ed, hp, hk⟩ := I.dk hm (List.getElem?_eq_getElem hl)
  obtain ⟨φ, J⟩ := I
  refine ⟨a, .dK kvs, hp, trivial, fun od => ?_⟩
  have J1 := J.lock (od := od) hm e1 hO h0 hp (List.getElem?_eq_getElem hl) ed hk
  refine q _ _ (lkOut O0 i a) _ _ σ ρ _ rw J1.ok ?_
  have li' := (List.getElem?_eq_some_iff.mp hm').1
  have eM : (M'.set i .lk).set i .dk = M' := by
    rw [List.set_set]
    apply List.ext_getElem?
    intro j
    by_cases hj : i = j
    · subst hj; rw [List.getElem?_set_self li', hm']
    · rw [List.getElem?_set_ne hj]
  generalize S1 ρ = r at w ⊢
  cases r with
  | no => exact w
  | er x => exact fun H' cls dd σ' s hx => w H' cls dd σ' (fun b o e => s b o (by rw [upd_ne (ne_of_none e h0)]; exact e)) (hL.xt h0 s hx)
  | ok f =>
    cases f with
    | ret d => exact fun H' v s hv => ⟨s _ _ upd_same, w _ v (same_unlock h0 s) (hL.rt h0 s hv)⟩
    | nx ρ' =>
      intro O' H' σ' I'
      obtain ⟨φ', I'⟩ := I'
      obtain ⟨hp', I2⟩ := I'.unlock (by rw [List.getElem?_set_self li']) h0 J.al0
      rw [eM] at I2
      exact ⟨hp', w O' _ σ' I2.ok⟩
end
end FL
end
section
/-! FL, part Z: own lists lent to a def that gives a plain value. -/
namespace FL
open PySem L2
def brA (K : Tx) (O : Addr → Prop) (H : Hp) (vs : List V) (ds : List D) : Prop := ∃ P : Addr → Prop, DqAll K (hide (fun b => O b ∧ ¬ P b) H) vs ds
def plainD : D → Bool
  | .none => true
  | .bool _ => true
  | .int _ => true
  | .str _ => true
  | _ => false
def scal (d : D) : Rs D := if plainD d then .ok d else .no
/-- a plain value stands for its datum in every heap -/
theorem dq_plain {K : Tx} {H H' : Hp} {v : V} {d : D} (hp : plainD d = true) (h : Dq K H v d) : Dq K H' v d := by
  cases h with
  | non => exact .non
  | bl b => exact .bl b
  | int i => exact .int i
  | str x => exact .str x
  | _ => cases hp
def fLend (n : Nat) (G : List D → Rs D) (A : List D → Rs (List D)) : List D → Rs D := fun ρ => (A ρ).nx.bind fun ds => if ds.length = n then (G ds).nx.bind scal else .no
section
variable {X : Cx} {W : L2.WX} {M : List Md} {e : Expr} {es : List Expr} {F : List D → Rs D} {A : List D → Rs (List D)} {pos p : Pos} {x : Str} {k n : Nat} {G : List D → Rs D}
theorem br_nil : AJ brA X W M [] aNil := ⟨_, pa_nil, fun G H0 O0 O H σ ρ Q I w => w.ok (v := []) ⟨fun _ => False, .nil⟩⟩
theorem br_cons (h : DE X W M e F) (h2 : AJ brA X W M es A) (hs : starEach (e :: es) X.env = (false, eval e X.env) :: starEach es X.env := by rfl) : AJ brA X W M (e :: es) (aCons F A) := by
  obtain ⟨t, pt, q⟩ := h
  obtain ⟨t2, pt2, q2⟩ := h2
  refine ⟨_, pa_cons pt pt2 hs, fun G H0 O0 O H σ ρ Q I w => q G H0 O0 O H σ ρ _ I (Wnt.bind w fun d H1 v s1 hd w1 => q2 G H0 O0 O H1 σ ρ _ (I.mono s1) (Wnt.bind w1 fun ds H2 vs s2 hds w2 => ?_))⟩
  obtain ⟨P, hds⟩ := hds
  exact w2.ok (v := v :: vs) ⟨P, .cons (Dq.mono (hide_less fun _ h => h.1) (Dq.mono (hide_same s2) hd)) hds⟩
theorem br_own {y : Str} {p2 : Pos} (i : Nat) (h2 : AJ brA X W M es A) (hm : M[i]? = some .ow := by rfl) (hN : X.N[i]? = some y := by rfl) (hv : Vis X.env.scope y := by first | exact Or.inl rfl | exact Or.inr (Or.inl rfl) | exact Or.inr (Or.inr rfl)) (hd : (y == ("__debug__" : Str)) = false := by decide) (hcd : (y == ("__classdict__" : Str)) = false := by decide)
    (hs : starEach (.Name y p2 :: es) X.env = (false, eval (.Name y p2) X.env) :: starEach es X.env := by rfl) : AJ brA X W M (.Name y p2 :: es) (aCons (fVar i) A) := by
  obtain ⟨t2, pt2, q2⟩ := h2
  refine ⟨_, pa_cons (pe_var hN hv hd hcd) pt2 hs, fun G H0 O0 O H σ ρ Q I w => ?_⟩
  unfold aCons fVar at w
  cases hr : ρ[i]? with
  | none => rw [hr] at w; exact w.elim
  | some d =>
    rw [hr] at w
    simp only [Rs.bind_ok] at w
    obtain ⟨a, e1, hO, h0, vs0, ds0, ed, hp, hk⟩ := I.ow hm hr
    refine ⟨_, e1, q2 G H0 O0 O H σ ρ _ I (Wnt.bind w fun ds H2 vs s2 hds w2 => ?_)⟩
    obtain ⟨P, hds⟩ := hds
    refine w2.ok (v := .ref a :: vs) ⟨fun b => P b ∨ b = a, .cons ?_ (DqAll.mono (hide_less fun _ h => ⟨h.1, fun z => h.2 (.inl z)⟩) hds)⟩
    rw [ed]
    exact .lst (by rw [hide_at (fun z => z.2 (.inr rfl))]; exact s2 _ _ hp) (DqAll.mono (hide_less fun _ h => h.1) (DqAll.mono (hide_same s2) hk))
theorem de_lend (px : ∀ σ, PassesAt (L2.CX X.prog X.w) X σ (L2.WE W σ)) (C : Cal shR X.prog X.w X.T X.base x k n G) (hr : Room k X.A) (hg : Gl X x) (ha : AJ brA X W M (e :: es) A) (hdb : (x == ("__debug__" : Str)) = false := by decide)
    (he : starEach (e :: es) X.env = (false, eval e X.env) :: starEach es X.env := by rfl) (hpl : (backTo pos (starEach es X.env)).any (·.1) = false := by rfl) : DE X W M (.Call (.Name x p) (e :: es) [] pos) (fLend n G A) := by
  obtain ⟨f, fd, ps, F, hm, hk, hb⟩ := C
  obtain ⟨t, pt, qt⟩ := ha
  refine ⟨_, pe_callS F hr hg hm hk hb px pt hdb he hpl, fun G' H0 O0 O H σ ρ Q I w => qt G' H0 O0 O H σ ρ _ I ?_⟩
  unfold fLend at w
  refine wnt_nx w fun ds H1 vs s1 hd w1 => ?_
  split at w1
  · rename_i hl
    obtain ⟨P, hd⟩ := hd
    refine ⟨fun b => O b ∧ ¬ P b, ds, by rw [DqAll.length hd, hl], fun b hb => (I.mono s1).alive b hb.1, hd, ?_⟩
    refine wnt_nx w1 fun d H2 v s2 hv w2 => ?_
    unfold scal at w2
    split at w2
    · rename_i hp
      exact w2 H2 v (s1.trans s2) (dq_plain hp hv)
    · exact w2.elim
  · exact w1.elim
end
end FL
end
section
/-! FL, part R: list(reversed(xs)), max(xs, default=c). -/
namespace FL
open PySem L2 PyProof.Rows
section
variable {P : Program} {w : World} {A : Around} {s : Shared} {j src S : Addr} {xs : Array Value}
abbrev Wnts (P : Program) (w : World) (A : Around) (R : Result → Shared → Prop) (m : Sem Fin) (s : Shared) : Prop := wpAny (model P w) A.in1 m (fun e t => match e with | .done f => R (.ok f) t | .again c => c.quiet = true ∧ codeAny (model P w) A c R t) (fun e t => R (.error e) t) s
/-- what is put behind S: the items of a list, the last one first -/
theorem rev_ext {R : Result → Shared → Prop} {res : Value} {c0 : Nat} (hd : A.handled = none) (rv : s.heap.IsRevIter j src ((xs.size : Int) - 1)) (ls : s.heap.IsList src xs) (n1 : src ≠ j) (n2 : S ≠ j) (n3 : S ≠ src) (sz : xs.size ≤ sizeLine)
    (o1 : s.heap.get? S = some { cls := .type "list", data := .seq #[] c0 })
    (k : ∀ h' tk acc c', (∀ b o, b ≠ j → b ≠ S → s.heap.get? b = some o → h'.get? b = some o) → h'.get? S = some { cls := .type "list", dict := none, data := .seq acc c', slots := #[] } →
      ItemsOf (fun i v => xs[xs.size - 1 - i]? = some v) acc xs.size → R (.ok (.ret res)) { s with heap := h', toks := tk }) : Wnts P w A R (Builtin.List.listExtendWith (.ref S) (.ref j) res) s := by
  have ty : s.TypeIs (.ref j) "list_reverseiterator" := Heap.IsRevIter.typeIs rv
  have nf : S ∉ [j, src] := fun m => by
    rcases List.mem_cons.mp m with m | m
    · exact n2 m
    · exact n3 (List.mem_singleton.mp m)
  have ns : Builtin.List.listSameRef (.ref S) (.ref j) = false := by simp [Builtin.List.listSameRef, n2]
  have Wk := (Walks.listRev (prog := P) (w := w) (A := A.in1) hd j src n1 xs).toS
  unfold Wnts Builtin.List.listExtendWith
  refine wpAny_bind (wpAny_typeOf ty ?_)
  rw [if_neg (by rw [ns]; decide)]
  refine wpAny_bind (wpAny_pyIter_revIter rv (wpAny_bind (wpAny_holding ?_)))
  unfold Builtin.List.listLengthHint
  refine wpAny_bind (wpAny_specialOf ty RT.nolen_lri ?_)
  show wpAny _ A.in1 (specialOf (.ref j) (Str.ofString "__length_hint__") >>= _) _ _ _
  refine wpAny_bind (wpAny_specialOf ty RT.hint_lri ?_)
  generalize eq : ("list_reverseiterator.__length_hint__" : String) = nm
  wp_delta
  rw [show splitId nm = some ("list_reverseiterator", "__length_hint__") by rw [← eq]; decide +kernel]
  subst eq
  refine wpAny_bind (wpAny_isInstance (b := true) ty (by rw [isSubtype_type]; kernel_rfl) (wpAny_pure ?_))
  rw [if_neg (by decide)]
  have z : ((xs.size : Nat) : Int) - 1 - ((0 : Nat) : Int) = (xs.size : Int) - 1 := by omega
  have st0 : 0 ≤ xs.size ∧ s.heap.IsRevIter j src ((xs.size : Int) - 1 - ((0 : Nat) : Int)) ∧ s.heap.IsList src xs := ⟨Nat.zero_le _, by rw [z]; exact rv, ls⟩
  exact wpAny_pure ⟨plainId_quiet F.plain_extend_loop _, codeAny_extend_loopS Wk sz _ nf _ xs.size 0 _ _ _ rfl (Nat.zero_le _) st0 o1 (ItemsOf.nil _) fun t acc c mv oS it => by
    rw [Moved.eq_with mv]
    exact k _ _ acc c (fun b o b1 b2 e => mv.heap b o (fun m => by
      rcases List.mem_cons.mp m with m | m
      · exact b2 m
      · exact b1 (List.mem_singleton.mp m)) e) oS it⟩
theorem call_lrev {E : Value → Shared → Prop} {Q : Value → Shared → Prop} (hd : A.handled = none) (rv : s.heap.IsRevIter j src ((xs.size : Int) - 1)) (ls : s.heap.IsList src xs) (n1 : src ≠ j) (sz : xs.size ≤ sizeLine)
    (k : ∀ h' tk acc c', (∀ b o, b ≠ j → s.heap.get? b = some o → h'.get? b = some o) → h'.get? s.heap.objs.size = some { cls := .type "list", dict := none, data := .seq acc c', slots := #[] } →
      ItemsOf (fun i v => xs[xs.size - 1 - i]? = some v) acc xs.size → Q (.ref s.heap.objs.size) { s with heap := h', toks := tk }) : wpAny (model P w) A (call (.type "list") [.ref j]) Q E s := by
  refine callType_codes (Q₁ := fun v t => v = .ref s.heap.objs.size ∧ t = { s with heap := s.heap.push { cls := .type "list", data := .seq #[] } }) F.called_list (F.typeCall_list_1 _) F.entry_list_init (code_list_new _ ⟨rfl, rfl⟩) fun v t e => ?_
  obtain ⟨rfl, rfl⟩ := e
  have o0 : (s.heap.push { cls := .type "list", data := .seq #[] }).get? s.heap.objs.size = some { cls := .type "list", data := .seq #[] } := Heap.get?_push_size _ rfl
  obtain ⟨oj, ej, _⟩ := id rv
  obtain ⟨ol, el, _⟩ := id ls
  have n2 : s.heap.objs.size ≠ j := fun e => Nat.lt_irrefl _ (by have := Heap.lt_size ej; rwa [← e] at this)
  have n3 : s.heap.objs.size ≠ src := fun e => Nat.lt_irrefl _ (by have := Heap.lt_size el; rwa [← e] at this)
  refine ⟨⟨_, o0, rfl⟩, F.args_list_init_2 _ _, ?_⟩
  show wpAny _ _ (do let was ← Builtin.List.listItems (.ref s.heap.objs.size); Builtin.List.listUpdate (.ref s.heap.objs.size) (fun _ => #[]); letGo was.toList.reverse; Builtin.List.listExtendWith (.ref s.heap.objs.size) (.ref j) .none) _ _ _
  refine wpAny_bind ?_
  unfold Builtin.List.listItems
  refine wpAny_bind (wpAny_seqItems o0 rfl (wpAny_pure ?_))
  show wpAny _ _ (updateSeq s.heap.objs.size (fun _ => #[]) >>= fun _ => letGo (#[] : Array Value).toList.reverse >>= fun _ => Builtin.List.listExtendWith (.ref s.heap.objs.size) (.ref j) .none) _ _ _
  refine wpAny_bind (wpAny_updateSeq o0 rfl (wpAny_bind (wpAny_letGo ?_)))
  have o2 := Heap.get?_update_self (Obj.mapSeq (fun _ => (#[] : Array Value))) o0 rfl
  have old : ∀ b o, b ≠ s.heap.objs.size → s.heap.get? b = some o → ((s.heap.push { cls := .type "list", data := .seq #[] }).update s.heap.objs.size (Obj.mapSeq (fun _ => (#[] : Array Value)))).get? b = some o :=
    fun b o n e => (Heap.get?_update_other _ _ n.symm).trans (Heap.get?_push_of_some _ e)
  refine rev_ext (A := A.in1) hd (rv.at fun o e => old j o n2.symm e) (ls.at fun o e => old src o n3.symm e) n1 n2 n3 sz o2 fun h' tk acc c u oS it => ?_
  exact ⟨rfl, k h' tk acc c (fun b o b1 e => u b o b1 (Nat.ne_of_lt (Heap.lt_size e)) (old b o (Nat.ne_of_lt (Heap.lt_size e)) e)) oS it⟩
end
section
variable {X : Cx} {M : List Md} {W : L2.WX} {e : Expr} {F : List D → Rs D} {p p2 p3 pos pos2 : Pos}
def tLRev (K : PySem.W.Frag) (te : TE) : TE := fun σ H Q => te σ H fun v H1 => ∃ (a : Addr) (ys : List V), v = .ref a ∧ SqL K H1 a ys ∧ ∀ q, H1 q = none → Q (.ref q) (upd H1 q (.lst ys.reverse))
theorem pe_lrev {te : TE} (hc : X.calm = true) (hg : Gl X "list") (hm : X.mg "list" = none) (hg2 : Gl X "reversed") (hm2 : X.mg "reversed" = none) (he : PE X e te)
    (hs : starEach [e] X.env = (false, eval e X.env) :: starEach [] X.env := by rfl)
    (hs2 : starEach [.Call (.Name "reversed" p2) [e] [] pos2] X.env = (false, eval (.Call (.Name "reversed" p2) [e] [] pos2) X.env) :: starEach [] X.env := by rfl) :
    PE X (.Call (.Name "list" p) [.Call (.Name "reversed" p2) [e] [] pos2] [] pos) (tLRev X.K te) := by
  refine ⟨fun pins s σ H Q I h => Call_ (ld_blt I hg hm PyProof.Rows.boot_list (PyProof.Rows.callWith_type1 (args_cons (Call_ (ld_blt I hg2 hm2 PyProof.Rows.boot_reversed (PyProof.Rows.callWith_type1 (args_cons (thn (he.run pins s σ H _ I h) fun u s1 h1 => args_nil ?_) hs) hs rfl))) hs2) hs2 rfl))⟩
  obtain ⟨v, H1, I1, r1, a, ys, rfl, hq, q⟩ := h1
  obtain rfl : u = Value.ref a := r1
  obtain ⟨its, rv, pl, hz⟩ := I1.list hq
  have ls := pl.isList
  obtain ⟨o, ho, _⟩ := id ls
  refine call_reversed_list ls (args_nil (call_lrev (s := { s1 with heap := s1.heap.push (revObj a ((its.toArray.size : Int) - 1)) }) (I1.ok.hd hc) ⟨_, Heap.get?_push_size _ rfl, rfl, rfl⟩ (ls.push _) (Nat.ne_of_lt (Heap.lt_size ho)) (by rw [List.size_toArray, ← rv.length]; exact hz) fun h' tk acc c hk oS hi => ?_))
  have sz1 : (s1.heap.push (revObj a ((its.toArray.size : Int) - 1))).objs.size = s1.heap.objs.size + 1 := Heap.size_push ..
  refine ⟨.ref _, _, I1.laid (t' := tk) (fun b u e => hk b u (Nat.ne_of_lt (Heap.lt_size e)) (Heap.get?_push_of_some _ e)) (by show _ ≤ (s1.heap.push _).objs.size; rw [sz1]; exact Nat.le_succ _)
    (show ObjOk X.prog X.w _ _ _ (.lst ys.reverse) from ⟨by rw [List.length_reverse]; exact hz, acc.toList, c, RT.vals_rev rv hi, ?_⟩), rfl, q _ (I1.hok.fresh (by show _ ≤ (s1.heap.push _).objs.size; rw [sz1]; exact Nat.le_succ _))⟩
  rw [Array.toArray_toList]
  exact oS
def fListRev (F : List D → Rs D) : List D → Rs D := fun ρ => (F ρ).bind fun d => match d with
  | .list ds => .ok (.list ds.reverse)
  | _ => .no
theorem do_listRev (hc : X.calm = true) (hg : Gl X "list") (hm : X.mg "list" = none) (hg2 : Gl X "reversed") (hm2 : X.mg "reversed" = none) (h : DB X W M e F)
    (hs : starEach [e] X.env = (false, eval e X.env) :: starEach [] X.env := by rfl)
    (hs2 : starEach [.Call (.Name "reversed" p2) [e] [] pos2] X.env = (false, eval (.Call (.Name "reversed" p2) [e] [] pos2) X.env) :: starEach [] X.env := by rfl) :
    DO X W M (.Call (.Name "list" p) [.Call (.Name "reversed" p2) [e] [] pos2] [] pos) (fListRev F) := by
  obtain ⟨t, pt, q⟩ := h
  refine ⟨_, pe_lrev hc hg hm hg2 hm2 pt hs hs2, fun G H0 O0 O H σ ρ Q I w => q G H0 O0 O H σ ρ _ I (Wnt.bind w fun d H1 v s1 hd w1 => ?_)⟩
  split at w1
  · obtain ⟨a, ys, rfl, ha, ax⟩ := hd.list
    exact ⟨a, ys, rfl, SqL.of ha, fun r hr => w1 _ _ (same_upd hr) (ow_mk s1 hr (DqAll.reverse ax))⟩
  · exact w1.elim
/-! ### max(xs, default=c) -/
def bigD (c : Int) : List Int → Int
  | [] => c
  | n :: ns => ns.foldl imax n
theorem bigD_max {c n : Int} {ns : List Int} : PySem.W.maxD (.int n) (ns.map .int) = .int (bigD c (n :: ns)) := by
  rw [PySem.W.maxD_ints]
  have : (max : Int → Int → Int) = imax := by
    funext a b
    show (if a ≤ b then b else a) = if b > a then b else a
    split <;> split <;> omega
  rw [this]; rfl
def tMaxD (K : PySem.W.Frag) (c : Int) (te : TE) : TE := fun σ H Q => te σ H fun v H1 => ∃ (a : Addr) (ns : List Int), v = .ref a ∧ SqL K H1 a (ns.map V.int) ∧ Q (.int (bigD c ns)) H1
theorem pe_maxd {te : TE} {c : Int} {j : Nat} (hc : X.calm = true) (hu : X.A.units + 64 < cLine) (hg : Gl X "max") (hm : X.mg "max" = none) (he : PE X e te)
    (hs : starEach [e] X.env = (false, eval e X.env) :: starEach [] X.env := by rfl)  :
    PE X (.Call (.Name "max" p) [e] [⟨some "default", .Constant (.int c) j p2, p3⟩] pos) (tMaxD X.K c te) := by
  refine ⟨fun pins s σ H Q I h => wpAny_Call_Name_kw (ld_blt I hg hm PyProof.Rows.boot_max (callWith_kw (args_cons (thn (he.run pins s σ H _ I h) fun u s1 h1 => args_nil (kwAll_cons ?_)) hs) (by rw [hs]; rfl) (by rw [hs]; rfl)))⟩
  obtain ⟨v, H1, I1, r1, a, ns, rfl, hq, q⟩ := h1
  refine thn ((pe_int (X := X) (i := c) (j := j) (pos := p2)).run pins s1 σ H1 (fun x H2 => x = .int c ∧ H2 = H1) I1 ⟨rfl, rfl⟩) fun u2 s2 h2 => kwAll_nil ?_
  obtain ⟨_, _, I2, r2, rfl, rfl⟩ := h2
  obtain rfl : u = Value.ref a := r1
  obtain ⟨tk, rfl⟩ := r2
  obtain ⟨its, rv, pl, hz⟩ := I2.list hq
  have hi := rv.ints
  refine PySem.W.max_list_default (xs := ns.map .int) (as := []) (I2.ok.hd hc) pl.isList (hi.reads _) ?_ ?_ (fun e h' tk k => ?_) fun y ys i v h' tk bs e hiv hr k => ?_
  · refine ⟨fun x hx y hy => ?_, fun x hx => ?_⟩
    · obtain ⟨_, _, rfl⟩ := List.mem_map.mp hx
      obtain ⟨_, _, rfl⟩ := List.mem_map.mp hy
      rfl
    · obtain ⟨_, _, rfl⟩ := List.mem_map.mp hx
      exact fun z => nomatch z
  · have : ∀ ms : List Int, PyData.depthAll (ms.map .int) = 0 := fun ms => by
      induction ms with
      | nil => rfl
      | cons m ms ih => rw [List.map_cons]; unfold PyData.depthAll; rw [ih]; rfl
    rw [this]; omega
  · obtain rfl : ns = [] := List.map_eq_nil_iff.mp e
    exact ⟨.int c, _, I2.kept k, ⟨_, rfl⟩, q⟩
  · cases ns with
    | nil => cases e
    | cons n ns =>
      rw [List.map_cons] at e
      injection e with e1 e2
      subst e1 e2
      rw [bigD_max (c := c)] at hr
      cases hr with
      | int _ t => exact ⟨.int _, _, I2.kept k, ⟨t, rfl⟩, q⟩
def fMaxDef (c : Int) (F : List D → Rs D) : List D → Rs D := fun ρ => (F ρ).bind fun d => match d with
  | .list ds => match intsOf ds with
    | some ns => .ok (.int (bigD c ns))
    | none => .no
  | _ => .no
theorem de_maxDef (c : Int) {j : Nat} (hc : X.calm = true) (hu : X.A.units + 64 < cLine) (hg : Gl X "max") (hm : X.mg "max" = none) (h : DB X W M e F)
    (hs : starEach [e] X.env = (false, eval e X.env) :: starEach [] X.env := by rfl) :
    DE X W M (.Call (.Name "max" p) [e] [⟨some "default", .Constant (.int c) j p2, p3⟩] pos) (fMaxDef c F) := by
  obtain ⟨t, pt, q⟩ := h
  refine ⟨_, pe_maxd hc hu hg hm pt hs, fun G H0 O0 O H σ ρ Q I w => q G H0 O0 O H σ ρ _ I (Wnt.bind w fun d H1 v s1 hd w1 => ?_)⟩
  split at w1
  · rename_i ds
    split at w1
    · rename_i ns hn
      obtain ⟨a, ys, rfl, ha, ax⟩ := hd.list
      rw [intsOf_eq hn] at ax
      rw [DqAll.ints ax] at ha
      exact ⟨a, ns, rfl, SqL.of ha, w1.ok (.int _)⟩
    · exact w1.elim
  · exact w1.elim
end
end FL
end
section
/-! FL, part T: sorted(set(xs)), xs a list of ints. -/
namespace FL
open PySem L2 PyProof.Rows
section
variable {P : Program} {w : World} {A : Around} {E : Value → Shared → Prop} {s : Shared} {src : Addr} {xs : Array Value}
abbrev emptyS (w : World) : Obj := { cls := .type "set", dict := none, data := .set #[] 0 (.fresh 0 0 (!w.params.followText "set-order")) }
/-- a set is made: what is given is read by its __init__ -/
theorem set_made {x : Value} {Q : Value → Shared → Prop}
    (k : codeAny (model P w) A.in1 (.call (.builtin "set.__init__") ⟨[.ref s.heap.objs.size, x], []⟩) (wants (fun r t => r = .none ∧ Q (.ref s.heap.objs.size) t) E) { s with heap := s.heap.push (emptyS w) }) :
    wpAny (model P w) A (call (.type "set") [x]) Q E s := by
  obtain ⟨c0, c1, hm⟩ := F.called_set.mro
  have m1 := F.called_set.made
  have m2 := F.called_set.sub
  have m3 := F.called_set.notType
  have m4 := F.called_set.canCreate
  have m5 := F.typeCall_set_1 x
  refine wpAny_call (codeAny_of_tree (show wpAny _ _ (callAny (.type "set") _) _ _ _ from wpAny_pure ⟨Code.quiet_builtin _ (by decide +kernel), codeAny_builtin F.entry_type_call ?_⟩))
  rw [Around.under_plain (weight_type_call_type "set" [x] []) rfl]
  repeat (any_goals (first | assumption | wp_step))

  refine codeAny_mono (code_set_led1 x (E := E) (Q₁ := fun v t => v = .ref s.heap.objs.size ∧ t = { s with heap := s.heap.push (emptyS w) }) ⟨rfl, rfl⟩) fun r t hr => ?_
  match r, hr with
  | .error e, hr => exact hr
  | .ok .next, hr => exact hr.elim
  | .ok .brk, hr => exact hr.elim
  | .ok .cont, hr => exact hr.elim
  | .ok (.ret v), ⟨e1, e2⟩ =>
    subst e1 e2
    have o0 : (s.heap.push (emptyS w)).get? s.heap.objs.size = some (emptyS w) := Heap.get?_push_size _ rfl
    have ty : Shared.TypeIs { s with heap := s.heap.push (emptyS w) } (.ref s.heap.objs.size) "set" := ⟨_, o0, rfl⟩
    have n1 := F.called_set.init.lookup
    have n2 := F.called_set.init.bind (.ref s.heap.objs.size)
    repeat (any_goals (first | assumption | wp_step))

    refine codeAny_mono k fun r2 t2 hr2 => ?_
    match r2, hr2 with
    | .error e, hr2 => exact hr2
    | .ok .next, hr2 => exact hr2.elim
    | .ok .brk, hr2 => exact hr2.elim
    | .ok .cont, hr2 => exact hr2.elim
    | .ok (.ret v), ⟨e3, q⟩ =>
      subst e3
      repeat (any_goals (first | assumption | wp_step))
theorem set_ints (ns : List Int) {Q : Value → Shared → Prop} (hd : A.handled = none) (ls : s.heap.IsList src xs) (it : IntsAre xs.toList ns) (sz : ns.length + 1 < scanBound)
    (k : ∀ (h' : Heap) (tk c : Nat), SetR w h' s.heap.objs.size (fun j => decide (j ∈ ns)) c → c ≤ ns.length → (∀ b o, s.heap.get? b = some o → h'.get? b = some o) → Q (.ref s.heap.objs.size) { s with heap := h', toks := tk }) :
    wpAny (model P w) A (call (.type "set") [.ref src]) Q E s := by
  have len : xs.size = ns.length := by
    have z := IntsAre.length it
    rwa [Array.length_toList] at z
  have o0 : (s.heap.push (emptyS w)).get? s.heap.objs.size = some (emptyS w) := Heap.get?_push_size _ rfl
  have ty : Shared.TypeIs { s with heap := s.heap.push (emptyS w) } (.ref s.heap.objs.size) "set" := ⟨_, o0, rfl⟩
  obtain ⟨⟨c1, d1, dt1, sl1⟩, e1, t1, n1, v1⟩ := id ls
  simp only at t1 v1
  subst t1 v1
  have e2 : (s.heap.push (emptyS w)).get? src = some { cls := .type "list", dict := d1, data := .seq xs n1, slots := sl1 } := Heap.get?_push_of_some _ e1
  have l2 : (s.heap.push (emptyS w)).IsList src xs := ⟨_, e2, rfl, n1, rfl⟩
  have lt1 : src < s.heap.objs.size := Heap.lt_size e1
  have sz1 : (s.heap.push (emptyS w)).objs.size = s.heap.objs.size + 1 := Heap.size_push ..
  have ni : src ≠ (s.heap.push (emptyS w)).objs.size := by rw [sz1]; exact Nat.ne_of_lt (Nat.lt_succ_of_lt lt1)
  have nf : s.heap.objs.size ∉ [(s.heap.push (emptyS w)).objs.size, src] := by
    rw [sz1]
    intro m
    rcases List.mem_cons.mp m with m | m
    · exact Nat.ne_of_lt (Nat.lt_succ_self _) m
    · exact Nat.ne_of_gt lt1 (List.mem_singleton.mp m)
  have each : ∀ (i : Nat) (v : Value), xs[i]? = some v → ∃ z t, ns[i]? = some z ∧ v = .int z t := fun i v e => by
    have hi : i < ns.length := by rw [← len]; exact (Array.getElem?_eq_some_iff.mp e).1
    obtain ⟨t, q⟩ := IntsAre.int_at it i v (by rw [Array.getElem?_toList]; exact e)
    have g : ns.getD i 0 = ns[i] := by rw [List.getD_eq_getElem?_getD, List.getElem?_eq_getElem hi]; rfl
    exact ⟨ns[i], t, List.getElem?_eq_getElem hi, by rw [q, g]⟩
  refine set_made (codeAny_call_builtin F.called_set.init.plain F.entry_set_init (check_set_init_1 ty ?_))
  have g1 := F.sub_list_set
  have g2 := F.sub_list_frozenset
  have g3 : (Value.type "list" == Value.type "dict") = false := by decide
  unfold Builtin.«set.__init__» noKeywords Builtin.Frozenset.updateFrom
  generalize gp : pyIter = iter
  wp_walk
  subst gp

  refine wpAny_pyIter_list l2 (wpAny_bind (wpAny_runValue ?_))
  have hd3 : A.in1.in1.in1.handled = none := by simp [hd]
  refine set_update_ints ((Walks.list hd3 _ src ni xs).toS) s.heap.objs.size nf ns len sz each (xs.size - 0) 0 _ (by omega) (Nat.zero_le _) ⟨⟨_, Heap.get?_push_size _ rfl, rfl, rfl⟩, l2.push _⟩
    ⟨0, Nat.le_refl 0, setR_new_at (Heap.get?_push_of_some _ o0)⟩ fun t c mv le R => ?_
  rw [len] at le
  have old : ∀ b o, s.heap.get? b = some o → t.heap.get? b = some o := fun b o e => by
    have hb : b < s.heap.objs.size := Heap.lt_size e
    refine mv.heap b o (fun m => ?_) (Heap.get?_push_of_some _ (Heap.get?_push_of_some _ e))
    rcases List.mem_cons.mp m with m | m
    · exact Nat.ne_of_lt hb m
    · have m := List.mem_singleton.mp m
      rw [sz1] at m
      exact Nat.ne_of_lt (Nat.lt_succ_of_lt hb) m
  refine wpAny_pure (wpAny_pure ⟨rfl, ?_⟩)
  rw [Moved.eq_with mv]
  exact k _ _ c R le old
end
/-! ### each once, rising -/
def insU (x : Int) : List Int → List Int
  | [] => [x]
  | y :: ys => if x < y then x :: y :: ys else if x = y then y :: ys else y :: insU x ys
def sortU (ns : List Int) : List Int := ns.foldr insU []
theorem mem_insU {x z : Int} : ∀ {ys : List Int}, z ∈ insU x ys ↔ z = x ∨ z ∈ ys
  | [] => by simp [insU]
  | y :: ys => by
    unfold insU
    split
    · simp
    · split
      · rename_i e; subst e; simp
      · rw [List.mem_cons, mem_insU (ys := ys), List.mem_cons]
        constructor
        · rintro (h | h | h)
          · exact .inr (.inl h)
          · exact .inl h
          · exact .inr (.inr h)
        · rintro (h | h | h)
          · exact .inr (.inl h)
          · exact .inl h
          · exact .inr (.inr h)
theorem insU_lt {x : Int} : ∀ {ys : List Int}, ys.Pairwise (· < ·) → (insU x ys).Pairwise (· < ·)
  | [], _ => List.pairwise_singleton _ _
  | y :: ys, h => by
    obtain ⟨h1, h2⟩ := List.pairwise_cons.mp h
    unfold insU
    split
    · rename_i l
      refine List.pairwise_cons.mpr ⟨fun z hz => ?_, h⟩
      rcases List.mem_cons.mp hz with rfl | hz
      · exact l
      · exact Int.lt_trans l (h1 z hz)
    · split
      · exact h
      · rename_i l1 l2
        refine List.pairwise_cons.mpr ⟨fun z hz => ?_, insU_lt h2⟩
        rcases mem_insU.mp hz with rfl | hz
        · omega
        · exact h1 z hz
theorem mem_sortU {z : Int} : ∀ {ns : List Int}, z ∈ sortU ns ↔ z ∈ ns
  | [] => Iff.rfl
  | n :: ns => by
    show z ∈ insU n (sortU ns) ↔ _
    rw [mem_insU, mem_sortU, List.mem_cons]
theorem sortU_lt : ∀ ns : List Int, (sortU ns).Pairwise (· < ·)
  | [] => .nil
  | n :: ns => insU_lt (sortU_lt ns)
theorem rising_eq : ∀ {xs ys : List Int}, xs.Pairwise (· < ·) → ys.Pairwise (· < ·) → (∀ z, z ∈ xs ↔ z ∈ ys) → xs = ys
  | [], [], _, _, _ => rfl
  | [], y :: ys, _, _, h => by have := (h y).mpr List.mem_cons_self; cases this
  | x :: xs, [], _, _, h => by have := (h x).mp List.mem_cons_self; cases this
  | x :: xs, y :: ys, hx, hy, h => by
    obtain ⟨x1, x2⟩ := List.pairwise_cons.mp hx
    obtain ⟨y1, y2⟩ := List.pairwise_cons.mp hy
    have e : x = y := by
      rcases List.mem_cons.mp ((h x).mp List.mem_cons_self) with e | e
      · exact e
      · rcases List.mem_cons.mp ((h y).mpr List.mem_cons_self) with e2 | e2
        · exact e2.symm
        · have a := y1 x e
          have b := x1 y e2
          omega
    subst e
    rw [rising_eq x2 y2 fun z => ?_]
    constructor
    · intro hz
      rcases List.mem_cons.mp ((h z).mp (List.mem_cons_of_mem _ hz)) with e | e
      · subst e; exact absurd (x1 _ hz) (Int.lt_irrefl _)
      · exact e
    · intro hz
      rcases List.mem_cons.mp ((h z).mpr (List.mem_cons_of_mem _ hz)) with e | e
      · subst e; exact absurd (y1 _ hz) (Int.lt_irrefl _)
      · exact e
section
variable {X : Cx} {M : List Md} {W : L2.WX} {e : Expr} {F : List D → Rs D} {p p2 pos pos2 : Pos}
def tSSet (K : PySem.W.Frag) (te : TE) : TE := fun σ H Q => te σ H fun v H1 => ∃ (a : Addr) (ns : List Int), v = .ref a ∧ SqL K H1 a (ns.map V.int) ∧ ns.length ≤ 63 ∧ ∀ q, H1 q = none → Q (.ref q) (upd H1 q (.lst ((sortU ns).map V.int)))
theorem pe_sset {te : TE} (hc : X.calm = true) (hg : Gl X "sorted") (hm : X.mg "sorted" = none) (hg2 : Gl X "set") (hm2 : X.mg "set" = none) (he : PE X e te)
    (hs : starEach [e] X.env = (false, eval e X.env) :: starEach [] X.env := by rfl)
    (hs2 : starEach [.Call (.Name "set" p2) [e] [] pos2] X.env = (false, eval (.Call (.Name "set" p2) [e] [] pos2) X.env) :: starEach [] X.env := by rfl) :
    PE X (.Call (.Name "sorted" p) [.Call (.Name "set" p2) [e] [] pos2] [] pos) (tSSet X.K te) := by
  refine ⟨fun pins s σ H Q I h => wpAny_Call_Name_kw (ld_blt I hg hm (by decide +kernel : bootBuiltins "sorted" = some (.builtin "sorted")) (PyProof.Rows.callWith_builtin1 (args_cons (Call_ (ld_blt I hg2 hm2 PyProof.Rows.boot_set (PyProof.Rows.callWith_type1 (args_cons (thn (he.run pins s σ H _ I h) fun u s1 h1 => args_nil ?_) hs) hs rfl))) hs2) hs2 rfl))⟩
  obtain ⟨v, H1, I1, r1, a, ns, rfl, hq, l63, q⟩ := h1
  obtain rfl : u = Value.ref a := r1
  obtain ⟨its, rv, pl, hz⟩ := I1.list hq
  refine set_ints ns (I1.ok.hd hc) pl.isList rv.ints (by unfold scanBound; omega) fun h' tk c R cn kk => args_nil ?_
  have I2 : L2.Inv X pins σ H1 { s1 with heap := h', toks := tk } := I1.kept kk
  refine sorted_set (s := { s1 with heap := h', toks := tk }) R (I2.ok.hd hc) (by omega) fun t q' out c2 ms kt gt ot hp ho hi lt mem ll => ?_
  have em : ms = sortU ns := rising_eq lt (sortU_lt ns) fun z => by rw [mem z, mem_sortU, decide_eq_true_iff]
  subst em
  have hlen : ((sortU ns).map V.int).length ≤ sizeLine := by rw [List.length_map, ll, sizeLine_eq]; omega
  have hnone : H1 q' = none := I2.hok.fresh hp
  have J : L2.Inv X pins σ (upd H1 q' (.lst ((sortU ns).map V.int))) { ({ s1 with heap := h', toks := tk } : Shared) with heap := t.heap, gens := t.gens, drawn := t.drawn, toks := t.toks } :=
    L2.Inv.call (s := { s1 with heap := h', toks := tk }) (ch := []) I2 (Un.laid kt hp hnone) (I2.hok.laid kt hp ⟨hlen, out.toList, c2, vals_of_ints hi, ho⟩) (by rw [gt]; exact I2.bare) fun _ z => nomatch z
  have et : t = { s1 with heap := t.heap, gens := t.gens, drawn := t.drawn, toks := t.toks } := by
    cases t; cases s1; cases ot; rfl
  rw [et]
  exact ⟨.ref q', _, J, rfl, q q' hnone⟩
def fSortedSet (F : List D → Rs D) : List D → Rs D := fun ρ => (F ρ).bind fun d => match d with
  | .list ds => match intsOf ds with
    | some ns => if ns.length ≤ 63 then .ok (.list ((sortU ns).map .int)) else .no
    | none => .no
  | _ => .no
theorem do_sortedSet (hc : X.calm = true) (hg : Gl X "sorted") (hm : X.mg "sorted" = none) (hg2 : Gl X "set") (hm2 : X.mg "set" = none) (h : DB X W M e F)
    (hs : starEach [e] X.env = (false, eval e X.env) :: starEach [] X.env := by rfl)
    (hs2 : starEach [.Call (.Name "set" p2) [e] [] pos2] X.env = (false, eval (.Call (.Name "set" p2) [e] [] pos2) X.env) :: starEach [] X.env := by rfl) :
    DO X W M (.Call (.Name "sorted" p) [.Call (.Name "set" p2) [e] [] pos2] [] pos) (fSortedSet F) := by
  obtain ⟨t, pt, q⟩ := h
  refine ⟨_, pe_sset hc hg hm hg2 hm2 pt hs hs2, fun G H0 O0 O H σ ρ Q I w => q G H0 O0 O H σ ρ _ I (Wnt.bind w fun d H1 v s1 hd w1 => ?_)⟩
  split at w1
  · rename_i ds
    split at w1
    · rename_i ns hn
      split at w1
      · rename_i l
        obtain ⟨a, ys, rfl, ha, ax⟩ := hd.list
        rw [intsOf_eq hn] at ax
        rw [DqAll.ints ax] at ha
        exact ⟨a, ns, rfl, SqL.of ha, l, fun r hr => w1 _ _ (same_upd hr) (ow_mk s1 hr DqAll.of_ints)⟩
      · exact w1.elim
    · exact w1.elim
  · exact w1.elim
end
end FL
end
section
/-! FL, part P: plain tools for the laws' plain halves. -/
namespace FL
open PySem L2
/-- a list of ints as data -/
abbrev LI (ns : List Int) : D := .list (ns.map .int)
theorem fVar_z {a : D} {r : List D} : fVar 0 (a :: r) = .ok a := rfl
theorem fVar_s {n : Nat} {a : D} {r : List D} : fVar (n + 1) (a :: r) = fVar n r := rfl
theorem ok_inj {α : Type} {a b : α} (h : a = b) : (Rs.ok a) = .ok b := by rw [h]
theorem fSeq_nx {f g : List D → Rs Fl} {ρ ρ1 : List D} (h : f ρ = .ok (.nx ρ1)) : fSeq f g ρ = g ρ1 := by unfold fSeq; rw [h]; rfl
theorem fSeq_ret {f g : List D → Rs Fl} {ρ : List D} {d : D} (h : f ρ = .ok (.ret d)) : fSeq f g ρ = .ok (.ret d) := by unfold fSeq; rw [h]; rfl
theorem fSet_ok {i : Nat} {F : List D → Rs D} {ρ : List D} {d : D} (h : F ρ = .ok d) : fSet i F ρ = .ok (.nx (ρ.set i d)) := by unfold fSet; rw [h]; rfl
theorem fRet_ok {F : List D → Rs D} {ρ : List D} {d : D} (h : F ρ = .ok d) : fRet F ρ = .ok (.ret d) := by unfold fRet; rw [h]; rfl
theorem fIfS_t {B : List D → Rs Bool} {f g : List D → Rs Fl} {ρ : List D} (h : B ρ = .ok true) : fIfS B f g ρ = f ρ := by unfold fIfS; rw [h]; rfl
theorem fIfS_f {B : List D → Rs Bool} {f g : List D → Rs Fl} {ρ : List D} (h : B ρ = .ok false) : fIfS B f g ρ = g ρ := by unfold fIfS; rw [h]; rfl
theorem fIfS_ok {B : List D → Rs Bool} {f g : List D → Rs Fl} {ρ : List D} {b : Bool} (h : B ρ = .ok b) : fIfS B f g ρ = if b then f ρ else g ρ := by unfold fIfS; rw [h]; rfl
theorem fB_ok {f : D → D → Rs D} {F G : List D → Rs D} {ρ : List D} {x y : D} {r : Rs D} (h : F ρ = .ok x) (h2 : G ρ = .ok y) (h3 : f x y = r) : fB f F G ρ = r := by unfold fB; rw [h]; show (G ρ).bind _ = _; rw [h2]; exact h3
theorem fNext_ok {ρ : List D} : fNext ρ = .ok (.nx ρ) := rfl
theorem fCall1 {G : List D → Rs D} {A : List D → Rs (List D)} {ρ ds : List D} {n : Nat} {d : D} (h : A ρ = .ok ds) (hl : ds.length = n) (h2 : G ds = .ok d) : fCall n G A ρ = .ok d := by unfold fCall; rw [h]; show (if ds.length = n then G ds else .no) = _; rw [if_pos hl, h2]
theorem aCons_ok {F : List D → Rs D} {A : List D → Rs (List D)} {ρ ds : List D} {d : D} (h : F ρ = .ok d) (h2 : A ρ = .ok ds) : aCons F A ρ = .ok (d :: ds) := by unfold aCons; rw [h]; show (A ρ).bind _ = _; rw [h2]; rfl
/-! ### loops -/
theorem forL_inv {g : D → List D → Option (List D)} {f : List D → Rs Fl} (R : Nat → List D → Prop) : ∀ (xs : List D) (k : Nat) (ρ : List D), R k ρ → (∀ (j : Nat) (h : j < xs.length) (ρ : List D), R (k + j) ρ → ∃ ρ1 ρ2, g xs[j] ρ = some ρ1 ∧ f ρ1 = .ok (.nx ρ2) ∧ R (k + j + 1) ρ2) →
    ∃ ρ', forL g f xs ρ = .ok (.nx ρ') ∧ R (k + xs.length) ρ'
  | [], k, ρ, h0, hs => ⟨ρ, rfl, h0⟩
  | x :: xs, k, ρ, h0, hs => by
    obtain ⟨ρ1, ρ2, e1, e2, h1⟩ := hs 0 (Nat.succ_pos _) ρ h0
    obtain ⟨ρ', e3, h3⟩ := forL_inv R xs (k + 1) ρ2 h1 fun j h ρ hr => by
      have q : k + 1 + j = k + (j + 1) := by omega
      rw [q] at hr
      obtain ⟨a, b, c, d, e⟩ := hs (j + 1) (Nat.succ_lt_succ h) ρ hr
      refine ⟨a, b, c, d, ?_⟩
      have q2 : k + 1 + j + 1 = k + (j + 1) + 1 := by omega
      rw [q2]; exact e
    refine ⟨ρ', ?_, ?_⟩
    · have e1' : g x ρ = some ρ1 := e1
      unfold forL
      rw [e1']
      simp only [e2, Rs.bind_ok]
      exact e3
    · have q : k + (x :: xs).length = k + 1 + xs.length := by rw [List.length_cons]; omega
      rw [q]; exact h3
theorem fFor_inv {it : List D → Rs (List D)} {g : D → List D → Option (List D)} {f : List D → Rs Fl} {ρ xs : List D} (R : Nat → List D → Prop) (hit : it ρ = .ok xs) (h0 : R 0 ρ)
    (hs : ∀ (j : Nat) (h : j < xs.length) (ρ : List D), R j ρ → ∃ ρ1 ρ2, g xs[j] ρ = some ρ1 ∧ f ρ1 = .ok (.nx ρ2) ∧ R (j + 1) ρ2) :
    ∃ ρ', fFor it g f ρ = .ok (.nx ρ') ∧ R xs.length ρ' := by
  have := forL_inv (g := g) (f := f) R xs 0 ρ h0 fun j h ρ hr => by
    rw [Nat.zero_add] at hr ⊢
    exact hs j h ρ hr
  rw [Nat.zero_add] at this
  obtain ⟨ρ', e, h⟩ := this
  exact ⟨ρ', by unfold fFor; rw [hit]; exact e, h⟩
/-- for x in a list of things -/
theorem for_in {α : Type} {it : List D → Rs (List D)} {i : Nat} {f : List D → Rs Fl} {ρ : List D} (T : α → D) (xs : List α) (R : Nat → List D → Prop) (hit : it ρ = .ok (xs.map T)) (h0 : R 0 ρ)
    (hs : ∀ (j : Nat) (h : j < xs.length) (ρ : List D), R j ρ → ∃ ρ2, f (ρ.set i (T xs[j])) = .ok (.nx ρ2) ∧ R (j + 1) ρ2) :
    ∃ ρ', fFor it (gN i) f ρ = .ok (.nx ρ') ∧ R xs.length ρ' := by
  have := fFor_inv (g := gN i) (f := f) R hit h0 fun j h ρ hr => by
    rw [List.length_map] at h
    obtain ⟨ρ2, e, h2⟩ := hs j h ρ hr
    refine ⟨ρ.set i (T xs[j]), ρ2, ?_, e, h2⟩
    rw [List.getElem_map]; rfl
  rwa [List.length_map] at this
/-- for x in range(n) -/
theorem for_rg {it : List D → Rs (List D)} {i : Nat} {f : List D → Rs Fl} {ρ : List D} (lo : Int) (n : Nat) (R : Nat → List D → Prop) (hit : it ρ = .ok (rngD lo n)) (h0 : R 0 ρ)
    (hs : ∀ (j : Nat) (h : j < n) (ρ : List D), R j ρ → ∃ ρ2, f (ρ.set i (.int (lo + (j : Int)))) = .ok (.nx ρ2) ∧ R (j + 1) ρ2) :
    ∃ ρ', fFor it (gN i) f ρ = .ok (.nx ρ') ∧ R n ρ' := by
  have := for_in (i := i) (f := f) (fun (j : Nat) => (.int (lo + (j : Int)) : D)) (List.range n) R hit h0 fun j h ρ hr => by
    rw [List.length_range] at h
    rw [List.getElem_range]
    exact hs j h ρ hr
  rwa [List.length_range] at this
theorem it_r1 {F : List D → Rs D} {ρ : List D} {n : Nat} (h : F ρ = .ok (.int n)) (hn : n ≤ 1000000) : fItR1 F ρ = .ok (rngD 0 n) := by
  unfold fItR1; rw [h]; simp only [Rs.bind_ok]
  rw [if_pos ⟨by omega, by omega⟩]; rfl
theorem it_r1z {F : List D → Rs D} {ρ : List D} {n : Int} (h : F ρ = .ok (.int n)) (hn : -1000000 ≤ n ∧ n ≤ 1000000) : fItR1 F ρ = .ok (rngD 0 n.toNat) := by
  unfold fItR1; rw [h]; simp only [Rs.bind_ok]
  rw [if_pos hn]
theorem it_r2 {F G : List D → Rs D} {ρ : List D} {l n : Int} (h : F ρ = .ok (.int l)) (h2 : G ρ = .ok (.int n)) (hl : -1000000 ≤ l ∧ l ≤ 1000000 ∧ -1000000 ≤ n ∧ n ≤ 1000000) : fItR2 F G ρ = .ok (rngD l (n - l).toNat) := by
  unfold fItR2; rw [h]; simp only [Rs.bind_ok]; rw [h2]; simp only [Rs.bind_ok]
  rw [if_pos hl]
theorem it_l {F : List D → Rs D} {ρ ds : List D} (h : F ρ = .ok (.list ds)) : fItL F ρ = .ok ds := by unfold fItL; rw [h]; rfl
theorem it_s {F : List D → Rs D} {ρ : List D} {ns : List Int} (h : F ρ = .ok (scrD ns)) : fItL F ρ = .ok (ns.map .int) := by unfold fItL; rw [h]; rfl
theorem compL_ty {α : Type} {i : Nat} {c : List D → Rs Bool} {f : List D → Rs D} {ρ : List D} (T : α → D) (p : α → Bool) (q : α → D) : ∀ (ns : List α), (∀ a ∈ ns, c (ρ.set i (T a)) = .ok (p a)) → (∀ a ∈ ns, p a = true → f (ρ.set i (T a)) = .ok (q a)) →
    compL (gN i) c f ρ (ns.map T) = .ok ((ns.filter p).map q)
  | [], _, _ => rfl
  | a :: ns, hc, hf => by
    have ih := compL_ty (i := i) (c := c) (f := f) (ρ := ρ) T p q ns (fun b h => hc b (List.mem_cons_of_mem _ h)) (fun b h => hf b (List.mem_cons_of_mem _ h))
    have e1 := hc a List.mem_cons_self
    have e2 := hf a List.mem_cons_self
    show compL (gN i) c f ρ (T a :: ns.map T) = _
    unfold compL
    simp only [gN, e1, Rs.nx, Rs.bind_ok]
    cases hp : p a with
    | false => rw [List.filter_cons_of_neg (by rw [hp]; exact Bool.false_ne_true)]; exact ih
    | true =>
      rw [List.filter_cons_of_pos hp, if_pos rfl, e2 hp]
      simp only [Rs.bind_ok]
      rw [ih]
      rfl
theorem comp_ty {α : Type} {it : List D → Rs (List D)} {i : Nat} {c : List D → Rs Bool} {f : List D → Rs D} {ρ : List D} (T : α → D) (p : α → Bool) (q : α → D) (ns : List α) (hit : it ρ = .ok (ns.map T)) (hl : ns.length ≤ 100000)
    (hc : ∀ a ∈ ns, c (ρ.set i (T a)) = .ok (p a)) (hf : ∀ a ∈ ns, p a = true → f (ρ.set i (T a)) = .ok (q a)) : fComp it (gN i) c f ρ = .ok (.list ((ns.filter p).map q)) := by
  unfold fComp
  rw [hit]
  simp only [Rs.bind_ok]
  rw [if_pos (by rw [List.length_map]; exact hl), compL_ty T p q ns hc hf]
  rfl
theorem comp_all {α : Type} {it : List D → Rs (List D)} {i : Nat} {f : List D → Rs D} {ρ : List D} (T : α → D) (q : α → D) (ns : List α) (hit : it ρ = .ok (ns.map T)) (hl : ns.length ≤ 100000)
    (hf : ∀ a ∈ ns, f (ρ.set i (T a)) = .ok (q a)) : fComp it (gN i) fYes f ρ = .ok (.list (ns.map q)) := by
  have := comp_ty (i := i) (c := fYes) (f := f) T (fun _ => true) q ns hit hl (fun _ _ => rfl) (fun a h _ => hf a h)
  rwa [show ns.filter (fun _ => true) = ns from List.filter_eq_self.mpr fun _ _ => rfl] at this
/-! ### operators at good arguments -/
theorem intBits_le {a : Int} {k : Nat} (h : a.natAbs < 2 ^ k) : Builtin.Int.intBits a ≤ k := by
  unfold Builtin.Int.intBits
  split
  · exact Nat.zero_le _
  · rename_i c
    have h0 : a.natAbs ≠ 0 := fun e => c (by rw [Int.natAbs_eq_zero.mp e]; rfl)
    exact (Nat.log2_lt h0).mpr h
theorem dMul_ok {a b : Int} (ha : a.natAbs < 2 ^ 1000) (hb : b.natAbs < 2 ^ 1000) : dMul (.int a) (.int b) = .ok (.int (a * b)) := by
  unfold dMul
  have h1 := intBits_le ha
  have h2 := intBits_le hb
  exact if_pos (by omega)
theorem lt_p1000 {n : Nat} (h : n < 1000000000000000000000000000000) : n < 2 ^ 1000 := Nat.lt_trans h (by decide +kernel)
/-- two numbers that are not great -/
theorem dMul_s {a b : Int} (ha : -1000000000000000000000000000000 < a ∧ a < 1000000000000000000000000000000) (hb : -1000000000000000000000000000000 < b ∧ b < 1000000000000000000000000000000) : dMul (.int a) (.int b) = .ok (.int (a * b)) :=
  dMul_ok (lt_p1000 (by omega)) (lt_p1000 (by omega))
theorem dDiv_ok {a b : Int} (h : 0 < b) (hb : b < 1000000000000000000000000000000) : dDiv (.int a) (.int b) = .ok (.int (a / b)) := by
  unfold dDiv
  have h0 : b.natAbs ≠ 0 := by omega
  exact if_pos ⟨h, Nat.lt_of_lt_of_le ((Nat.log2_lt h0).mpr (lt_p1000 (n := b.natAbs) (by omega))) (by decide)⟩
theorem dMod_ok {a b : Int} (h : 0 < b) : dMod (.int a) (.int b) = .ok (.int (a % b)) := by
  unfold dMod; exact if_pos h
theorem dShl_ok {a b : Int} (h : 0 ≤ b ∧ b ≤ 1000000) (ha : -10000000000000000 < a ∧ a < 10000000000000000) : dShl (.int a) (.int b) = .ok (.int (a * 2 ^ b.toNat)) := by
  unfold dShl; exact if_pos ⟨h.1, h.2, Nat.lt_trans (by omega : a.natAbs < 10000000000000000) (by decide +kernel)⟩
theorem dShr_ok {a b : Int} (h : 0 ≤ b) : dShr (.int a) (.int b) = .ok (.int (a / 2 ^ b.toNat)) := by
  unfold dShr; exact if_pos h
theorem getAt_ok {ds : List D} {i : Int} (h : 0 ≤ i) (hl : i.toNat < ds.length) : getAt ds i = .ok ds[i.toNat] := by
  unfold getAt atI ixN
  rw [if_pos h, if_pos (by omega)]
  simp only [Option.bind_some, List.getElem?_eq_getElem hl]
theorem dIx_l {ds : List D} {i : Int} (h : 0 ≤ i) (hl : i.toNat < ds.length) : dIx (.list ds) (.int i) = .ok ds[i.toNat] := getAt_ok h hl
theorem dIx_ints {ns : List Int} {i : Int} (h : 0 ≤ i) (hl : i.toNat < ns.length) : dIx (.list (ns.map .int)) (.int i) = .ok (.int (ns.getD i.toNat 0)) := by
  rw [dIx_l h (by rw [List.length_map]; exact hl), List.getElem_map]
  rw [List.getD_eq_getElem?_getD, List.getElem?_eq_getElem hl]; rfl
theorem dIx_scr {ns : List Int} {i : Int} (h : 0 ≤ i) (hl : i.toNat < ns.length) : dIx (scrD ns) (.int i) = .ok (.int (ns.getD i.toNat 0)) := dIx_ints h hl
theorem dIx_neg1 {ds : List D} {d : D} : dIx (.list (ds ++ [d])) (.int (-1)) = .ok d := by
  show getAt _ _ = _
  unfold getAt atI ixN
  rw [if_neg (by decide), if_pos (by rw [List.length_append, List.length_singleton]; omega)]
  have : (-1 + ((ds ++ [d]).length : Int)).toNat = ds.length := by rw [List.length_append, List.length_singleton]; omega
  simp only [Option.bind_some, this, List.getElem?_append_right (Nat.le_refl _), Nat.sub_self, List.getElem?_cons_zero]
theorem fApp_ok {i : Nat} {F : List D → Rs D} {ρ ds : List D} {d : D} (h : F ρ = .ok d) (hi : ρ[i]? = some (.list ds)) (hl : ds.length ≤ 100000) : fApp i F ρ = .ok (.nx (ρ.set i (.list (ds ++ [d])))) := by
  unfold fApp; rw [h]; simp only [Rs.bind_ok, hi]; rw [if_pos hl]
theorem fPut_ok {i : Nat} {F K : List D → Rs D} {ρ ds : List D} {d : D} {j : Int} (h : F ρ = .ok d) (hk : K ρ = .ok (.int j)) (hi : ρ[i]? = some (.list ds)) (h0 : 0 ≤ j) (hl : j < ds.length) : fPut i F K ρ = .ok (.nx (ρ.set i (.list (ds.set j.toNat d)))) := by
  unfold fPut; rw [h]; simp only [Rs.bind_ok, hk, hi]
  unfold ixN; rw [if_pos h0, if_pos hl]
theorem fPut_last {i : Nat} {F K : List D → Rs D} {ρ ds : List D} {d e : D} (h : F ρ = .ok d) (hk : K ρ = .ok (.int (-1))) (hi : ρ[i]? = some (.list (ds ++ [e]))) : fPut i F K ρ = .ok (.nx (ρ.set i (.list (ds ++ [d])))) := by
  unfold fPut; rw [h]; simp only [Rs.bind_ok, hk, hi]
  unfold ixN; rw [if_neg (by decide), if_pos (by rw [List.length_append, List.length_singleton]; omega)]
  have : (-1 + ((ds ++ [e]).length : Int)).toNat = ds.length := by rw [List.length_append, List.length_singleton]; omega
  simp only [this]
  rw [List.set_append_right _ _ (Nat.le_refl _), Nat.sub_self]; rfl
theorem dEq_int {a b : Int} : dEq (.int a) (.int b) = .ok (.bool (decide (a = b))) := by
  unfold dEq
  rw [if_pos ⟨by rfl, by rfl⟩]
  rfl
theorem dNe_int {a b : Int} : dNe (.int a) (.int b) = .ok (.bool (!decide (a = b))) := by
  unfold dNe
  rw [if_pos ⟨by rfl, by rfl⟩]
  rfl
theorem canLay_ints : ∀ ns : List Int, PyData.canLayAll0 (ns.map .int) = true
  | [] => rfl
  | n :: ns => by
    show PyData.canLayAll0 (.int n :: ns.map .int) = true
    unfold PyData.canLayAll0
    rw [canLay_ints ns]; rfl
/-- data that may be compared -/
def Fit (n : Nat) (d : D) : Prop := d.canLay0 = true ∧ d.depth ≤ n
theorem Fit.mono {n m : Nat} {d : D} (h : Fit n d) (l : n ≤ m) : Fit m d := ⟨h.1, Nat.le_trans h.2 l⟩
theorem fit_int {n : Nat} {i : Int} : Fit n (.int i) := ⟨rfl, Nat.zero_le _⟩
theorem fit_bl {n : Nat} {i : Bool} : Fit n (.bool i) := ⟨rfl, Nat.zero_le _⟩
theorem fit_all {n : Nat} : ∀ {ds : List D}, (∀ d ∈ ds, Fit n d) → PyData.canLayAll0 ds = true ∧ PyData.depthAll ds ≤ n
  | [], _ => ⟨rfl, Nat.zero_le _⟩
  | d :: ds, h => by
    obtain ⟨h1, h2⟩ := fit_all (ds := ds) fun e he => h e (List.mem_cons_of_mem _ he)
    obtain ⟨h3, h4⟩ := h d List.mem_cons_self
    constructor
    · unfold PyData.canLayAll0; rw [h1, h3]; rfl
    · unfold PyData.depthAll; exact Nat.max_le.mpr ⟨h4, h2⟩
theorem fit_list {n : Nat} {ds : List D} (h : ∀ d ∈ ds, Fit n d) : Fit (n + 1) (.list ds) := by
  obtain ⟨h1, h2⟩ := fit_all h
  exact ⟨h1, by unfold PyData.depth; omega⟩
theorem fit_tuple {n : Nat} {ds : List D} (h : ∀ d ∈ ds, Fit n d) : Fit (n + 1) (.tuple ds) := by
  obtain ⟨h1, h2⟩ := fit_all h
  exact ⟨h1, by unfold PyData.depth; omega⟩
theorem fit_ints {n : Nat} {ns : List Int} : Fit (n + 1) (.list (ns.map .int)) := fit_list fun d h => by
  obtain ⟨i, _, rfl⟩ := List.mem_map.mp h
  exact fit_int
theorem Fit.sh {n : Nat} {d : D} (h : Fit n d) (l : n ≤ 64 := by decide) : SeqAt.shaped d = true := by
  unfold SeqAt.shaped
  rw [h.1, decide_eq_true (Nat.le_trans h.2 l)]; rfl
theorem dEq_self {n : Nat} {d : D} (h : Fit n d) (l : n ≤ 64 := by decide) : dEq d d = .ok (.bool true) := by
  unfold dEq
  rw [if_pos ⟨h.sh l, h.sh l⟩, SeqAt.eqv_refl d h.1]
theorem dNe_self {n : Nat} {d : D} (h : Fit n d) (l : n ≤ 64 := by decide) : dNe d d = .ok (.bool false) := by
  unfold dNe
  rw [if_pos ⟨h.sh l, h.sh l⟩, SeqAt.eqv_refl d h.1]; rfl
theorem all_nil {p : D → Prop} : ∀ d ∈ ([] : List D), p d := fun _ h => by cases h
theorem all_cons {p : D → Prop} {a : D} {r : List D} (h : p a) (h2 : ∀ d ∈ r, p d) : ∀ d ∈ a :: r, p d := fun d hd => by
  cases hd with
  | head => exact h
  | tail _ q => exact h2 d q

/-! ### what a run gives, and more -/
def Post {α : Type} (r : Rs α) (Q : α → Prop) : Prop := ∃ a, r = .ok a ∧ Q a
theorem Post.ok {α : Type} {Q : α → Prop} {a : α} (h : Q a) : Post (.ok a) Q := ⟨a, rfl, h⟩
theorem Post.of {α : Type} {r : Rs α} {Q : α → Prop} {a : α} (e : r = .ok a) (h : Q a) : Post r Q := ⟨a, e, h⟩
theorem Post.mono {α : Type} {r : Rs α} {Q Q' : α → Prop} (h : Post r Q) (m : ∀ a, Q a → Q' a) : Post r Q' := let ⟨a, e, q⟩ := h; ⟨a, e, m a q⟩
theorem Post.eq {α : Type} {r : Rs α} {a : α} (h : Post r fun b => b = a) : r = .ok a := by obtain ⟨b, e, q⟩ := h; rw [e, q]
theorem Post.bind {α β : Type} {r : Rs α} {f : α → Rs β} {Q : β → Prop} (h : Post r fun a => Post (f a) Q) : Post (r.bind f) Q := by obtain ⟨a, e, b, e2, q⟩ := h; exact ⟨b, by rw [e]; exact e2, q⟩
/-- the next, or the end by return -/
def Nx (R : List D → Prop) (Q : D → Prop) : Fl → Prop
  | .nx ρ => R ρ
  | .ret d => Q d
def sq (r : Rs Fl) (g : List D → Rs Fl) : Rs Fl := r.bind fun r => match r with
  | .nx ρ' => g ρ'
  | .ret d => .ok (.ret d)
theorem fSeq_eq {f g : List D → Rs Fl} {ρ : List D} : fSeq f g ρ = sq (f ρ) g := rfl
theorem sq_nx {g : List D → Rs Fl} {ρ : List D} : sq (.ok (.nx ρ)) g = g ρ := rfl
theorem sq_ret {g : List D → Rs Fl} {d : D} : sq (.ok (.ret d)) g = .ok (.ret d) := rfl
theorem post_sq {r : Rs Fl} {g : List D → Rs Fl} {R : List D → Prop} {Q : D → Prop} (h : Post r (Nx (fun ρ => Post (g ρ) (Nx R Q)) Q)) : Post (sq r g) (Nx R Q) := by
  obtain ⟨a, rfl, q⟩ := h
  cases a with
  | nx ρ => exact q
  | ret d => exact ⟨_, rfl, q⟩
theorem post_def {n : Nat} {f : List D → Rs Fl} {ds : List D} {Q : D → Prop} (h : Post (f (ds ++ List.replicate (n - ds.length) .none)) (Nx (fun _ => Q .none) Q)) : Post (fDef n f ds) Q := by
  obtain ⟨a, e, q⟩ := h
  unfold fDef
  rw [e]
  cases a with
  | nx ρ => exact ⟨_, rfl, q⟩
  | ret d => exact ⟨_, rfl, q⟩
theorem post_defO {n : Nat} {f : List D → Rs Fl} {ds : List D} {Q : D → Prop} (h : Post (f (ds ++ List.replicate (n - ds.length) .none)) (Nx (fun _ => False) Q)) : Post (fDefO n f ds) Q := by
  obtain ⟨a, e, q⟩ := h
  unfold fDefO
  rw [e]
  cases a with
  | nx ρ => exact q.elim
  | ret d => exact ⟨_, rfl, q⟩
theorem post_forL {g : D → List D → Option (List D)} {f : List D → Rs Fl} {Q : D → Prop} (R : Nat → List D → Prop) : ∀ (xs : List D) (k : Nat) (ρ : List D), R k ρ →
    (∀ (j : Nat) (h : j < xs.length) (ρ : List D), R (k + j) ρ → ∃ ρ1, g xs[j] ρ = some ρ1 ∧ Post (f ρ1) (Nx (R (k + j + 1)) Q)) → Post (forL g f xs ρ) (Nx (R (k + xs.length)) Q)
  | [], k, ρ, h0, hs => ⟨_, rfl, h0⟩
  | x :: xs, k, ρ, h0, hs => by
    obtain ⟨ρ1, e1, a, e2, h1⟩ := hs 0 (Nat.succ_pos _) ρ h0
    have e1' : g x ρ = some ρ1 := e1
    unfold forL
    simp only [e1', e2, Rs.bind_ok]
    cases a with
    | ret d => exact ⟨_, rfl, h1⟩
    | nx ρ2 =>
      have q : k + (x :: xs).length = k + 1 + xs.length := by rw [List.length_cons]; omega
      rw [q]
      refine post_forL R xs (k + 1) ρ2 h1 fun j h ρ hr => ?_
      have q : k + 1 + j = k + (j + 1) := by omega
      rw [q] at hr ⊢
      exact hs (j + 1) (Nat.succ_lt_succ h) ρ hr
theorem post_for {it : List D → Rs (List D)} {g : D → List D → Option (List D)} {f : List D → Rs Fl} {ρ xs : List D} {Q : D → Prop} (R : Nat → List D → Prop) (hit : it ρ = .ok xs) (h0 : R 0 ρ)
    (hs : ∀ (j : Nat) (h : j < xs.length) (ρ : List D), R j ρ → ∃ ρ1, g xs[j] ρ = some ρ1 ∧ Post (f ρ1) (Nx (R (j + 1)) Q)) : Post (fFor it g f ρ) (Nx (R xs.length) Q) := by
  have := post_forL (g := g) (f := f) (Q := Q) R xs 0 ρ h0 fun j h ρ hr => by
    rw [Nat.zero_add] at hr ⊢
    exact hs j h ρ hr
  rw [Nat.zero_add] at this
  unfold fFor
  rw [hit]
  exact this
theorem post_in {α : Type} {it : List D → Rs (List D)} {i : Nat} {f : List D → Rs Fl} {ρ : List D} {Q : D → Prop} (T : α → D) (xs : List α) (R : Nat → List D → Prop) (hit : it ρ = .ok (xs.map T)) (h0 : R 0 ρ)
    (hs : ∀ (j : Nat) (h : j < xs.length) (ρ : List D), R j ρ → Post (f (ρ.set i (T xs[j]))) (Nx (R (j + 1)) Q)) : Post (fFor it (gN i) f ρ) (Nx (R xs.length) Q) := by
  have := post_for (g := gN i) (f := f) (Q := Q) R hit h0 fun j h ρ hr => by
    rw [List.length_map] at h
    refine ⟨ρ.set i (T xs[j]), ?_, hs j h ρ hr⟩
    rw [List.getElem_map]; rfl
  rwa [List.length_map] at this
theorem post_rg {it : List D → Rs (List D)} {i : Nat} {f : List D → Rs Fl} {ρ : List D} {Q : D → Prop} (lo : Int) (n : Nat) (R : Nat → List D → Prop) (hit : it ρ = .ok (rngD lo n)) (h0 : R 0 ρ)
    (hs : ∀ (j : Nat) (h : j < n) (ρ : List D), R j ρ → Post (f (ρ.set i (.int (lo + (j : Int))))) (Nx (R (j + 1)) Q)) : Post (fFor it (gN i) f ρ) (Nx (R n) Q) := by
  have := post_in (i := i) (f := f) (Q := Q) (fun (j : Nat) => (.int (lo + (j : Int)) : D)) (List.range n) R hit h0 fun j h ρ hr => by
    rw [List.length_range] at h
    rw [List.getElem_range]
    exact hs j h ρ hr
  rwa [List.length_range] at this
/-- a loop ahead of more: what holds at its end is told on -/
theorem sq_in {α : Type} {it : List D → Rs (List D)} {i : Nat} {f g : List D → Rs Fl} {ρ : List D} {R' : List D → Prop} {Q : D → Prop} (T : α → D) (xs : List α) (R : Nat → List D → Prop) (hit : it ρ = .ok (xs.map T)) (h0 : R 0 ρ)
    (hs : ∀ (j : Nat) (h : j < xs.length) (ρ : List D), R j ρ → Post (f (ρ.set i (T xs[j]))) (Nx (R (j + 1)) Q)) (k : ∀ ρ, R xs.length ρ → Post (g ρ) (Nx R' Q)) : Post (sq (fFor it (gN i) f ρ) g) (Nx R' Q) :=
  post_sq ((post_in T xs R hit h0 hs).mono fun a h => by cases a with | nx ρ => exact k ρ h | ret d => exact h)
theorem sq_rg {it : List D → Rs (List D)} {i : Nat} {f g : List D → Rs Fl} {ρ : List D} {R' : List D → Prop} {Q : D → Prop} (lo : Int) (n : Nat) (R : Nat → List D → Prop) (hit : it ρ = .ok (rngD lo n)) (h0 : R 0 ρ)
    (hs : ∀ (j : Nat) (h : j < n) (ρ : List D), R j ρ → Post (f (ρ.set i (.int (lo + (j : Int))))) (Nx (R (j + 1)) Q)) (k : ∀ ρ, R n ρ → Post (g ρ) (Nx R' Q)) : Post (sq (fFor it (gN i) f ρ) g) (Nx R' Q) :=
  post_sq ((post_rg lo n R hit h0 hs).mono fun a h => by cases a with | nx ρ => exact k ρ h | ret d => exact h)
theorem bAnd_ok {F G : List D → Rs Bool} {ρ : List D} {a b : Bool} (h : F ρ = .ok a) (h2 : G ρ = .ok b) : bAnd F G ρ = .ok (a && b) := by unfold bAnd; rw [h]; cases a <;> first | exact h2 | rfl
theorem bOr_ok {F G : List D → Rs Bool} {ρ : List D} {a b : Bool} (h : F ρ = .ok a) (h2 : G ρ = .ok b) : bOr F G ρ = .ok (a || b) := by unfold bOr; rw [h]; cases a <;> first | exact h2 | rfl
theorem if_le {α : Type} {n m : Nat} {a b : α} (h : n ≤ m) : (if n ≤ m then a else b) = a := if_pos h
theorem dLen_l {ds : List D} : dLen [.list ds] = .ok (.int ds.length) := rfl
theorem dLen_scr {ns : List Int} : dLen [scrD ns] = .ok (.int ns.length) := by
  show Rs.ok (PyData.int (List.length (ns.map _) : Nat)) = _
  rw [List.length_map]
theorem dMin_2 {a b : Int} : dMin [.int a, .int b] = .ok (.int (imin a b)) := rfl
theorem dMax_2 {a b : Int} : dMax [.int a, .int b] = .ok (.int (imax a b)) := rfl
theorem dInt_b {b : Bool} : dInt [.bool b] = .ok (.int (if b then 1 else 0)) := rfl
theorem dInt_i {i : Int} : dInt [.int i] = .ok (.int i) := rfl
theorem dList_l {ds : List D} : dList [.list ds] = .ok (.list ds) := rfl
theorem dTuple_l {ds : List D} : dTuple [.list ds] = .ok (.tuple ds) := rfl
theorem dSum_ints {ns : List Int} : dSum [.list (ns.map .int)] = .ok (.int ns.sum) := by
  unfold dSum
  simp only [intsOf_map]
theorem isa_ii {i : Int} : isaB "int" (.int i) = .ok (.bool true) := rfl
theorem isa_ib {i : Int} : isaB "bool" (.int i) = .ok (.bool false) := rfl
def cutL {α : Type} (xs : List α) (lo hi : Option Int) : List α := (xs.drop (HT.sIx xs.length 0 lo)).take (HT.sIx xs.length xs.length hi - HT.sIx xs.length 0 lo)
theorem cutD_map {α : Type} (f : α → D) (ns : List α) (lo hi : Option Int) : cutD (ns.map f) lo hi = (cutL ns lo hi).map f := by
  unfold cutD cutL
  rw [List.length_map, List.map_take, List.map_drop]
theorem cutL_len {α : Type} {ns : List α} {lo hi : Option Int} : (cutL ns lo hi).length ≤ ns.length := by
  unfold cutL
  rw [List.length_take, List.length_drop]; omega
theorem cutL_mem {α : Type} {ns : List α} {lo hi : Option Int} {a : α} (h : a ∈ cutL ns lo hi) : a ∈ ns := List.mem_of_mem_drop (List.mem_of_mem_take h)
theorem dSl_scr {ns : List Int} {lo hi : Option Int} : dSl (scrD ns) lo hi = .ok (.list ((cutL ns lo hi).map .int)) := by
  show Rs.ok (PyData.list (cutD (ns.map .int) lo hi)) = _
  rw [cutD_map]
theorem dSl_ints {ns : List Int} {lo hi : Option Int} : dSl (.list (ns.map .int)) lo hi = .ok (.list ((cutL ns lo hi).map .int)) := by
  show Rs.ok (PyData.list (cutD (ns.map .int) lo hi)) = _
  rw [cutD_map]
theorem map_app1 {ns : List Int} {i : Int} : ns.map PyData.int ++ [PyData.int i] = (ns ++ [i]).map PyData.int := by rw [List.map_append]; rfl
theorem map_setI {ns : List Int} {i : Int} {k : Nat} : (ns.map PyData.int).set k (PyData.int i) = (ns.set k i).map PyData.int := by rw [List.map_set]
theorem rep_z {n : Nat} : (List.replicate n [PyData.int 0]).flatten = (List.replicate n (0 : Int)).map PyData.int := by
  induction n with
  | zero => rfl
  | succ n ih => rw [List.replicate_succ, List.flatten_cons, ih]; rfl
theorem bit1 {x : Int} {i : Nat} : Builtin.bitAnd (x / 2 ^ i) 1 = x / 2 ^ i % 2 := by
  have := Bits.bit_at (x := x) i
  rw [← this]
  congr 1
  rw [Int.fdiv_eq_ediv_of_nonneg _ (by exact Int.le_of_lt (Int.pow_pos (by decide)))]
theorem dRep_z {p : Nat} (h : p ≤ 100000) : dRepL (.list [.int 0]) (.int p) = .ok (.list ((List.replicate p (0 : Int)).map .int)) := by
  unfold dRepL
  rw [← rep_z]
  exact if_pos ⟨by omega, by rw [List.length_singleton]; omega, by omega⟩
theorem pow_small {n : Nat} (h : n ≤ 90) : (0 : Int) < 2 ^ n ∧ (2 : Int) ^ n < 1000000000000000000000000000000 := by
  have h1 : 2 ^ n ≤ 2 ^ 90 := Nat.pow_le_pow_right (by decide) h
  have h2 : 2 ^ 90 < 1000000000000000000000000000000 := by decide +kernel
  have h3 : ((2 ^ n : Nat) : Int) = (2 : Int) ^ n := Int.natCast_pow 2 n
  have h4 : 0 < 2 ^ n := Nat.pos_of_ne_zero (by exact Nat.ne_of_gt (Nat.pow_pos (by decide)))
  omega
theorem post_iff {B : List D → Rs Bool} {f g : List D → Rs Fl} {ρ : List D} {Q : Fl → Prop} {b : Bool} (h : B ρ = .ok b) (h1 : b = true → Post (f ρ) Q) (h2 : b = false → Post (g ρ) Q) : Post (fIfS B f g ρ) Q := by
  rw [fIfS_ok h]
  cases b with
  | true => exact h1 rfl
  | false => exact h2 rfl
theorem sq_iff {B : List D → Rs Bool} {f g k : List D → Rs Fl} {ρ : List D} {R : List D → Prop} {Q : D → Prop} {b : Bool} (h : B ρ = .ok b) (h1 : b = true → Post (sq (f ρ) k) (Nx R Q)) (h2 : b = false → Post (sq (g ρ) k) (Nx R Q)) : Post (sq (fIfS B f g ρ) k) (Nx R Q) := by
  rw [fIfS_ok h]
  cases b with
  | true => exact h1 rfl
  | false => exact h2 rfl
theorem last_in {α : Type} {it : List D → Rs (List D)} {i : Nat} {f : List D → Rs Fl} {ρ : List D} {R' : List D → Prop} {Q : D → Prop} (T : α → D) (xs : List α) (R : Nat → List D → Prop) (hit : it ρ = .ok (xs.map T)) (h0 : R 0 ρ)
    (hs : ∀ (j : Nat) (h : j < xs.length) (ρ : List D), R j ρ → Post (f (ρ.set i (T xs[j]))) (Nx (R (j + 1)) Q)) (k : ∀ ρ, R xs.length ρ → R' ρ) : Post (fFor it (gN i) f ρ) (Nx R' Q) :=
  (post_in T xs R hit h0 hs).mono fun a h => by cases a with | nx ρ => exact k ρ h | ret d => exact h
theorem last_rg {it : List D → Rs (List D)} {i : Nat} {f : List D → Rs Fl} {ρ : List D} {R' : List D → Prop} {Q : D → Prop} (lo : Int) (n : Nat) (R : Nat → List D → Prop) (hit : it ρ = .ok (rngD lo n)) (h0 : R 0 ρ)
    (hs : ∀ (j : Nat) (h : j < n) (ρ : List D), R j ρ → Post (f (ρ.set i (.int (lo + (j : Int))))) (Nx (R (j + 1)) Q)) (k : ∀ ρ, R n ρ → R' ρ) : Post (fFor it (gN i) f ρ) (Nx R' Q) :=
  (post_rg lo n R hit h0 hs).mono fun a h => by cases a with | nx ρ => exact k ρ h | ret d => exact h
theorem dIx_c0 {a : D} {r : List D} : dIx (.list (a :: r)) (.int 0) = .ok a := by
  rw [dIx_l (by decide) (by rw [List.length_cons]; exact Nat.succ_pos _)]; rfl
theorem dIx_c1 {a b : D} {r : List D} : dIx (.list (a :: b :: r)) (.int 1) = .ok b := by
  rw [dIx_l (by decide) (by simp only [List.length_cons]; show 1 < _; omega)]; rfl
theorem dIx_c2 {a b c : D} {r : List D} : dIx (.list (a :: b :: c :: r)) (.int 2) = .ok c := by
  rw [dIx_l (by decide) (by simp only [List.length_cons]; show 2 < _; omega)]; rfl
theorem dIx_c3 {a b c d : D} {r : List D} : dIx (.list (a :: b :: c :: d :: r)) (.int 3) = .ok d := by
  rw [dIx_l (by decide) (by simp only [List.length_cons]; show 3 < _; omega)]; rfl
theorem dIx_t0 {a : D} {r : List D} : dIx (.tuple (a :: r)) (.int 0) = .ok a := by
  show getAt _ _ = _
  rw [getAt_ok (by decide) (by rw [List.length_cons]; exact Nat.succ_pos _)]; rfl
theorem dIx_t1 {a b : D} {r : List D} : dIx (.tuple (a :: b :: r)) (.int 1) = .ok b := by
  show getAt _ _ = _
  rw [getAt_ok (by decide) (by simp only [List.length_cons]; show 1 < _; omega)]; rfl
theorem dIx_t2 {a b c : D} {r : List D} : dIx (.tuple (a :: b :: c :: r)) (.int 2) = .ok c := by
  show getAt _ _ = _
  rw [getAt_ok (by decide) (by simp only [List.length_cons]; show 2 < _; omega)]; rfl
theorem dIx_t3 {a b c d : D} {r : List D} : dIx (.tuple (a :: b :: c :: d :: r)) (.int 3) = .ok d := by
  show getAt _ _ = _
  rw [getAt_ok (by decide) (by simp only [List.length_cons]; show 3 < _; omega)]; rfl
theorem sum_snoc : ∀ {xs : List Int} {a : Int}, (xs ++ [a]).sum = xs.sum + a
  | [], a => by simp
  | x :: xs, a => by
    have := sum_snoc (xs := xs) (a := a)
    simp only [List.cons_append, List.sum_cons] at this ⊢
    omega
theorem take_snoc {α : Type} {xs : List α} {j : Nat} (h : j < xs.length) : xs.take (j + 1) = xs.take j ++ [xs[j]] := by
  rw [List.take_succ_eq_append_getElem h]
end FL
end
section
/-! FL, part Q: more plain tools: texts, slices, the greatest. -/
namespace FL
open PySem L2
theorem dIx_s {z : Str} {i : Int} (h : 0 ≤ i) (hl : i.toNat < z.cps.toList.length) (hz : z.length ≤ 1000000) : dIx (.str z) (.int i) = .ok (.str ⟨#[z.cps.toList[i.toNat]]⟩) := by
  show (if z.length ≤ 1000000 then _ else _) = _
  rw [if_pos hz]
  unfold atI ixN
  rw [if_pos h, if_pos (by omega)]
  simp only [Option.bind_some, List.getElem?_eq_getElem hl]
abbrev okS (z : Str) : Prop := PyData.strOk z = true
theorem okS_at {z : Str} (h : okS z) {k : Nat} (hl : k < z.cps.toList.length) : okS ⟨#[z.cps.toList[k]]⟩ := by
  unfold okS PyData.strOk at h ⊢
  rw [Array.all_eq_true'] at h ⊢
  intro x hx
  have : x = z.cps.toList[k] := by simpa using hx
  rw [this]
  exact h _ (by rw [← Array.mem_toList_iff]; exact List.getElem_mem hl)
theorem okS_app {a b : Str} (h : okS a) (h2 : okS b) : okS (a ++ b) := by
  unfold okS PyData.strOk at *
  show (a.cps ++ b.cps).all _ = true
  rw [Array.all_append, h, h2]; rfl
theorem len_app {a b : Str} : (a ++ b).length = a.length + b.length := by
  show (a.cps ++ b.cps).size = _
  rw [Array.size_append]; rfl
theorem dIx_sE {z : Str} {i : Int} (h : 0 ≤ i) (hl : i < z.length) (hz : z.length ≤ 1000000) (ok : okS z) : ∃ a : Str, dIx (.str z) (.int i) = .ok (.str a) ∧ okS a ∧ a.length = 1 := by
  have hl' : i.toNat < z.cps.toList.length := by
    have : z.cps.toList.length = z.length := Array.length_toList
    omega
  exact ⟨_, dIx_s h hl' hz, okS_at ok hl', rfl⟩
theorem dAdd_str {a b : Str} (h : a.length + b.length ≤ 1000000) : dAdd (.str a) (.str b) = .ok (.str (a ++ b)) := if_pos h
theorem fit_str {n : Nat} {z : Str} (h : okS z) : Fit n (.str z) := ⟨h, Nat.zero_le _⟩
theorem fit_none {n : Nat} : Fit n .none := ⟨rfl, Nat.zero_le _⟩
theorem dEq_str {a b : Str} (ha : okS a) (hb : okS b) : dEq (.str a) (.str b) = .ok (.bool (a == b)) := by
  unfold dEq
  rw [if_pos ⟨(fit_str (n := 0) ha).sh, (fit_str (n := 0) hb).sh⟩]; rfl
theorem dNe_str {a b : Str} (ha : okS a) (hb : okS b) : dNe (.str a) (.str b) = .ok (.bool (!(a == b))) := by
  unfold dNe
  rw [if_pos ⟨(fit_str (n := 0) ha).sh, (fit_str (n := 0) hb).sh⟩]; rfl
theorem dPow60 : dPow (.int 10) (.int 60) = .ok (.int 1000000000000000000000000000000000000000000000000000000000000) :=
  (if_pos (by decide +kernel) : (if (0 : Int) ≤ 60 ∧ (60 : Int) ≤ 1000000 ∧ (10 : Int).natAbs < 2 ^ 64 then Rs.ok (PyData.int (10 ^ (60 : Int).toNat)) else .no) = _)
theorem dDiv_g {a : Int} {b : Nat} (h : 0 < b) (hb : b.log2 < 9000) : dDiv (.int a) (.int b) = .ok (.int (a / b)) :=
  if_pos ⟨by omega, by rw [Int.natAbs_natCast]; exact hb⟩
theorem dSl_l {ds : List D} {lo hi : Option Int} : dSl (.list ds) lo hi = .ok (.list (cutD ds lo hi)) := rfl
theorem cutD_mem {ds : List D} {lo hi : Option Int} {d : D} (h : d ∈ cutD ds lo hi) : d ∈ ds := List.mem_of_mem_drop (List.mem_of_mem_take h)
theorem dMax_ints {a : Int} {ns : List Int} : dMax [.list ((a :: ns).map .int)] = .ok (.int (ns.foldl imax a)) := by
  show (match intsOf (ns.map .int) with | some ns => _ | none => _) = _
  rw [intsOf_map]
theorem dCatL_l {a b : List D} (h : a.length + b.length ≤ 100000) : dCatL (.list a) (.list b) = .ok (.list (a ++ b)) := if_pos h
theorem dAdd_l {a b : List D} (h : a.length + b.length ≤ 100000) : dAdd (.list a) (.list b) = .ok (.list (a ++ b)) := if_pos h
theorem dMul_z {p : Nat} (h : p ≤ 100000) : dMul (.list [.int 0]) (.int p) = .ok (.list ((List.replicate p (0 : Int)).map .int)) := by
  unfold dMul
  rw [← rep_z]
  exact if_pos ⟨by omega, by rw [List.length_singleton]; omega, by omega⟩
theorem dAdd_i {a b : Int} : dAdd (.int a) (.int b) = .ok (.int (a + b)) := rfl
theorem sq_sq {r : Rs Fl} {f g : List D → Rs Fl} : sq (sq r f) g = sq r fun ρ => sq (f ρ) g := by
  cases r with
  | ok a => cases a <;> rfl
  | er _ => rfl
  | no => rfl
/-- the first ones, the last ones -/
theorem cutL_to {α : Type} {xs : List α} {k : Nat} (h : k ≤ xs.length) : cutL xs none (some (k : Int)) = xs.take k := by
  unfold cutL
  have e0 : HT.sIx xs.length 0 none = 0 := rfl
  have e1 : HT.sIx xs.length xs.length (some (k : Int)) = k := by rw [HT.sIx_nat]; omega
  rw [e0, e1]; rfl
theorem cutL_from {α : Type} {xs : List α} {k : Nat} (h : k ≤ xs.length) : cutL xs (some (k : Int)) none = xs.drop k := by
  unfold cutL
  have e0 : HT.sIx xs.length 0 (some (k : Int)) = k := by rw [HT.sIx_nat]; omega
  have e1 : HT.sIx xs.length xs.length none = xs.length := rfl
  rw [e0, e1, List.take_of_length_le (by rw [List.length_drop]; omega)]
end FL
end
section
/-! FL, part S: plain tools for loops with while, sets as bits. -/
namespace FL
open PySem
theorem whileN_post {c : List D → Rs Bool} {f : List D → Rs Fl} {Q : D → Prop} {Re : List D → Prop} (R : Nat → List D → Prop)
    (hs : ∀ m ρ, R m ρ → (c ρ = .ok false ∧ Re ρ) ∨ (c ρ = .ok true ∧ Post (f ρ) (Nx (fun ρ' => ∃ m', m' < m ∧ R m' ρ') Q))) : ∀ m ρ, R m ρ → ∃ n r, whileN c f n ρ = .ok r ∧ Nx Re Q r := by
  intro m
  induction m using Nat.strongRecOn with
  | ind m ih =>
    intro ρ h
    rcases hs m ρ h with ⟨e, q⟩ | ⟨e, a, e2, q⟩
    · exact ⟨1, .nx ρ, by unfold whileN; rw [e]; rfl, q⟩
    · cases a with
      | ret d => exact ⟨1, .ret d, by unfold whileN; rw [e]; simp only [Rs.nx, Rs.bind_ok, if_true, e2], q⟩
      | nx ρ2 =>
        obtain ⟨m', lt, q⟩ := q
        obtain ⟨n, r, e3, q3⟩ := ih m' lt ρ2 q
        exact ⟨n + 1, r, by unfold whileN; rw [e]; simp only [Rs.nx, Rs.bind_ok, if_true, e2, e3], q3⟩
theorem post_while {c : List D → Rs Bool} {f : List D → Rs Fl} {Q : D → Prop} {Re : List D → Prop} {ρ : List D} (R : Nat → List D → Prop) (m : Nat) (h0 : R m ρ)
    (hs : ∀ m ρ, R m ρ → (c ρ = .ok false ∧ Re ρ) ∨ (c ρ = .ok true ∧ Post (f ρ) (Nx (fun ρ' => ∃ m', m' < m ∧ R m' ρ') Q))) : Post (fWhile c f ρ) (Nx Re Q) := by
  obtain ⟨n, r, e, q⟩ := whileN_post R hs m ρ h0
  exact ⟨r, fWhile_eq e (fun z => nomatch z), q⟩
theorem sq_while {c : List D → Rs Bool} {f g : List D → Rs Fl} {Q : D → Prop} {Re R' : List D → Prop} {ρ : List D} (R : Nat → List D → Prop) (m : Nat) (h0 : R m ρ)
    (hs : ∀ m ρ, R m ρ → (c ρ = .ok false ∧ Re ρ) ∨ (c ρ = .ok true ∧ Post (f ρ) (Nx (fun ρ' => ∃ m', m' < m ∧ R m' ρ') Q))) (k : ∀ ρ, Re ρ → Post (g ρ) (Nx R' Q)) : Post (sq (fWhile c f ρ) g) (Nx R' Q) :=
  post_sq ((post_while R m h0 hs).mono fun a h => by cases a with | nx ρ => exact k ρ h | ret d => exact h)
/-! ### bits -/
def bitB (m : Int) (i : Nat) : Bool := decide (m / 2 ^ i % 2 = 1)
theorem pow_c (n : Nat) : ((2 ^ n : Nat) : Int) = (2 : Int) ^ n := Int.natCast_pow 2 n
theorem pow_le {a b : Nat} (h : a ≤ b) : (2 : Int) ^ a ≤ 2 ^ b := by
  rw [← pow_c, ← pow_c]; exact Int.ofNat_le.mpr (Nat.pow_le_pow_right (by decide) h)
theorem pow_pos (a : Nat) : (0 : Int) < 2 ^ a := Int.pow_pos (by decide)
theorem bitB_big {m : Int} {i : Nat} (h0 : 0 ≤ m) (h : m < 2 ^ i) : bitB m i = false := by
  unfold bitB
  rw [Int.ediv_eq_zero_of_lt h0 h]; rfl
theorem bits_more {m : Int} {a : Nat} (h0 : 0 ≤ m) (h : m < 2 ^ a) : ∀ b, a ≤ b → (List.range b).filter (bitB m) = (List.range a).filter (bitB m) := by
  intro b l
  induction l with
  | refl => rfl
  | @step b l ih =>
    rw [List.range_succ, List.filter_append, ih]
    rw [show [b].filter (bitB m) = [] by
      rw [List.filter_cons_of_neg (by rw [bitB_big h0 (Int.lt_of_lt_of_le h (pow_le l))]; exact Bool.false_ne_true)]; rfl, List.append_nil]
theorem bits_eq {m : Int} {a b : Nat} (h0 : 0 ≤ m) (h : m < 2 ^ a) (h2 : m < 2 ^ b) : (List.range b).filter (bitB m) = (List.range a).filter (bitB m) := by
  rcases Nat.le_total a b with l | l
  · exact bits_more h0 h b l
  · exact (bits_more h0 h2 a l).symm
theorem xor_lt {a b : Int} {n : Nat} (ha : 0 ≤ a) (ha2 : a < 2 ^ n) (hb : 0 ≤ b) (hb2 : b < 2 ^ n) : 0 ≤ Builtin.bitXor a b ∧ Builtin.bitXor a b < 2 ^ n := by
  rw [Bits.bitXor_pp ha hb]
  refine ⟨Int.natCast_nonneg _, ?_⟩
  rw [← pow_c] at *
  exact Int.ofNat_lt.mpr (Nat.xor_lt_two_pow (by omega) (by omega))
/-- members of bits -/
noncomputable def membersB : List D → Rs Fl :=
  (fSeq (fIfS (tT (fB dEq (fB dBand (fVar 2) (fC (.int 1))) (fC (.int 1)))) (fApp 1 (fVar 3)) fNext)
    (fSeq (fSet 2 (fB dShr (fVar 2) (fC (.int 1))))
    (fSet 3 (fB dAdd (fVar 3) (fC (.int 1))))))
noncomputable def membersF : List D → Rs D := fDef 4 (fSeq (fSet 1 (fLst aNil))
    (fSeq (fSet 2 (fVar 0))
    (fSeq (fSet 3 (fC (.int 0)))
    (fSeq (fWhile (tT (fB dGt (fVar 2) (fC (.int 0)))) membersB)
    (fRet (fVar 1))))))
def memb (m : Int) (L : Nat) : List Nat := (List.range L).filter (bitB m)
theorem memb_succ {m : Int} {i : Nat} : memb m (i + 1) = memb m i ++ if bitB m i then [i] else [] := by
  unfold memb
  rw [List.range_succ, List.filter_append]
  cases hb : bitB m i <;> simp [List.filter, hb]
def LN (ns : List Nat) : D := .list (ns.map fun i : Nat => .int (i : Int))
theorem members_ok {m : Int} {L : Nat} (h0 : 0 ≤ m) (h : m < 2 ^ L) (hL : L ≤ 100000) : membersF [.int m] = .ok (LN (memb m L)) := by
  refine Post.eq (post_def ?_)
  refine sq_while (fun k ρ => ∃ j : Nat, j + k = L + 1 ∧ (1 ≤ k) ∧ ρ = [.int m, LN ((List.range j).filter (bitB m)), .int (m / 2 ^ j), .int (j : Int)]) (Re := fun ρ => ∃ g2 g3 : D, ρ = [.int m, LN (memb m L), g2, g3]) (Q := fun d => d = LN (memb m L)) (L + 1) ⟨0, by omega, by omega, by
      show [_, _, PyData.int m, _] = [_, _, PyData.int (m / 1), _]
      rw [Int.ediv_one]; rfl⟩ ?_ ?_
  · rintro k ρ ⟨j, hj, hk, rfl⟩
    have hd : 0 ≤ m / 2 ^ j := Int.ediv_nonneg h0 (Int.le_of_lt (pow_pos j))
    by_cases hz : 0 < m / 2 ^ j
    · refine .inr ⟨by show FL.tB (Rs.ok (PyData.bool (decide (0 < m / 2 ^ j)))) = _; rw [decide_eq_true hz]; rfl, ?_⟩
      have hjL : j < L := by
        rcases Nat.lt_or_ge j L with l | l
        · exact l
        · rw [Int.ediv_eq_zero_of_lt h0 (Int.lt_of_lt_of_le h (pow_le l))] at hz; omega
      have hnext : m / 2 ^ j / 2 ^ (1 : Int).toNat = m / 2 ^ (j + 1) := by
        rw [Int.pow_succ, show (2 : Int) ^ (1 : Int).toNat = 2 from rfl, Int.ediv_ediv_of_nonneg (Int.le_of_lt (pow_pos j))]
      have hsn : (List.range (j + 1)).filter (bitB m) = (List.range j).filter (bitB m) ++ if bitB m j then [j] else [] := by
        rw [List.range_succ, List.filter_append]
        cases hb : bitB m j <;> simp [List.filter, hb]
      have tail : ∀ (ns : List Nat), ns = (List.range (j + 1)).filter (bitB m) → Post (fSeq (fSet 2 (fB dShr (fVar 2) (fC (.int 1)))) (fSet 3 (fB dAdd (fVar 3) (fC (.int 1)))) [.int m, LN ns, .int (m / 2 ^ j), .int (j : Int)])
          (Nx (fun ρ => ∃ m', m' < k ∧ ∃ j : Nat, j + m' = L + 1 ∧ 1 ≤ m' ∧ ρ = [.int m, LN ((List.range j).filter (bitB m)), .int (m / 2 ^ j), .int (j : Int)]) fun d => d = LN (memb m L)) := by
        rintro ns rfl
        refine ⟨.nx [.int m, LN ((List.range (j + 1)).filter (bitB m)), .int (m / 2 ^ (j + 1)), .int ((j + 1 : Nat) : Int)], ?_, k - 1, by omega, j + 1, by omega, by omega, rfl⟩
        rw [← hnext]; rfl
      refine post_sq ?_
      have hc : tT (fB dEq (fB dBand (fVar 2) (fC (.int 1))) (fC (.int 1))) [.int m, LN ((List.range j).filter (bitB m)), .int (m / 2 ^ j), .int (j : Int)] = .ok (bitB m j) := by
        show FL.tB ((dEq (PyData.int (Builtin.bitAnd (m / 2 ^ j) 1)) (PyData.int 1))) = _
        rw [bit1, dEq_int]; rfl
      refine post_iff hc (fun b => ?_) fun b => ?_
      · refine ⟨.nx [.int m, LN ((List.range (j + 1)).filter (bitB m)), .int (m / 2 ^ j), .int (j : Int)], ?_, tail _ rfl⟩
        rw [fApp_ok (ds := ((List.range j).filter (bitB m)).map fun i : Nat => PyData.int (i : Int)) (d := .int (j : Int)) rfl rfl (by rw [List.length_map]; exact Nat.le_trans (List.length_filter_le _ _) (by rw [List.length_range]; omega))]
        rw [hsn, b]
        show Rs.ok (Fl.nx [_, PyData.list _, _, _]) = Rs.ok (Fl.nx [_, PyData.list _, _, _])
        rw [if_pos rfl, List.map_append]; rfl
      · refine ⟨_, rfl, tail _ ?_⟩
        rw [hsn, b]
        show _ = _ ++ []
        rw [List.append_nil]
    · refine .inl ⟨by show FL.tB (Rs.ok (PyData.bool (decide (0 < m / 2 ^ j)))) = _; rw [decide_eq_false hz]; rfl, .int (m / 2 ^ j), .int (j : Int), ?_⟩
      have hz : m / 2 ^ j = 0 := by omega
      have hm : m < 2 ^ j := by
        have := Int.lt_mul_ediv_self_add (x := m) (k := 2 ^ j) (pow_pos j)
        rw [hz] at this
        omega
      rw [show memb m L = (List.range j).filter (bitB m) from bits_eq h0 hm h]
  · rintro ρ ⟨g2, g3, rfl⟩
    exact ⟨_, rfl, rfl⟩
end FL
end
section
/-! FL, part U: more of sets as bits: masks, how many, the least. -/
namespace FL
open PySem
/-- how many bits -/
def pc (m : Nat) : Nat := if h : m = 0 then 0 else pc (m / 2) + m % 2
termination_by m
theorem pc_0 : pc 0 = 0 := by rw [pc]; rfl
theorem pc_half (m : Nat) : pc m = pc (m / 2) + m % 2 := by
  rcases Nat.eq_zero_or_pos m with rfl | h
  · show pc 0 = pc 0 + 0; rfl
  · rw [pc, dif_neg (by omega)]
theorem and_half (a b : Nat) : (a &&& b) / 2 = a / 2 &&& b / 2 := by
  have := Nat.shiftRight_and_distrib (a := a) (b := b) (i := 1)
  simpa [Nat.shiftRight_eq_div_pow] using this
theorem xor_half (a b : Nat) : (a ^^^ b) / 2 = a / 2 ^^^ b / 2 := by
  have := Nat.shiftRight_xor_distrib (a := a) (b := b) (i := 1)
  simpa [Nat.shiftRight_eq_div_pow] using this
theorem and_mod2 (a b : Nat) : (a &&& b) % 2 = (a % 2) * (b % 2) := by
  have h : (a &&& b) % 2 = (a % 2 &&& b % 2) := Nat.and_mod_two_pow (n := 1)
  rw [h]
  rcases Nat.mod_two_eq_zero_or_one a with e | e <;> rcases Nat.mod_two_eq_zero_or_one b with e2 | e2 <;> rw [e, e2] <;> rfl
theorem xor_mod2 (a b : Nat) : (a ^^^ b) % 2 = (a + b) % 2 := by
  have h : (a ^^^ b) % 2 = (a % 2 ^^^ b % 2) := Nat.xor_mod_two_pow (n := 1)
  rw [h, Nat.add_mod]
  rcases Nat.mod_two_eq_zero_or_one a with e | e <;> rcases Nat.mod_two_eq_zero_or_one b with e2 | e2 <;> rw [e, e2] <;> rfl
theorem pc_pred (m : Nat) : 0 < m → pc (m &&& (m - 1)) + 1 = pc m ∧ (m &&& (m - 1)) < m := by
  induction m using Nat.strongRecOn with
  | ind m ih =>
    intro h
    rw [pc_half m, pc_half (m &&& (m - 1)), and_half, and_mod2]
    rcases Nat.mod_two_eq_zero_or_one m with e | e
    · have e2 : (m - 1) / 2 = m / 2 - 1 := by omega
      obtain ⟨h1, h2⟩ := ih (m / 2) (by omega) (by omega)
      rw [e, e2]
      refine ⟨by omega, ?_⟩
      have h3 := and_half m (m - 1)
      have h4 := and_mod2 m (m - 1)
      rw [e, Nat.zero_mul] at h4
      rw [e2] at h3
      omega
    · have e2 : (m - 1) / 2 = m / 2 := by omega
      have e3 : (m - 1) % 2 = 0 := by omega
      rw [e, e2, e3, Nat.and_self]
      refine ⟨by omega, ?_⟩
      have h3 := and_half m (m - 1)
      have h4 := and_mod2 m (m - 1)
      rw [e, e3] at h4
      rw [e2, Nat.and_self] at h3
      omega
/-- the least bit -/
def lowB (m : Nat) : Nat := if h : m % 2 = 1 ∨ m = 0 then 0 else lowB (m / 2) + 1
termination_by m
decreasing_by omega
theorem lowB_odd {m : Nat} (h : m % 2 = 1) : lowB m = 0 := by rw [lowB, dif_pos (.inl h)]
theorem lowB_even {m : Nat} (h : m % 2 = 0) (h0 : 0 < m) : lowB m = lowB (m / 2) + 1 := by rw [lowB, dif_neg (by omega)]
theorem xor_pred (m : Nat) : 0 < m → (m ^^^ (m - 1)) + 1 = 2 ^ (lowB m + 1) := by
  induction m using Nat.strongRecOn with
  | ind m ih =>
    intro h
    have h3 := xor_half m (m - 1)
    have h4 := xor_mod2 m (m - 1)
    rcases Nat.mod_two_eq_zero_or_one m with e | e
    · have e2 : (m - 1) / 2 = m / 2 - 1 := by omega
      have := ih (m / 2) (by omega) (by omega)
      rw [lowB_even e h, Nat.pow_succ, ← this]
      rw [e2] at h3
      omega
    · rw [lowB_odd e]
      have e2 : (m - 1) / 2 = m / 2 := by omega
      rw [e2, Nat.xor_self] at h3
      show _ = 2
      omega
theorem testBit_lowB (m : Nat) : 0 < m → m.testBit (lowB m) = true ∧ ∀ i < lowB m, m.testBit i = false := by
  induction m using Nat.strongRecOn with
  | ind m ih =>
    intro h
    rcases Nat.mod_two_eq_zero_or_one m with e | e
    · obtain ⟨h1, h2⟩ := ih (m / 2) (by omega) (by omega)
      rw [lowB_even e h]
      refine ⟨by rw [Nat.testBit_succ]; exact h1, fun i hi => ?_⟩
      cases i with
      | zero => rw [Nat.testBit_zero, e]; rfl
      | succ i => rw [Nat.testBit_succ]; exact h2 i (by omega)
    · rw [lowB_odd e]
      exact ⟨by rw [Nat.testBit_zero, e]; rfl, fun i hi => by omega⟩
theorem bitB_nat {m i : Nat} : bitB (m : Int) i = m.testBit i := by
  unfold bitB
  rw [Nat.testBit_eq_decide_div_mod_eq]
  have : ((m : Int) / 2 ^ i % 2) = ((m / 2 ^ i % 2 : Nat) : Int) := by
    rw [← pow_c]; norm_cast
  rw [this]
  exact decide_eq_decide.mpr (by omega)
/-- as many as members -/
theorem pc_memb {m : Nat} : ∀ {L : Nat}, m < 2 ^ L → pc m = ((List.range L).filter (m.testBit ·)).length := by
  intro L
  induction L generalizing m with
  | zero => intro h; have : m = 0 := by simpa using h
            subst this; rw [pc_0]; rfl
  | succ L ih =>
    intro h
    rw [pc_half, ih (m := m / 2) (by rw [Nat.pow_succ] at h; omega), List.range_succ_eq_map, List.filter_cons]
    have e : ((List.range L).map Nat.succ).filter (m.testBit ·) = ((List.range L).filter ((m / 2).testBit ·)).map Nat.succ := by
      rw [List.filter_map]
      congr 1
      refine List.filter_congr fun i _ => ?_
      show m.testBit (i + 1) = _
      rw [Nat.testBit_succ]
    rw [e, Nat.testBit_zero]
    rcases Nat.mod_two_eq_zero_or_one m with q | q <;> rw [q] <;> simp
/-! ### the readings of bits.py -/
noncomputable def sizeF : List D → Rs D := fDef 3 (fSeq (fSet 1 (fC (.int 0)))
    (fSeq (fSet 2 (fVar 0))
    (fSeq (fWhile (tT (fB dGt (fVar 2) (fC (.int 0)))) (fSeq (fSet 2 (fB dBand (fVar 2) (fB dSub (fVar 2) (fC (.int 1)))))
    (fSet 1 (fB dAdd (fVar 1) (fC (.int 1))))))
    (fRet (fVar 1)))))
noncomputable def firstF : List D → Rs D := fDef 1 (fSeq (fIfS (tT (fB dEq (fVar 0) (fC (.int 0)))) (fRet (fC .none)) fNext)
    (fRet (fB dSub (fBits (fB dBxor (fVar 0) (fB dSub (fVar 0) (fC (.int 1))))) (fC (.int 1)))))
noncomputable def maskF : List D → Rs D := fDef 3 (fSeq (fSet 1 (fC (.int 0)))
    (fSeq (fFor (fItL (fVar 0)) (gN 2) (fSet 1 (fB dBor (fVar 1) (fB dShl (fC (.int 1)) (fVar 2)))))
    (fRet (fVar 1))))
theorem size_ok {m : Nat} : sizeF [.int m] = .ok (.int (pc m : Nat)) := by
  refine Post.eq (post_def ?_)
  refine sq_while (fun k ρ => ∃ g : Nat, ρ = [.int m, .int (g : Nat), .int (k : Nat)] ∧ g + pc k = pc m) (Re := fun ρ => ∃ g2 : D, ρ = [.int m, .int (pc m : Nat), g2]) (Q := fun d => d = .int (pc m : Nat)) m ⟨0, rfl, Nat.zero_add _⟩ ?_ ?_
  · rintro k ρ ⟨g, rfl, hg⟩
    rcases Nat.eq_zero_or_pos k with rfl | hk
    · refine .inl ⟨rfl, .int (0 : Nat), ?_⟩
      rw [pc_0, Nat.add_zero] at hg
      rw [hg]
    · obtain ⟨h1, h2⟩ := pc_pred k hk
      refine .inr ⟨by show FL.tB (Rs.ok (PyData.bool (decide (0 < (k : Int))))) = _; rw [decide_eq_true (by omega)]; rfl, .nx [.int m, .int ((g + 1 : Nat) : Int), .int ((k &&& (k - 1) : Nat) : Int)], ?_, k &&& (k - 1), h2, g + 1, rfl, by omega⟩
      have e : Builtin.bitAnd (k : Int) ((k : Int) - 1) = ((k &&& (k - 1) : Nat) : Int) := by
        rw [PyProof.Rows.bitAnd_pp (by omega) (by omega), Int.toNat_natCast, show ((k : Int) - 1).toNat = k - 1 by omega]
      rw [← e]; rfl
  · rintro ρ ⟨g2, rfl⟩
    exact ⟨_, rfl, rfl⟩
theorem first_0 : firstF [.int 0] = .ok .none := by
  refine Post.eq (post_def ?_)
  refine sq_iff (b := true) (by show FL.tB (dEq (.int 0) (.int 0)) = _; rw [dEq_int]; rfl) (fun _ => ⟨_, rfl, rfl⟩) fun c => by cases c
theorem first_ok {m : Nat} (h : 0 < m) : firstF [.int m] = .ok (.int (lowB m : Nat)) := by
  refine Post.eq (post_def ?_)
  refine sq_iff (b := false) (by show FL.tB (dEq (.int m) (.int 0)) = _; rw [dEq_int, decide_eq_false (by omega)]; rfl) (fun c => by cases c) fun _ => ?_
  have e : Builtin.bitXor (m : Int) ((m : Int) - 1) = ((m ^^^ (m - 1) : Nat) : Int) := by
    rw [Bits.bitXor_pp (by omega) (by omega), Int.toNat_natCast, show ((m : Int) - 1).toNat = m - 1 by omega]
  have hx := xor_pred m h
  have hp : 0 < 2 ^ lowB m := Nat.pos_of_ne_zero (by exact Nat.ne_of_gt (Nat.pow_pos (by decide)))
  rw [Nat.pow_succ] at hx
  have hb : Builtin.Int.intBits (Builtin.bitXor (m : Int) ((m : Int) - 1)) = lowB m + 1 := by
    rw [e]
    unfold Builtin.Int.intBits
    have hne : (m ^^^ (m - 1)) ≠ 0 := by omega
    rw [if_neg (by
      intro z
      have z : ((m ^^^ (m - 1) : Nat) : Int) = 0 := by simpa using z
      omega)]
    have hlog : (m ^^^ (m - 1)).log2 = lowB m := (Nat.log2_eq_iff hne).mpr ⟨by omega, by rw [Nat.pow_succ]; omega⟩
    rw [Int.natAbs_natCast, hlog]
  refine ⟨.ret (.int (lowB m : Nat)), ?_, rfl⟩
  show Rs.ok (Fl.ret (PyData.int ((Builtin.Int.intBits (Builtin.bitXor (m : Int) ((m : Int) - 1)) : Nat) - 1))) = _
  rw [hb]
  congr 3
  omega
def orM (us : List Nat) : Nat := us.foldl (fun m u => m ||| 2 ^ u) 0
theorem orM_snoc {us : List Nat} {u : Nat} : orM (us ++ [u]) = orM us ||| 2 ^ u := by
  unfold orM; rw [List.foldl_append]; rfl
theorem bit_foldl (i : Nat) : ∀ (us : List Nat) (m : Nat), (us.foldl (fun m u => m ||| 2 ^ u) m).testBit i = (m.testBit i || decide (i ∈ us))
  | [], m => by simp
  | u :: us, m => by
    rw [List.foldl_cons, bit_foldl i us, Nat.testBit_or, Nat.testBit_two_pow, Bool.or_assoc]
    congr 1
    rw [Bool.eq_iff_iff]
    simp only [Bool.or_eq_true, decide_eq_true_iff, List.mem_cons]
    constructor
    · rintro (h | h)
      · exact .inl h.symm
      · exact .inr h
    · rintro (h | h)
      · exact .inl h.symm
      · exact .inr h
theorem bit_orM {us : List Nat} {i : Nat} : (orM us).testBit i = decide (i ∈ us) := by
  unfold orM; rw [bit_foldl]; simp
theorem orM_congr {us vs : List Nat} (h : ∀ i, i ∈ us ↔ i ∈ vs) : orM us = orM vs :=
  Nat.eq_of_testBit_eq fun i => by rw [bit_orM, bit_orM]; exact decide_eq_decide.mpr (h i)
theorem orM_lt {us : List Nat} {L : Nat} (h : ∀ u ∈ us, u < L) : orM us < 2 ^ L :=
  Nat.lt_pow_two_of_testBit _ fun i hi => by
    rw [bit_orM]
    exact decide_eq_false fun m => by have := h i m; omega
theorem mask_ok {us : List Nat} (h : ∀ u ∈ us, u ≤ 1000000) : maskF [LN us] = .ok (.int (orM us : Nat)) := by
  refine Post.eq (post_def ?_)
  refine sq_in (fun u : Nat => .int (u : Int)) us (fun j ρ => ∃ g : D, ρ = [LN us, .int (orM (us.take j) : Nat), g]) (it_l rfl) ⟨_, rfl⟩ ?_ ?_
  · rintro j hj ρ ⟨g, rfl⟩
    have hu := h us[j] (List.getElem_mem hj)
    have e : Builtin.bitOr ((orM (us.take j) : Nat) : Int) (1 * 2 ^ ((us[j] : Nat) : Int).toNat) = ((orM (us.take (j + 1)) : Nat) : Int) := by
      rw [Int.one_mul, Int.toNat_natCast, ← pow_c, Bits.bitOr_pp (Int.natCast_nonneg _) (Int.natCast_nonneg _), Int.toNat_natCast, Int.toNat_natCast, take_snoc hj, orM_snoc]
    refine ⟨.nx [LN us, .int (orM (us.take (j + 1)) : Nat), .int us[j]], ?_, _, rfl⟩
    show (((dShl (.int 1) (.int us[j])).bind fun y => dBor (.int (orM (us.take j) : Nat)) y).bind fun d => Rs.ok (Fl.nx [LN us, d, .int us[j]])) = _
    rw [dShl_ok ⟨by omega, by omega⟩ ⟨by decide, by decide⟩]
    show Rs.ok (Fl.nx [LN us, .int (Builtin.bitOr _ _), .int us[j]]) = _
    rw [e]
  · rintro ρ ⟨g, rfl⟩
    rw [List.take_length]
    exact ⟨_, rfl, rfl⟩
end FL
end
section
/-! FL, part V: runs of blocks, step by step. -/
namespace FL
open PySem L2
/-- what a block gives at a state: it goes on with R, returns with Q, raises with E -/
def Run (f : List D → Rs Fl) (ρ : List D) (R : List D → Prop) (Q : D → Prop) (E : D → Prop) : Prop := match f ρ with
  | .ok (.nx ρ') => R ρ'
  | .ok (.ret d) => Q d
  | .er e => E e
  | .no => False
/-- nothing is raised -/
abbrev E0 : D → Prop := fun _ => False
section
variable {f g k : List D → Rs Fl} {ρ ρ' : List D} {R R1 : List D → Prop} {Q : D → Prop} {E : D → Prop} {F F1 F2 : List D → Rs D} {B : List D → Rs Bool} {d d1 d2 : D} {b : Bool} {i : Nat}
theorem Run.post (h : Run f ρ R Q E0) : Post (f ρ) (Nx R Q) := by
  unfold Run at h
  cases e : f ρ with
  | no => rw [e] at h; exact h.elim
  | er x => rw [e] at h; exact h.elim
  | ok a =>
    rw [e] at h
    cases a with
    | nx r => exact ⟨_, rfl, h⟩
    | ret r => exact ⟨_, rfl, h⟩
theorem Run.of_post (h : Post (f ρ) (Nx R Q)) : Run f ρ R Q E := by
  obtain ⟨a, e, q⟩ := h
  unfold Run
  rw [e]
  cases a with
  | nx r => exact q
  | ret r => exact q
theorem Run.mono {R' : List D → Prop} {Q' E' : D → Prop} (h : Run f ρ R Q E) (hR : ∀ ρ, R ρ → R' ρ) (hQ : ∀ d, Q d → Q' d) (hE : ∀ d, E d → E' d) : Run f ρ R' Q' E' := by
  unfold Run at h ⊢
  cases e : f ρ with
  | no => rw [e] at h; exact h.elim
  | er x => rw [e] at h; exact hE _ h
  | ok a =>
    rw [e] at h
    cases a with
    | nx r => exact hR _ h
    | ret r => exact hQ _ h
/-! ### one behind the other -/
theorem run_cut (R1 : List D → Prop) (h : Run f ρ R1 Q E) (k : ∀ ρ', R1 ρ' → Run g ρ' R Q E) : Run (fSeq f g) ρ R Q E := by
  unfold Run at h
  unfold Run fSeq
  cases e : f ρ with
  | no => rw [e] at h; exact h.elim
  | er x => rw [e] at h; exact h
  | ok a =>
    rw [e] at h
    cases a with
    | nx r => exact k r h
    | ret r => exact h
theorem run_nx (h : f ρ = .ok (.nx ρ')) (k : Run g ρ' R Q E) : Run (fSeq f g) ρ R Q E := by
  unfold Run fSeq; rw [h]; exact k
theorem run_nil (h : R ρ) : Run fNext ρ R Q E := h
theorem run_last (h : Run (fSeq f fNext) ρ R Q E) : Run f ρ R Q E := by
  unfold Run fSeq at h
  unfold Run
  cases e : f ρ with
  | no => rw [e] at h; exact h.elim
  | er x => rw [e] at h; exact h
  | ok a =>
    rw [e] at h
    cases a with
    | nx r => exact h
    | ret r => exact h
theorem run_next (h : Run k ρ R Q E) : Run (fSeq fNext k) ρ R Q E := h
theorem run_assoc (h : Run (fSeq f (fSeq g k)) ρ R Q E) : Run (fSeq (fSeq f g) k) ρ R Q E := by
  have e : fSeq (fSeq f g) k ρ = fSeq f (fSeq g k) ρ := by
    unfold fSeq
    cases f ρ with
    | no => rfl
    | er x => rfl
    | ok a => cases a <;> rfl
  unfold Run at h ⊢
  rw [e]; exact h
theorem run_set (h : F ρ = .ok d) (hs : ρ.set i d = ρ') (k : Run g ρ' R Q E) : Run (fSeq (fSet i F) g) ρ R Q E := run_nx (by unfold fSet; rw [h, ← hs]; rfl) k
theorem run_ret (h : F ρ = .ok d) (q : Q d) : Run (fSeq (fRet F) k) ρ R Q E := by
  unfold Run fSeq fRet; rw [h]; exact q
theorem run_ret1 (h : F ρ = .ok d) (q : Q d) : Run (fRet F) ρ R Q E := by
  unfold Run fRet; rw [h]; exact q
theorem run_retN (q : Q .none) : Run (fSeq (fun _ => .ok (.ret .none)) k) ρ R Q E := q
theorem run_exp (h : F ρ = .ok d) (k : Run g ρ R Q E) : Run (fSeq (fExp F) g) ρ R Q E := run_nx (by unfold fExp; rw [h]; rfl) k
theorem run_setT {is : List Nat} (h : F ρ = .ok d) (hs : gT is d ρ = some ρ') (k : Run g ρ' R Q E) : Run (fSeq (fSetT (gT is) F) g) ρ R Q E := run_nx (by unfold fSetT; rw [h]; simp only [Rs.bind_ok, hs]) k
theorem run_app {ds : List D} (h : F ρ = .ok d) (hi : ρ[i]? = some (.list ds)) (hl : ds.length ≤ 100000) (hs : ρ.set i (.list (ds ++ [d])) = ρ') (k : Run g ρ' R Q E) : Run (fSeq (fApp i F) g) ρ R Q E := run_nx (by rw [fApp_ok h hi hl, hs]) k
theorem run_ext {ds es : List D} (h : F ρ = .ok (.list es)) (hi : ρ[i]? = some (.list ds)) (hl : ds.length + es.length ≤ 100000) (hs : ρ.set i (.list (ds ++ es)) = ρ') (k : Run g ρ' R Q E) : Run (fSeq (fExt i F) g) ρ R Q E :=
  run_nx (by unfold fExt; rw [h]; simp only [Rs.bind_ok, hi, if_pos hl, hs]) k
theorem run_put {ds : List D} {j : Int} (h : F ρ = .ok d) (hk : F1 ρ = .ok (.int j)) (hi : ρ[i]? = some (.list ds)) (h0 : 0 ≤ j ∧ j < ds.length) (hs : ρ.set i (.list (ds.set j.toNat d)) = ρ') (k : Run g ρ' R Q E) : Run (fSeq (fPut i F F1) g) ρ R Q E := run_nx (by rw [fPut_ok h hk hi h0.1 h0.2, hs]) k
theorem run_putL {ds : List D} {e : D} (h : F ρ = .ok d) (hk : F1 ρ = .ok (.int (-1))) (hi : ρ[i]? = some (.list (ds ++ [e]))) (hs : ρ.set i (.list (ds ++ [d])) = ρ') (k : Run g ρ' R Q E) : Run (fSeq (fPut i F F1) g) ρ R Q E := run_nx (by rw [fPut_last h hk hi, hs]) k
theorem run_dput {ds : List (D × D)} {key : Key} (h : F ρ = .ok d) (hk : F1 ρ = .ok d1) (hi : ρ[i]? = some (.dict ds)) (hy : keyOf d1 = some key) (hl : ds.length ≤ 100000) (hs : ρ.set i (.dict (putD ds key d)) = ρ') (k : Run g ρ' R Q E) : Run (fSeq (fDput i F F1) g) ρ R Q E :=
  run_nx (by unfold fDput; rw [h]; simp only [Rs.bind_ok, hk, hi, hy, if_pos hl, hs]) k
/-! ### if -/
theorem run_if (h : B ρ = .ok b) (h1 : b = true → Run (fSeq f k) ρ R Q E) (h2 : b = false → Run (fSeq g k) ρ R Q E) : Run (fSeq (fIfS B f g) k) ρ R Q E := by
  have e : fSeq (fIfS B f g) k ρ = if b then fSeq f k ρ else fSeq g k ρ := by
    unfold fSeq; rw [fIfS_ok h]; cases b <;> rfl
  unfold Run at h1 h2 ⊢
  rw [e]
  cases b with
  | true => exact h1 rfl
  | false => exact h2 rfl
theorem run_ifT (h : B ρ = .ok true) (h1 : Run (fSeq f k) ρ R Q E) : Run (fSeq (fIfS B f g) k) ρ R Q E := run_if h (fun _ => h1) (fun z => nomatch z)
theorem run_ifF (h : B ρ = .ok false) (h1 : Run (fSeq g k) ρ R Q E) : Run (fSeq (fIfS B f g) k) ρ R Q E := run_if h (fun z => nomatch z) (fun _ => h1)
/-- a test that must not hold -/
theorem run_guard (h : B ρ = .ok false) (h1 : Run k ρ R Q E) : Run (fSeq (fIfS B f fNext) k) ρ R Q E := run_ifF h h1
/-! ### loops -/
theorem run_forL {g : D → List D → Option (List D)} (I : Nat → List D → Prop) : ∀ (xs : List D) (m : Nat) (ρ : List D), I m ρ →
    (∀ (j : Nat) (h : j < xs.length) (ρ : List D), I (m + j) ρ → ∃ ρ1, g xs[j] ρ = some ρ1 ∧ Run f ρ1 (I (m + j + 1)) Q E) → Run (forL g f xs) ρ (I (m + xs.length)) Q E
  | [], m, ρ, h, _ => h
  | x :: xs, m, ρ, h, hs => by
    obtain ⟨ρ1, e1, q⟩ := hs 0 (Nat.succ_pos _) ρ h
    have e1 : g x ρ = some ρ1 := e1
    unfold Run
    simp only [forL, e1]
    unfold Run at q
    cases e : f ρ1 with
    | no => rw [e] at q; exact q.elim
    | er z => rw [e] at q; exact q
    | ok a =>
      rw [e] at q
      cases a with
      | ret r => exact q
      | nx ρ2 =>
        have r := run_forL (g := g) I xs (m + 1) ρ2 q fun j hj ρ hR => by
          have := hs (j + 1) (Nat.succ_lt_succ hj) ρ (by rw [show m + (j + 1) = m + 1 + j by omega]; exact hR)
          rw [show m + (j + 1) + 1 = m + 1 + j + 1 by omega] at this
          exact this
        unfold Run at r
        rw [show m + (x :: xs).length = m + 1 + xs.length by rw [List.length_cons]; omega]
        exact r
theorem run_for {it : List D → Rs (List D)} {g : D → List D → Option (List D)} {k : List D → Rs Fl} {xs : List D} (I : Nat → List D → Prop) (hit : it ρ = .ok xs) (h0 : I 0 ρ)
    (hs : ∀ (j : Nat) (h : j < xs.length) (ρ : List D), I j ρ → ∃ ρ1, g xs[j] ρ = some ρ1 ∧ Run f ρ1 (I (j + 1)) Q E) (hk : ∀ ρ, I xs.length ρ → Run k ρ R Q E) : Run (fSeq (fFor it g f) k) ρ R Q E := by
  refine run_cut (I xs.length) ?_ hk
  have := run_forL (g := g) (f := f) (Q := Q) (E := E) I xs 0 ρ h0 fun j hj ρ hR => by
    rw [Nat.zero_add] at hR ⊢
    exact hs j hj ρ hR
  rw [Nat.zero_add] at this
  unfold Run at this ⊢
  unfold fFor
  rw [hit]; exact this
theorem run_in {α : Type} {it : List D → Rs (List D)} {k : List D → Rs Fl} (T : α → D) (xs : List α) (I : Nat → List D → Prop) (hit : it ρ = .ok (xs.map T)) (h0 : I 0 ρ)
    (hs : ∀ (j : Nat) (h : j < xs.length) (ρ : List D), I j ρ → Run f (ρ.set i (T xs[j])) (I (j + 1)) Q E) (hk : ∀ ρ, I xs.length ρ → Run k ρ R Q E) : Run (fSeq (fFor it (gN i) f) k) ρ R Q E :=
  run_for I hit h0 (fun j hj ρ hR => ⟨_, rfl, by rw [List.getElem_map]; exact hs j (by rwa [List.length_map] at hj) ρ hR⟩) (by rw [List.length_map]; exact hk)
theorem run_inT {α : Type} {is : List Nat} {it : List D → Rs (List D)} {k : List D → Rs Fl} (T : α → List D) (xs : List α) (I : Nat → List D → Prop) (hit : it ρ = .ok (xs.map fun a => .tuple (T a))) (h0 : I 0 ρ)
    (hs : ∀ (j : Nat) (h : j < xs.length) (ρ : List D), I j ρ → ∃ ρ1, gSeq is (T xs[j]) ρ = some ρ1 ∧ Run f ρ1 (I (j + 1)) Q E) (hk : ∀ ρ, I xs.length ρ → Run k ρ R Q E) : Run (fSeq (fFor it (gT is) f) k) ρ R Q E :=
  run_for I hit h0 (fun j hj ρ hR => by rw [List.getElem_map]; exact hs j (by rwa [List.length_map] at hj) ρ hR) (by rw [List.length_map]; exact hk)
theorem run_rg {it : List D → Rs (List D)} {k : List D → Rs Fl} (lo : Int) (n : Nat) (I : Nat → List D → Prop) (hit : it ρ = .ok (rngD lo n)) (h0 : I 0 ρ)
    (hs : ∀ (j : Nat) (h : j < n) (ρ : List D), I j ρ → Run f (ρ.set i (.int (lo + (j : Int)))) (I (j + 1)) Q E) (hk : ∀ ρ, I n ρ → Run k ρ R Q E) : Run (fSeq (fFor it (gN i) f) k) ρ R Q E := by
  have hl : (rngD lo n).length = n := by unfold rngD; rw [List.length_map, List.length_range]
  refine run_for I hit h0 (fun j hj ρ hR => ⟨_, rfl, ?_⟩) (by rw [hl]; exact hk)
  have e : (rngD lo n)[j] = .int (lo + (j : Int)) := by
    apply Option.some.inj
    rw [← List.getElem?_eq_getElem hj]
    unfold rngD
    rw [List.getElem?_map, List.getElem?_range (by omega)]; rfl
  rw [e]; exact hs j (by omega) ρ hR
theorem run_whileN {c : List D → Rs Bool} {Re : List D → Prop} (I : Nat → List D → Prop)
    (hs : ∀ m ρ, I m ρ → (c ρ = .ok false ∧ Re ρ) ∨ (c ρ = .ok true ∧ Run f ρ (fun ρ' => ∃ m', m' < m ∧ I m' ρ') Q E)) : ∀ m ρ, I m ρ → ∃ n, Run (whileN c f n) ρ Re Q E := by
  intro m
  induction m using Nat.strongRecOn with
  | ind m ih =>
    intro ρ h
    rcases hs m ρ h with ⟨e, q⟩ | ⟨e, q⟩
    · refine ⟨1, ?_⟩
      unfold Run whileN; rw [e]; exact q
    · unfold Run at q
      cases e2 : f ρ with
      | no => rw [e2] at q; exact q.elim
      | er z =>
        rw [e2] at q
        refine ⟨1, ?_⟩
        unfold Run whileN; rw [e]; simp only [Rs.nx, Rs.bind_ok, if_true, e2]; exact q
      | ok a =>
        rw [e2] at q
        cases a with
        | ret d =>
          refine ⟨1, ?_⟩
          unfold Run whileN; rw [e]; simp only [Rs.nx, Rs.bind_ok, if_true, e2]; exact q
        | nx ρ2 =>
          obtain ⟨m', lt, q⟩ := q
          obtain ⟨n, r⟩ := ih m' lt ρ2 q
          refine ⟨n + 1, ?_⟩
          unfold Run at r ⊢
          unfold whileN; rw [e]; simp only [Rs.nx, Rs.bind_ok, if_true, e2]; exact r
theorem run_while {c : List D → Rs Bool} {k : List D → Rs Fl} {Re : List D → Prop} (I : Nat → List D → Prop) (m : Nat) (h0 : I m ρ)
    (hs : ∀ m ρ, I m ρ → (c ρ = .ok false ∧ Re ρ) ∨ (c ρ = .ok true ∧ Run f ρ (fun ρ' => ∃ m', m' < m ∧ I m' ρ') Q E)) (hk : ∀ ρ, Re ρ → Run k ρ R Q E) : Run (fSeq (fWhile c f) k) ρ R Q E := by
  refine run_cut Re ?_ hk
  obtain ⟨n, r⟩ := run_whileN I hs m ρ h0
  have e : fWhile c f ρ = whileN c f n ρ := fWhile_eq rfl fun z => by unfold Run at r; rw [z] at r; exact r
  unfold Run at r ⊢
  rw [e]; exact r
/-! ### defs -/
theorem run_def {n : Nat} {ds : List D} (h : Run f (ds ++ List.replicate (n - ds.length) .none) (fun _ => Q .none) Q E0) : Post (fDef n f ds) Q := post_def h.post
theorem run_defO {n : Nat} {ds : List D} (h : Run f (ds ++ List.replicate (n - ds.length) .none) (fun _ => False) Q E0) : Post (fDefO n f ds) Q := post_defO h.post
theorem run_def_eq {n : Nat} {ds : List D} (h : Run f (ds ++ List.replicate (n - ds.length) .none) (fun _ => .none = d) (fun z => z = d) E0) : fDef n f ds = .ok d := Post.eq (post_def (Q := fun z => z = d) h.post)
theorem run_defO_eq {n : Nat} {ds : List D} (h : Run f (ds ++ List.replicate (n - ds.length) .none) (fun _ => False) (fun z => z = d) E0) : fDefO n f ds = .ok d := Post.eq (post_defO (Q := fun z => z = d) h.post)
/-- what a def gives, or raises -/
def Res (r : Rs D) (Q E : D → Prop) : Prop := match r with
  | .ok d => Q d
  | .er e => E e
  | .no => False
theorem res_def {n : Nat} {ds : List D} (h : Run f (ds ++ List.replicate (n - ds.length) .none) (fun _ => Q .none) Q E) : Res (fDef n f ds) Q E := by
  unfold Run at h
  unfold Res fDef
  generalize f (ds ++ List.replicate (n - ds.length) .none) = r at h ⊢
  cases r with
  | no => exact h
  | er e => exact h
  | ok a =>
    cases a with
    | nx ρ => exact h
    | ret d => exact h
theorem res_defO {n : Nat} {ds : List D} (h : Run f (ds ++ List.replicate (n - ds.length) .none) (fun _ => False) Q E) : Res (fDefO n f ds) Q E := by
  unfold Run at h
  unfold Res fDefO
  generalize f (ds ++ List.replicate (n - ds.length) .none) = r at h ⊢
  cases r with
  | no => exact h
  | er e => exact h
  | ok a =>
    cases a with
    | nx ρ => exact h.elim
    | ret d => exact h
theorem Res.eq {r : Rs D} (h : Res r (fun z => z = d) E0) : r = .ok d := by
  cases r with
  | no => exact h.elim
  | er e => exact h.elim
  | ok a => exact congrArg Rs.ok h
theorem Res.eqE {r : Rs D} (h : Res r (fun _ => False) (fun z => z = d)) : r = .er d := by
  cases r with
  | no => exact h.elim
  | er e => exact congrArg Rs.er h
  | ok a => exact h.elim
theorem Res.of {r : Rs D} (e : r = .ok d) (h : Q d) : Res r Q E := by rw [e]; exact h
theorem Res.ofE {r : Rs D} (e : r = .er d) (h : E d) : Res r Q E := by rw [e]; exact h
theorem run_setR (h : Res (F ρ) (fun d => Run g (ρ.set i d) R Q E) E) : Run (fSeq (fSet i F) g) ρ R Q E := by
  unfold Run fSeq fSet
  unfold Res at h
  generalize F ρ = r at h ⊢
  cases r with
  | no => exact h
  | er e => exact h
  | ok a => exact h
theorem run_setE {e : D} (h : F ρ = .er e) (q : E e) : Run (fSeq (fSet i F) g) ρ R Q E := run_setR (.ofE h q)
/-! ### expressions -/
theorem ev_B {h : D → D → Rs D} {r : Rs D} (h1 : F1 ρ = .ok d1) (h2 : F2 ρ = .ok d2) (h3 : h d1 d2 = r) : fB h F1 F2 ρ = r := fB_ok h1 h2 h3
theorem ev_CB {h : List D → Rs D} {A : List D → Rs (List D)} {ds : List D} {r : Rs D} (h1 : A ρ = .ok ds) (h2 : h ds = r) : fCB h A ρ = r := by unfold fCB; rw [h1]; exact h2
theorem ev_call {n : Nat} {h : List D → Rs D} {A : List D → Rs (List D)} {ds : List D} {r : Rs D} (h1 : A ρ = .ok ds) (hn : ds.length = n) (h2 : h ds = r) : fCall n h A ρ = r := by unfold fCall; rw [h1]; simp only [Rs.bind_ok, if_pos hn, h2]
theorem ev_cons {A : List D → Rs (List D)} {ds : List D} (h1 : F ρ = .ok d) (h2 : A ρ = .ok ds) : aCons F A ρ = .ok (d :: ds) := aCons_ok h1 h2
theorem ev_nil : aNil ρ = .ok [] := rfl
theorem ev_T (h : F ρ = .ok (.bool b)) : tT F ρ = .ok b := by unfold tT; rw [h]; rfl
theorem ev_or {B1 B2 : List D → Rs Bool} {b1 b2 : Bool} (h1 : B1 ρ = .ok b1) (h2 : b1 = false → B2 ρ = .ok b2) : bOr B1 B2 ρ = .ok (b1 || b2) := by
  unfold bOr; rw [h1]
  cases b1 with
  | true => rfl
  | false => exact h2 rfl
theorem ev_and {B1 B2 : List D → Rs Bool} {b1 b2 : Bool} (h1 : B1 ρ = .ok b1) (h2 : b1 = true → B2 ρ = .ok b2) : bAnd B1 B2 ρ = .ok (b1 && b2) := by
  unfold bAnd; rw [h1]
  cases b1 with
  | true => exact h2 rfl
  | false => rfl
theorem ev_orF {B1 B2 : List D → Rs Bool} (h1 : B1 ρ = .ok false) (h2 : B2 ρ = .ok false) : bOr B1 B2 ρ = .ok false := by unfold bOr; rw [h1]; exact h2
theorem ev_notT {B1 : List D → Rs Bool} (h1 : B1 ρ = .ok true) : bNot B1 ρ = .ok false := by unfold bNot; rw [h1]; rfl
theorem ev_not {B1 : List D → Rs Bool} (h1 : B1 ρ = .ok b) : bNot B1 ρ = .ok (!b) := by unfold bNot; rw [h1]; rfl
theorem ev_andT {B1 B2 : List D → Rs Bool} (h1 : B1 ρ = .ok true) (h2 : B2 ρ = .ok b) : bAnd B1 B2 ρ = .ok b := by unfold bAnd; rw [h1]; exact h2
theorem ev_andF {B1 B2 : List D → Rs Bool} (h1 : B1 ρ = .ok false) : bAnd B1 B2 ρ = .ok false := by unfold bAnd; rw [h1]; rfl
theorem ev_orT {B1 B2 : List D → Rs Bool} (h1 : B1 ρ = .ok true) : bOr B1 B2 ρ = .ok true := by unfold bOr; rw [h1]; rfl
end
end FL
end
section
/-! FL, part Y: plain tools: lists of small numbers, their sums of bits. -/
namespace FL
open PySem
theorem defO_of {n : Nat} {f : List D → Rs Fl} {ds : List D} {d : D} (h : fDef n f ds = .ok d) (hd : d ≠ .none) : fDefO n f ds = .ok d := by
  unfold fDef at h
  unfold fDefO
  cases e : f (ds ++ List.replicate (n - ds.length) .none) with
  | no => rw [e] at h; cases h
  | er _ => rw [e] at h; cases h
  | ok a =>
    rw [e] at h
    cases a with
    | ret d' => exact h
    | nx ρ => injection h with h; exact absurd h.symm hd
abbrev VV (us : List Nat) : List Nat := memb (orM us : Nat) 201
theorem mem_VV {us : List Nat} (h : ∀ u ∈ us, u < 201) {i : Nat} : i ∈ VV us ↔ i ∈ us := by
  unfold VV memb
  rw [List.mem_filter, List.mem_range, bitB_nat, bit_orM, decide_eq_true_iff]
  exact ⟨fun x => x.2, fun x => ⟨h i x, x⟩⟩
theorem VV_lt {us : List Nat} : (VV us).Pairwise (· < ·) := List.Pairwise.filter _ List.pairwise_lt_range
theorem VV_sort {us : List Nat} (h : ∀ u ∈ us, u < 201) : sortU (us.map fun i : Nat => (i : Int)) = (VV us).map fun i : Nat => (i : Int) := by
  refine rising_eq (sortU_lt _) (List.pairwise_map.mpr (VV_lt.imp fun l => Int.ofNat_lt.mpr l)) fun z => ?_
  rw [mem_sortU, List.mem_map, List.mem_map]
  constructor
  · rintro ⟨i, hi, e⟩; exact ⟨i, (mem_VV h).mpr hi, e⟩
  · rintro ⟨i, hi, e⟩; exact ⟨i, (mem_VV h).mp hi, e⟩
theorem LN_eq {us : List Nat} : LN us = .list ((us.map fun i : Nat => (i : Int)).map .int) := by unfold LN; rw [List.map_map]; rfl
theorem r_sset {F : List D → Rs D} {ρ : List D} {us : List Nat} (e : F ρ = .ok (LN us)) (h : ∀ u ∈ us, u < 201) (hl : us.length ≤ 63) : fSortedSet F ρ = .ok (LN (VV us)) := by
  unfold fSortedSet
  rw [e, LN_eq]
  simp only [Rs.bind_ok, intsOf_map]
  rw [if_pos (by rw [List.length_map]; exact hl), VV_sort h, LN_eq]
theorem fit_LN {n : Nat} {us : List Nat} : Fit (n + 1) (LN us) := by rw [LN_eq]; exact fit_ints
theorem dIn_LN {vs : List Nat} {i : Nat} : dIn (.int i) (LN vs) = .ok (.bool (decide (i ∈ vs))) := by
  have : dIn (.int i) (LN vs) = .ok (.bool ((vs.map fun i : Nat => PyData.int (i : Int)).any fun z => PyData.eqv z (.int i))) := if_pos ⟨(fit_int (n := 0)).sh, (fit_LN (n := 0)).sh⟩
  rw [this]
  congr 2
  rw [Bool.eq_iff_iff, List.any_eq_true, decide_eq_true_iff]
  constructor
  · rintro ⟨d, hd, e⟩
    obtain ⟨k, hk, rfl⟩ := List.mem_map.mp hd
    have e : ((k : Int) == (i : Int)) = true := e
    have : k = i := Int.ofNat.inj (eq_of_beq e)
    exact this ▸ hk
  · intro h
    exact ⟨_, List.mem_map.mpr ⟨i, h, rfl⟩, show ((i : Int) == (i : Int)) = true from beq_self_eq_true _⟩
theorem bools_t {α : Type} : ∀ {xs : List α}, boolsOf (xs.map fun _ => .bool true) = some (xs.map fun _ => true)
  | [] => rfl
  | x :: xs => by
    show (boolsOf (xs.map fun _ => .bool true)).map _ = _
    rw [bools_t]; rfl
theorem dLen_LN {vs : List Nat} : dLen [LN vs] = .ok (.int vs.length) := by rw [LN_eq, dLen_l, List.length_map, List.length_map]
theorem dIx_LN0 {v : Nat} {vs : List Nat} : dIx (LN (v :: vs)) (.int 0) = .ok (.int v) := dIx_c0

/-! ### sums of bits of unlike numbers -/
def sumP (us : List Nat) : Nat := (us.map (2 ^ ·)).sum
theorem nsum_snoc : ∀ {xs : List Nat} {a : Nat}, (xs ++ [a]).sum = xs.sum + a
  | [], a => by simp
  | x :: xs, a => by rw [List.cons_append, List.sum_cons, List.sum_cons, nsum_snoc]; omega
theorem sumP_snoc {us : List Nat} {u : Nat} : sumP (us ++ [u]) = sumP us + 2 ^ u := by
  unfold sumP; rw [List.map_append, List.map_cons, List.map_nil, nsum_snoc]
theorem add_bit : ∀ (k a : Nat), a.testBit k = false → a + 2 ^ k = a ||| 2 ^ k
  | 0, a, h => by
    have h0 : a % 2 = 0 := by
      rw [Nat.testBit_zero] at h
      have := of_decide_eq_false h
      omega
    rw [Nat.pow_zero]
    apply Nat.eq_of_testBit_eq
    intro i
    cases i with
    | zero =>
      rw [Nat.testBit_or, Nat.testBit_zero, Nat.testBit_zero, Nat.testBit_zero]
      have e1 : (a + 1) % 2 = 1 := by omega
      rw [decide_eq_true e1]; simp
    | succ i =>
      rw [Nat.testBit_or, Nat.testBit_succ, Nat.testBit_succ, Nat.testBit_succ]
      have e1 : (a + 1) / 2 = a / 2 := by omega
      rw [e1]; simp
  | k + 1, a, h => by
    rw [Nat.testBit_succ] at h
    have ih := add_bit k (a / 2) h
    have e0 : 2 ^ (k + 1) = 2 * 2 ^ k := by rw [Nat.pow_succ]; omega
    apply Nat.eq_of_testBit_eq
    intro i
    cases i with
    | zero =>
      rw [Nat.testBit_or, Nat.testBit_zero, Nat.testBit_zero, Nat.testBit_zero]
      have e1 : (a + 2 ^ (k + 1)) % 2 = a % 2 := by omega
      have e2 : 2 ^ (k + 1) % 2 = 0 := by omega
      rw [e1, e2]; simp
    | succ i =>
      rw [Nat.testBit_or, Nat.testBit_succ, Nat.testBit_succ, Nat.testBit_succ]
      have e1 : (a + 2 ^ (k + 1)) / 2 = a / 2 + 2 ^ k := by omega
      have e2 : 2 ^ (k + 1) / 2 = 2 ^ k := by omega
      rw [e1, e2, ih, Nat.testBit_or]
theorem snoc_ind {α : Type} {P : List α → Prop} (h0 : P []) (hs : ∀ xs x, P xs → P (xs ++ [x])) : ∀ xs, P xs := fun xs => by
  have : ∀ n, ∀ xs : List α, xs.length = n → P xs := by
    intro n
    induction n with
    | zero => intro xs h; rw [List.length_eq_zero_iff.mp h]; exact h0
    | succ n ih =>
      intro xs h
      have hne : xs ≠ [] := fun z => by rw [z] at h; cases h
      rw [← List.dropLast_concat_getLast hne]
      exact hs _ _ (ih _ (by rw [List.length_dropLast, h]; rfl))
  exact this _ xs rfl
theorem sum_orM : ∀ us : List Nat, us.Nodup → sumP us = orM us := by
  refine snoc_ind (fun _ => rfl) fun us u ih h => ?_
  obtain ⟨h1, _, h2⟩ := List.nodup_append.mp h
  rw [sumP_snoc, orM_snoc, ih h1, add_bit]
  rw [bit_orM, decide_eq_false_iff_not]
  exact fun z => h2 u z u (List.mem_singleton.mpr rfl) rfl
theorem and_orM {us vs : List Nat} : orM us &&& orM vs = orM (us.filter fun u => decide (u ∈ vs)) := by
  apply Nat.eq_of_testBit_eq
  intro i
  rw [Nat.testBit_and, bit_orM, bit_orM, bit_orM, ← Bool.decide_and]
  exact decide_eq_decide.mpr (by rw [List.mem_filter, decide_eq_true_iff])
theorem or_orM {us vs ws : List Nat} (h : ∀ i, i ∈ ws ↔ i ∈ us ∨ i ∈ vs) : orM us ||| orM vs = orM ws := by
  apply Nat.eq_of_testBit_eq
  intro i
  rw [Nat.testBit_or, bit_orM, bit_orM, bit_orM, ← Bool.decide_or]
  exact decide_eq_decide.mpr (h i).symm
theorem less_orM {us vs : List Nat} : orM us ^^^ (orM us &&& orM vs) = orM (us.filter fun u => !decide (u ∈ vs)) := by
  apply Nat.eq_of_testBit_eq
  intro i
  rw [Nat.testBit_xor, Nat.testBit_and, bit_orM, bit_orM, bit_orM]
  have : decide (i ∈ us.filter fun u => !decide (u ∈ vs)) = (decide (i ∈ us) && !decide (i ∈ vs)) := by
    rw [Bool.eq_iff_iff, decide_eq_true_iff, List.mem_filter, Bool.and_eq_true, decide_eq_true_iff]
  rw [this]
  cases decide (i ∈ us) <;> cases decide (i ∈ vs) <;> rfl
theorem band_nat {a b : Nat} : dBand (.int a) (.int b) = .ok (.int (a &&& b : Nat)) := by
  show Rs.ok (PyData.int (Builtin.bitAnd a b)) = _
  rw [PyProof.Rows.bitAnd_pp (Int.natCast_nonneg _) (Int.natCast_nonneg _)]; rfl
theorem bor_nat {a b : Nat} : dBor (.int a) (.int b) = .ok (.int (a ||| b : Nat)) := by
  show Rs.ok (PyData.int (Builtin.bitOr a b)) = _
  rw [Bits.bitOr_pp (Int.natCast_nonneg _) (Int.natCast_nonneg _)]; rfl
theorem bxor_nat {a b : Nat} : dBxor (.int a) (.int b) = .ok (.int (a ^^^ b : Nat)) := by
  show Rs.ok (PyData.int (Builtin.bitXor a b)) = _
  rw [Bits.bitXor_pp (Int.natCast_nonneg _) (Int.natCast_nonneg _)]; rfl
/-! ### dicts used as sets of numbers -/
/-- keys, each held with the same datum -/
def dkS (ks : List Nat) : List (D × D) := ks.map fun k : Nat => (.int (k : Int), .bool true)
def insK (ks : List Nat) (k : Nat) : List Nat := if k ∈ ks then ks else ks ++ [k]
theorem keyOf_nat {k j : Nat} : (keyOf (.int (k : Int)) = some (.inl (j : Int))) ↔ k = j := by
  show some (Sum.inl (k : Int)) = some (Sum.inl (j : Int)) ↔ k = j
  rw [Option.some.injEq, Sum.inl.injEq]; omega
theorem dkS_any {ks : List Nat} {k : Nat} : ((dkS ks).any fun kv => decide (keyOf kv.1 = some (.inl (k : Int)))) = decide (k ∈ ks) := by
  unfold dkS
  rw [List.any_map, Bool.eq_iff_iff, List.any_eq_true, decide_eq_true_iff]
  constructor
  · rintro ⟨x, hx, e⟩
    have e := of_decide_eq_true e
    rw [keyOf_nat] at e
    exact e ▸ hx
  · intro h
    exact ⟨k, h, decide_eq_true (keyOf_nat.mpr rfl)⟩
theorem putD_S {ks : List Nat} {k : Nat} : putD (dkS ks) (.inl (k : Int)) (.bool true) = dkS (insK ks k) := by
  unfold putD insK
  rw [dkS_any]
  by_cases h : k ∈ ks
  · rw [if_pos (decide_eq_true h), if_pos h]
    unfold dkS
    rw [List.map_map]
    refine List.map_congr_left fun x _ => ?_
    show (if keyOf (.int (x : Int)) = some (.inl (k : Int)) then ((.int (x : Int), .bool true) : D × D) else (.int (x : Int), .bool true)) = _
    split <;> rfl
  · rw [if_neg (by rw [decide_eq_false h]; exact Bool.false_ne_true), if_neg h]
    unfold dkS
    rw [List.map_append]; rfl
theorem getD_S {ks : List Nat} {k : Nat} : (getD' (dkS ks) (.inl (k : Int))).isSome = decide (k ∈ ks) := by
  unfold getD'
  rw [Option.isSome_map]
  rw [← dkS_any]
  exact List.find?_isSome ..|> fun h => by
    rw [Bool.eq_iff_iff, h, List.any_eq_true]
theorem isK_S : ∀ {ks : List Nat}, isK (dkS ks) = true := fun {ks} => by
  unfold isK dkS
  rw [List.all_map, List.all_eq_true]
  intro x _; rfl
theorem dDin_S {ks : List Nat} {k : Nat} : dDin (.int (k : Int)) (.dict (dkS ks)) = .ok (.bool (decide (k ∈ ks))) := by
  unfold dDin
  simp only [isK_S, if_true, keyOf, getD_S]
theorem dDnin_S {ks : List Nat} {k : Nat} : dDnin (.int (k : Int)) (.dict (dkS ks)) = .ok (.bool (!decide (k ∈ ks))) := by
  unfold dDnin
  simp only [isK_S, if_true, keyOf, getD_S]
theorem keys_S {ks : List Nat} : (dkS ks).map (·.1) = ks.map fun k : Nat => PyData.int (k : Int) := by unfold dkS; rw [List.map_map]; rfl
theorem dList_S : ∀ {ks : List Nat}, dList [.dict (dkS ks)] = .ok (LN ks)
  | [] => rfl
  | k :: ks => by
    show Rs.ok (PyData.list (.int (k : Int) :: (dkS ks).map (·.1))) = _
    rw [keys_S]; rfl
theorem fItK_S {i : Nat} {ρ : List D} {ks : List Nat} (h : ρ[i]? = some (.dict (dkS ks))) : fItK i ρ = .ok (ks.map fun k : Nat => PyData.int (k : Int)) := by
  unfold fItK; rw [h]; simp only [keys_S]
theorem mem_insK {ks : List Nat} {k x : Nat} : x ∈ insK ks k ↔ x ∈ ks ∨ x = k := by
  unfold insK; split
  · constructor
    · exact .inl
    · rintro (h | rfl); exact h; assumption
  · rw [List.mem_append, List.mem_singleton]
theorem nodup_insK {ks : List Nat} {k : Nat} (h : ks.Nodup) : (insK ks k).Nodup := by
  unfold insK; split
  · exact h
  · rename_i hk
    exact List.nodup_append.mpr ⟨h, List.nodup_cons.mpr ⟨by simp, List.nodup_nil⟩, fun a ha b hb e => by rw [List.mem_singleton.mp hb] at e; exact hk (e ▸ ha)⟩
theorem len_insK {ks : List Nat} {k : Nat} : (insK ks k).length ≤ ks.length + 1 := by
  unfold insK; split
  · omega
  · rw [List.length_append]; exact Nat.le_refl _
theorem len_dkS {ks : List Nat} : (dkS ks).length = ks.length := List.length_map ..
end FL
end
section
/-! FL, part J: the store: references, nodes read and changed, objects. -/
namespace FL
open PySem L2
/-! ### data of the store -/
def refOf : D → Option Nat
  | .dict [(.none, .int j)] => some j.toNat
  | _ => none
theorem refOf_ref (j : Nat) : refOf (refD j) = some j := by
  show some (Int.toNat ((j : Nat) : Int)) = _
  rw [Int.toNat_natCast]
theorem refOf_none {d : D} (h : hasRef d = false) : refOf d = none := by
  unfold refOf
  split
  · cases h
  · rfl
/-- the fields of an object's datum -/
def fldsOf : List (D × D) → Option (List (Str × D))
  | [] => some []
  | (.str f, d) :: r => (fldsOf r).map ((f, d) :: ·)
  | _ :: _ => none
def asObj : D → Option (Str × List (Str × D))
  | .dict ((.bool true, .str c) :: r) => (fldsOf r).map fun fs => (c, fs)
  | _ => none
theorem fldsOf_map : ∀ fs : List (Str × D), fldsOf (fs.map fun p => ((.str p.1, p.2) : D × D)) = some fs
  | [] => rfl
  | (f, d) :: fs => by
    show (fldsOf (fs.map _)).map ((f, d) :: ·) = _
    rw [fldsOf_map fs]; rfl
theorem asObj_obj (c : Str) (fs : List (Str × D)) : asObj (objD c fs) = some (c, fs) := by
  unfold asObj objD
  dsimp only
  rw [fldsOf_map]; rfl
def nodeIn (S : List D) (j : Nat) : Option D := match S[j]? with
  | some .none => none
  | some d => some d
  | none => none
def nodeAt (n : Nat) (ρ : List D) (j : Nat) : Option D := match ρ[n]? with
  | some (.list S) => nodeIn S j
  | _ => none
theorem nodeIn_some {S : List D} {j : Nat} {d : D} (h : nodeIn S j = some d) : S[j]? = some d ∧ d ≠ .none := by
  unfold nodeIn at h
  split at h
  · cases h
  · rename_i e hne h1
    cases h
    exact ⟨h1, fun z => hne z⟩
  · cases h
theorem nodeAt_some {n : Nat} {ρ : List D} {j : Nat} {d : D} (h : nodeAt n ρ j = some d) : ∃ S, ρ[n]? = some (.list S) ∧ S[j]? = some d ∧ d ≠ .none := by
  unfold nodeAt at h
  split at h
  · rename_i S hS
    exact ⟨S, hS, nodeIn_some h⟩
  · cases h
/-- a node's datum without references -/
def pureD : D → Bool
  | .list ds => ds.all fun d => !hasRef d
  | .dict ((.bool true, .str _) :: r) => r.all fun p => !hasRef p.2
  | .dict ds => ds.all fun p => !hasRef p.2
  | _ => true
/-- own classes and the names of their objects' fields -/
def ctab : List (Str × List Str) := [("Ground_dealing", ["wants", "masks", "paired"]), ("Ways", ["ground", "weights", "work_gains", "place_gains", "work_came", "place_came"]), ("Ground_verdict", ["wants", "worths", "masks", "oftens"]),
  ("Leaf", ["words", "mark", "level"]), ("FromLeaf", ["words", "mark", "level"]), ("OfLeaf", ["words", "mark", "level"]), ("Verdict", ["papers", "wanting", "met", "marks", "choice", "pairs", "leaf_prices", "work_prices"]),
  ("Grown", ["ground", "own", "every"]), ("Plan", ["choice", "wanting", "names", "pairs", "papers"]), ("Group", ["word", "many", "rules"]), ("Reader", ["oftens", "groups", "whole", "leaves"]), ("Desk", ["courses", "learners"])]
def knownF (c f : Str) : Bool := match ctab.lookup c with
  | some fs => fs.contains f
  | none => false
/-- what the written part says of the own classes -/
def ClsOk (K : Tx) : Prop := ∀ (c : Str) (C : Addr), K.cl c = some (.ref C) → ∀ f, knownF c f = true → Cls K.K C ∧ NoAttr K.K C f
section
variable {K : Tx} {G G' H0 H H' : Hp} {O0 : Out} {O O' : Addr → Prop} {φ φ' : List Addr} {M : List Md} {σ : L2.St} {ρ : List D}
theorem VqAll.length : ∀ {vs : List V} {ds : List D}, VqAll K O φ H vs ds → vs.length = ds.length
  | _, _, .nil => rfl
  | _, _, .cons _ t => by rw [List.length_cons, List.length_cons, VqAll.length t]
theorem VqAll.get : ∀ {ds : List D} {vs : List V} {i : Nat} {d : D}, VqAll K O φ H vs ds → ds[i]? = some d → ∃ v, vs[i]? = some v ∧ Vq K O φ H v d
  | _, _, i, d, .nil, e => by cases i <;> cases e
  | _, _, 0, d, .cons (v := v) r _, e => by
    cases e
    exact ⟨v, rfl, r⟩
  | _, _, i + 1, d, .cons _ t, e => VqAll.get (i := i) t e
theorem VqAll.getV : ∀ {ds : List D} {vs : List V} {i : Nat} {v : V}, VqAll K O φ H vs ds → vs[i]? = some v → ∃ d, ds[i]? = some d ∧ Vq K O φ H v d
  | _, _, i, v, .nil, e => by cases i <;> cases e
  | _, _, 0, v, .cons (d := d) r _, e => by
    cases e
    exact ⟨d, rfl, r⟩
  | _, _, i + 1, v, .cons _ t, e => VqAll.getV (i := i) t e
theorem VqAll.append : ∀ {ds es : List D} {vs ws : List V}, VqAll K O φ H vs ds → VqAll K O φ H ws es → VqAll K O φ H (vs ++ ws) (ds ++ es)
  | _, _, _, _, .nil, h => h
  | _, _, _, _, .cons r t, h => .cons r (VqAll.append t h)
theorem VqAll.set {d : D} {v : V} (r : Vq K O φ H v d) : ∀ {ds : List D} {vs : List V} (n : Nat), VqAll K O φ H vs ds → VqAll K O φ H (vs.set n v) (ds.set n d)
  | _, _, _, .nil => .nil
  | _, _, 0, .cons _ t => .cons r t
  | _, _, n + 1, .cons q t => .cons q (VqAll.set r n t)
theorem VqAll.take : ∀ {ds : List D} {vs : List V} (n : Nat), VqAll K O φ H vs ds → VqAll K O φ H (vs.take n) (ds.take n)
  | _, _, 0, _ => .nil
  | _, _, _ + 1, .nil => .nil
  | _, _, n + 1, .cons r t => .cons r (VqAll.take n t)
theorem VqAll.of : ∀ {vs : List V} {ds : List D}, DqAll K (hide O H) vs ds → VqAll K O φ H vs ds
  | _, _, .nil => .nil
  | _, _, .cons r t => .cons (.inr r) (VqAll.of t)
mutual
theorem Vq.pure : ∀ {v : V} {d : D}, Vq K O φ H v d → hasRef d = false → Dq K (hide O H) v d
  | _, _, .inl ⟨j, a, e1, _⟩, e => by rw [e1, hasRef_ref] at e; cases e
  | _, _, .inr h, _ => h
  | _, _, .tup e1 q, e => .tup e1 (VqAll.pure0 q (by rw [hasRef] at e; exact e))
theorem VqAll.pure0 : ∀ {vs : List V} {ds : List D}, VqAll K O φ H vs ds → hasRefAll ds = false → DqAll K (hide O H) vs ds
  | _, _, .nil, _ => .nil
  | _, _, .cons r t, e => by
    rw [hasRefAll, Bool.or_eq_false_iff] at e
    exact .cons (Vq.pure r e.1) (VqAll.pure0 t e.2)
end
theorem VqAll.pure {ds : List D} {vs : List V} (h : VqAll K O φ H vs ds) (e : (ds.all fun d => !hasRef d) = true) : DqAll K (hide O H) vs ds := by
  refine VqAll.pure0 h ?_
  rw [hasRefAll_any, List.any_eq_false]
  intro d hd
  have := List.all_eq_true.mp e d hd
  simpa using this
theorem VqFs.pure : ∀ {ds : List (Str × D)} {vs : List (Str × V)}, VqFs K O φ H vs ds → (ds.all fun d => !hasRef d.2) = true → DqFs K (hide O H) vs ds
  | _, _, .nil, _ => .nil
  | _, _, .cons r t, h => by
    rw [List.all_cons, Bool.and_eq_true] at h
    exact .cons (r.pure (by simpa using h.1)) (VqFs.pure t h.2)
theorem VqKs.pure : ∀ {ds : List (D × D)} {vs : List (Key × V)}, VqKs K O φ H vs ds → (ds.all fun d => !hasRef d.2) = true → DkAll K (hide O H) vs ds
  | _, _, .nil, _ => .nil
  | _, _, .cons r t, h => by
    rw [List.all_cons, Bool.and_eq_true] at h
    exact .cons (r.pure (by simpa using h.1)) (VqKs.pure t h.2)
theorem VqFs.get : ∀ {ds : List (Str × D)} {vs : List (Str × V)} {f : Str} {d : D}, VqFs K O φ H vs ds → ds.lookup f = some d → ∃ v, vs.lookup f = some v ∧ Vq K O φ H v d
  | _, _, f, d, .nil, e => by cases e
  | _, _, f, d, .cons (f := g) (v := v) r t, e => by
    rw [List.lookup_cons] at e ⊢
    by_cases h : (f == g) = true
    · rw [h] at e ⊢
      cases e
      exact ⟨v, rfl, r⟩
    · have h : (f == g) = false := by simpa using h
      rw [h] at e ⊢
      exact VqFs.get t e
theorem DqFs.get : ∀ {ds : List (Str × D)} {vs : List (Str × V)} {f : Str} {d : D}, DqFs K H vs ds → ds.lookup f = some d → ∃ v, vs.lookup f = some v ∧ Dq K H v d
  | _, _, f, d, .nil, e => by cases e
  | _, _, f, d, .cons (f := g) (v := v) r t, e => by
    rw [List.lookup_cons] at e ⊢
    by_cases h : (f == g) = true
    · rw [h] at e ⊢
      cases e
      exact ⟨v, rfl, r⟩
    · have h : (f == g) = false := by simpa using h
      rw [h] at e ⊢
      exact DqFs.get t e
/-- a field told, in its place or at the end -/
def putFD (f : Str) (d : D) : List (Str × D) → List (Str × D)
  | [] => [(f, d)]
  | (g, x) :: r => if g = f then (g, d) :: r else (g, x) :: putFD f d r
theorem VqFs.put {f : Str} {v : V} {d : D} (r : Vq K O φ H v d) : ∀ {ds : List (Str × D)} {vs : List (Str × V)}, VqFs K O φ H vs ds → VqFs K O φ H (putF f v vs) (putFD f d ds)
  | _, _, .nil => .cons r .nil
  | _, _, .cons (f := g) q t => by
    unfold putF putFD
    by_cases h : g = f
    · rw [if_pos h, if_pos h]; exact .cons r t
    · rw [if_neg h, if_neg h]; exact .cons q (VqFs.put r t)
theorem VqFs.length : ∀ {ds : List (Str × D)} {vs : List (Str × V)}, VqFs K O φ H vs ds → vs.length = ds.length
  | _, _, .nil => rfl
  | _, _, .cons _ t => by rw [List.length_cons, List.length_cons, VqFs.length t]
theorem VqFs.miss : ∀ {ds : List (Str × D)} {vs : List (Str × V)} {f : Str}, VqFs K O φ H vs ds → ds.lookup f = none → vs.lookup f = none
  | _, _, f, .nil, e => rfl
  | _, _, f, .cons (f := g) (v := v) r t, e => by
    rw [List.lookup_cons] at e ⊢
    by_cases h : (f == g) = true
    · rw [h] at e; cases e
    · have h : (f == g) = false := by simpa using h
      rw [h] at e ⊢
      exact VqFs.miss t e
theorem DqFs.miss : ∀ {ds : List (Str × D)} {vs : List (Str × V)} {f : Str}, DqFs K H vs ds → ds.lookup f = none → vs.lookup f = none
  | _, _, f, .nil, e => rfl
  | _, _, f, .cons (f := g) (v := v) r t, e => by
    rw [List.lookup_cons] at e ⊢
    by_cases h : (f == g) = true
    · rw [h] at e; cases e
    · have h : (f == g) = false := by simpa using h
      rw [h] at e ⊢
      exact DqFs.miss t e
/-- the node that a reference names -/
theorem EOkF.node (I : EOkF K G H0 O0 M O φ H σ ρ) {v : V} {d d0 : D} {j : Nat} (h : Vq K O φ H v d) (hj : refOf d = some j) (hn : nodeAt M.length ρ j = some d0) :
    ∃ S a, v = .ref a ∧ ρ[M.length]? = some (.list S) ∧ φ[j]? = some a ∧ S[j]? = some d0 ∧ d0 ≠ .none ∧ O a ∧ (O0.rw = true → H0 a = none) ∧ NodeOk K O φ H a d0 := by
  rcases h with ⟨j', a, rfl, h1, rfl⟩ | h | ⟨h, _⟩
  rotate_left 2
  · cases hj
  · rw [refOf_ref] at hj
    cases hj
    obtain ⟨S, h2, h3, h4⟩ := nodeAt_some hn
    obtain ⟨S', e, q⟩ := I.st _ h2
    cases e
    obtain ⟨q1, q2, q3⟩ := q.node _ _ _ h1 h3 h4
    exact ⟨S, a, rfl, h2, h1, h3, h4, q1, q2, q3⟩
  · rw [refOf_none h.noref] at hj; cases hj
theorem NodeOk.lstI {a : Addr} {ds : List D} (h : NodeOk K O φ H a (.list ds)) : ∃ vs, H a = some (.lst vs) ∧ VqAll K O φ H vs ds := by
  cases h with
  | lst h1 h2 => exact ⟨_, h1, h2⟩
theorem NodeOk.objI {a : Addr} {d : D} {c : Str} {fs : List (Str × D)} (h : NodeOk K O φ H a d) (e : asObj d = some (c, fs)) : ∃ C dx vs, H a = some (.ins C dx vs) ∧ K.cl c = some (.ref C) ∧ VqFs K O φ H vs fs ∧ d = objD c fs := by
  cases h with
  | lst h1 h2 => cases e
  | dct h1 h2 =>
    cases h2 with
    | nil => cases e
    | @cons k v vs d ds _ _ => cases k <;> cases e
  | obj h1 m h2 =>
    rw [asObj_obj] at e
    cases e
    exact ⟨_, _, _, h1, m, h2, rfl⟩
theorem NodeOk.dctI {a : Addr} {ds : List (D × D)} (h : NodeOk K O φ H a (.dict ds)) (hk : hdK ds = true) : ∃ vs, H a = some (.dK vs) ∧ VqKs K O φ H vs ds := by
  generalize e : (.dict ds : D) = d at h
  cases h with
  | lst h1 h2 => cases e
  | dct h1 h2 => cases e; exact ⟨_, h1, h2⟩
  | obj h1 m h2 => unfold objD at e; cases e; cases hk
theorem Dq.objI {v : V} {d : D} {c : Str} {fs : List (Str × D)} (h : Dq K H v d) (e : asObj d = some (c, fs)) : ∃ a C dx vs, v = .ref a ∧ H a = some (.ins C dx vs) ∧ K.cl c = some (.ref C) ∧ DqFs K H vs fs := by
  cases h with
  | obj h1 m h2 =>
    rw [asObj_obj] at e
    cases e
    exact ⟨_, _, _, _, rfl, h1, m, h2⟩
  | scr _ => cases e
  | exc _ _ _ _ => cases e
  | _ => cases e
theorem vq_obj {v : V} {d : D} {x : Str × List (Str × D)} (h : Vq K O φ H v d) (hj : refOf d = none) (hc : asObj d = some x) : Dq K (hide O H) v d := by
  rcases h with ⟨j', a', rfl, _⟩ | h | _
  · rw [refOf_ref] at hj; cases hj
  · exact h
  · cases hc
/-- a node without references is shared data, where it stands -/
theorem NodeOk.out {a : Addr} {d : D} (h : NodeOk K O φ H a d) (hp : pureD d = true) (hl : (∃ ds, d = .list ds) ∨ ∃ c fs, d = objD c fs) : Dq K (hide (fun b => O b ∧ b ≠ a) H) (.ref a) d := by
  have sm : Same (hide O H) (hide (fun b => O b ∧ b ≠ a) H) := hide_out
  cases h with
  | lst h1 h2 => exact .lst (by rw [hide_at (fun z => z.2 rfl)]; exact h1) (DqAll.mono sm (h2.pure hp))
  | dct h1 h2 =>
    rcases hl with ⟨ds, e⟩ | ⟨c, fs, e⟩
    · cases e
    · unfold objD at e
      cases h2 with
      | nil => cases e
      | @cons k v vs d ds _ _ => cases k <;> cases e
  | obj h1 m h2 =>
    refine .obj (by rw [hide_at (fun z => z.2 rfl)]; exact h1) m (DqFs.mono sm (h2.pure ?_))
    unfold pureD objD at hp
    dsimp only at hp
    rw [List.all_map] at hp
    exact hp
end
end FL
end
section
/-! FL, part K: expressions over the store, simple statements that change it. -/
namespace FL
open PySem L2
/-- an expression whose value may be a reference -/
def EV (X : Cx) (W : L2.WX) (M : List Md) (e : Expr) (F : List D → Rs D) : Prop :=
  ∃ t : TE, PE X e t ∧ ∀ (G H0 : Hp) (O0 : Out) (O : Addr → Prop) (φ : List Addr) (H : Hp) (σ : L2.St) (ρ : List D) (Q : VK), EOkF X.T G H0 O0 M O φ H σ ρ → Wnt (WS W X.T O σ) (fun H' v d => Vq X.T O φ H' v d) H (F ρ) Q → t σ H Q
def EVA (X : Cx) (W : L2.WX) (M : List Md) (es : List Expr) (F : List D → Rs (List D)) : Prop :=
  ∃ t : TA, PA X es t ∧ ∀ (G H0 : Hp) (O0 : Out) (O : Addr → Prop) (φ : List Addr) (H : Hp) (σ : L2.St) (ρ : List D) (Q : List V → Hp → Prop), EOkF X.T G H0 O0 M O φ H σ ρ → Wnt (WS W X.T O σ) (fun H' vs ds => VqAll X.T O φ H' vs ds) H (F ρ) Q → t σ H Q
section
variable {Rp : RP} {X : Cx} {W : L2.WX} {M M' : List Md} {e a b c : Expr} {F F1 F2 : List D → Rs D} {es : List Expr} {A : List D → Rs (List D)} {pos pos' : Pos} {n : Nat}
theorem vq_mono {K : Tx} {O : Addr → Prop} {φ : List Addr} {H H' : Hp} {v : V} {d : D} (s : Same H H') (h : Vq K O φ H v d) : Vq K O φ H' v d := h.keep (hide_same s) pre_refl
theorem ev_of (h : DE X W M e F) : EV X W M e F := by
  obtain ⟨t, p, q⟩ := h
  refine ⟨t, p, fun G H0 O0 O φ H σ ρ Q I w => q G H0 O0 O H σ ρ Q I.ok ?_⟩
  generalize F ρ = r at w ⊢
  cases r with
  | ok d => exact fun H' v s h => w H' v s (.inr h)
  | er e => exact w
  | no => exact w
theorem ev_var {x : Str} (i : Nat) (hm : M[i]? = some .vr := by rfl) (hN : X.N[i]? = some x := by rfl) (hv : Vis X.env.scope x := by first | exact Or.inl rfl | exact Or.inr (Or.inl rfl) | exact Or.inr (Or.inr rfl)) (hd : (x == ("__debug__" : Str)) = false := by decide) (hcd : (x == ("__classdict__" : Str)) = false := by decide) :
    EV X W M (.Name x pos) (fVar i) := by
  refine ⟨_, pe_var hN hv hd hcd, fun G H0 O0 O φ H σ ρ Q I w => ?_⟩
  unfold fVar at w
  cases hr : ρ[i]? with
  | none => rw [hr] at w; exact w.elim
  | some d =>
    rw [hr] at w
    obtain ⟨v, e1, e2⟩ := I.vr hm hr
    exact ⟨v, e1, w.ok e2⟩
/-- shared: no reference -/
def fPu (F : List D → Rs D) : List D → Rs D := fun ρ => (F ρ).bind fun d => if hasRef d then .no else .ok d
theorem de_ofV (h : EV X W M e F) : DE X W M e (fPu F) := by
  obtain ⟨t, p, q⟩ := h
  refine ⟨t, p, fun G H0 O0 O H σ ρ Q ⟨φ, I⟩ w => q G H0 O0 O φ H σ ρ _ I (Wnt.bind w fun d H1 v s1 hd w1 => ?_)⟩
  split at w1
  · exact w1.elim
  · rename_i hr
    exact w1.ok (hd.pure (by simpa using hr))
/-- a list or a dict that is read here alone: the node's, or shared -/
def fNd (n : Nat) (F : List D → Rs D) : List D → Rs D := fun ρ => (F ρ).bind fun d => match refOf d with
  | none => if hasRef d then .no else .ok d
  | some j => match nodeAt n ρ j with
    | some (.list ds) => if pureD (.list ds) then .ok (.list ds) else .no
    | some (.dict ds) => if hdK ds && (ds.all fun p => !hasRef p.2) then .ok (.dict ds) else .no
    | _ => .no
theorem db_node (h : EV X W M e F) (hn : n = M.length := by rfl) : DB X W M e (fNd n F) := by
  subst hn
  obtain ⟨t, p, q⟩ := h
  refine ⟨t, p, fun G H0 O0 O H σ ρ Q ⟨φ, I⟩ w => q G H0 O0 O φ H σ ρ _ I (Wnt.bind w fun d H1 v s1 hd w1 => ?_)⟩
  have I1 := I.mono s1
  split at w1
  · split at w1
    · exact w1.elim
    · rename_i hr
      exact w1.ok (.inl (hd.pure (by simpa using hr)))
  · rename_i j hj
    split at w1
    · rename_i ds hds
      split at w1
      · rename_i hp
        obtain ⟨S, a, rfl, _, _, _, _, _, _, h8⟩ := I1.node hd hj hds
        obtain ⟨vs, h9, h10⟩ := h8.lstI
        exact w1.ok (.inr ⟨a, rfl, .inl ⟨vs, ds, rfl, h9, h10.pure hp⟩⟩)
      · exact w1.elim
    · rename_i ds hds
      split at w1
      · rename_i hp
        rw [Bool.and_eq_true] at hp
        obtain ⟨S, a, rfl, _, _, _, _, _, _, h8⟩ := I1.node hd hj hds
        obtain ⟨vs, h9, h10⟩ := h8.dctI hp.1
        exact w1.ok (.inr ⟨a, rfl, .inr (.inl ⟨vs, ds, rfl, .inl h9, h10.pure hp.2⟩)⟩)
      · exact w1.elim
    · exact w1.elim
/-- e.f -/
def fFld (n : Nat) (f : Str) (F : List D → Rs D) : List D → Rs D := fun ρ => (F ρ).bind fun d => match (match refOf d with | some j => nodeAt n ρ j | none => some d) with
  | none => .no
  | some d0 => match asObj d0 with
    | none => .no
    | some (c, fs) => match fs.lookup f with
      | none => .no
      | some d => if knownF c f then .ok d else .no
theorem ev_fld {f : Str} (ko : ClsOk X.T) (h : EV X W M e F) (hn : n = M.length := by rfl) (hb : attributeBase e f X.env (eval e X.env) = eval e X.env := by rfl) : EV X W M (.Attribute e f pos) (fFld n f F) := by
  subst hn
  obtain ⟨t, p, q⟩ := h
  refine ⟨_, pe_fld p hb, fun G H0 O0 O φ H σ ρ Q I w => q G H0 O0 O φ H σ ρ _ I (Wnt.bind w fun d H1 v s1 hd w1 => ?_)⟩
  have I1 := I.mono s1
  split at w1
  · exact w1.elim
  · rename_i d0 h0
    split at w1
    · exact w1.elim
    · rename_i c fs hc
      split at w1
      · exact w1.elim
      · rename_i d1 hf
        split at w1
        · rename_i hk
          split at h0
          · rename_i j hj
            obtain ⟨S, a, rfl, _, _, _, _, _, _, h8⟩ := I1.node hd hj h0
            obtain ⟨C, dx, vs, h9, h10, h11, _⟩ := h8.objI hc
            obtain ⟨v, h12, h13⟩ := h11.get hf
            obtain ⟨k1, k2⟩ := ko c C h10 f hk
            exact ⟨a, C, dx, vs, v, rfl, h9, k1, k2, h12, w1.ok h13⟩
          · rename_i hj
            cases h0
            obtain ⟨a, C, dx, vs, rfl, h9, h10, h11⟩ := (vq_obj hd hj hc).objI hc
            obtain ⟨v, h12, h13⟩ := h11.get hf
            obtain ⟨k1, k2⟩ := ko c C h10 f hk
            exact ⟨a, C, dx, vs, v, rfl, hide_sub _ _ h9, k1, k2, h12, w1.ok (.inr h13)⟩
        · exact w1.elim
/-- an item of a list of the store -/
def fIxN (n : Nat) (F1 F2 : List D → Rs D) : List D → Rs D := fun ρ => (F1 ρ).bind fun d => (F2 ρ).bind fun k => match refOf d, k with
  | some j, .int i => match nodeAt n ρ j with
    | some (.list ds) => getAt ds i
    | _ => .no
  | _, _ => .no
theorem ev_ix (ha : EV X W M a F1) (hb : DE X W M b F2) (hn : n = M.length := by rfl) (hs : PlainIx b := by intro _ _; rfl) : EV X W M (.Subscript a b pos) (fIxN n F1 F2) := by
  subst hn
  obtain ⟨ta, pa, qa⟩ := ha
  obtain ⟨tb, pb, qb⟩ := hb
  refine ⟨_, pe_ix ix_list pa pb hs, fun G H0 O0 O φ H σ ρ Q I w => qa G H0 O0 O φ H σ ρ _ I (Wnt.bind w fun d H1 x s1 hd w1 => qb G H0 O0 O H1 σ ρ _ (I.mono s1).ok (Wnt.bind w1 fun k H2 y s2 hk w2 => ?_))⟩
  have I2 := (I.mono s1).mono s2
  split at w2
  · rename_i j i hj
    split at w2
    · rename_i ds hds
      obtain ⟨S, p, rfl, _, _, _, _, _, _, h8⟩ := I2.node (vq_mono s2 hd) hj hds
      obtain ⟨vs, h9, h10⟩ := h8.lstI
      unfold getAt at w2
      split at w2
      · rename_i d1 h1
        cases hk
        have : ∃ v, atI vs i = some v ∧ Vq X.T O φ H2 v d1 := by
          unfold atI at h1 ⊢
          rw [VqAll.length h10]
          cases q : ixN ds.length i with
          | none => rw [q] at h1; cases h1
          | some m => rw [q] at h1; exact VqAll.get h10 h1
        obtain ⟨v, h2, h3⟩ := this
        exact ⟨p, vs, i, v, rfl, rfl, SqL.of h9, h2, w2.ok h3⟩
      · exact w2.elim
    · exact w2.elim
  · exact w2.elim
/-- len of a list of the store -/
def fLenN (n : Nat) (F : List D → Rs D) : List D → Rs D := fun ρ => (F ρ).bind fun d => match refOf d with
  | some j => match nodeAt n ρ j with
    | some (.list ds) => .ok (.int ds.length)
    | _ => .no
  | none => .no
theorem de_lenN {p : Pos} (hg : Gl X "len") (hm : X.mg "len" = none) (ha : EV X W M a F) (hn : n = M.length := by rfl)
    (he : starEach (a :: []) X.env = (false, eval a X.env) :: starEach [] X.env := by rfl) (hpl : (backTo pos (starEach [] X.env)).any (·.1) = false := by rfl) : DE X W M (.Call (.Name "len" p) [a] [] pos) (fLenN n F) := by
  subst hn
  obtain ⟨t, pt, q⟩ := ha
  refine ⟨_, pe_callB call_len_seq hg hm (by decide +kernel) (pa_cons pt pa_nil he) (by decide) (by decide) he hpl, fun G H0 O0 O H σ ρ Q ⟨φ, I⟩ w => q G H0 O0 O φ H σ ρ _ I (Wnt.bind w fun d H1 v s1 hd w1 => ?_)⟩
  have I1 := I.mono s1
  split at w1
  · rename_i j hj
    split at w1
    · rename_i ds hds
      obtain ⟨S, p, rfl, _, _, _, _, _, _, h8⟩ := I1.node hd hj hds
      obtain ⟨vs, h9, h10⟩ := h8.lstI
      refine ⟨p, vs, rfl, .inl (SqL.of h9), ?_⟩
      rw [VqAll.length h10]
      exact w1.ok (.int _)
    · exact w1.elim
  · exact w1.elim
/-- e is None, where e may be a reference -/
def fIsN (neg : Bool) (F : List D → Rs D) : List D → Rs D := fun ρ => (F ρ).bind fun d => .ok (.bool (if neg then !isNone d else isNone d))
theorem vq_is {K : Tx} {O : Addr → Prop} {φ : List Addr} {H : Hp} {v : V} {d : D} (h : Vq K O φ H v d) : decide (v = .non) = isNone d := by
  rcases h with ⟨j, a, rfl, _, rfl⟩ | h | _
  · rfl
  · exact bp_is (.inl h)
  · rfl
theorem de_isN {j : Nat} {p2 : Pos} (ha : EV X W M a F) (hm : behindInMarks .Is (.Constant .none j p2) = false := by rfl) : DE X W M (.Compare a [.Is] [.Constant .none j p2] pos) (fIsN false F) := by
  obtain ⟨t, pt, q⟩ := ha
  refine ⟨_, pe_cmpR op_isN pt pe_non hm, fun G H0 O0 O H σ ρ Q ⟨φ, I⟩ w => q G H0 O0 O φ H σ ρ _ I (Wnt.bind w fun d H1 v s1 hd w1 => ?_)⟩
  refine ⟨rfl, ?_⟩
  rw [vq_is hd]
  exact w1.ok (.bl _)
theorem de_notN {j : Nat} {p2 : Pos} (ha : EV X W M a F) (hm : behindInMarks .IsNot (.Constant .none j p2) = false := by rfl) : DE X W M (.Compare a [.IsNot] [.Constant .none j p2] pos) (fIsN true F) := by
  obtain ⟨t, pt, q⟩ := ha
  refine ⟨_, pe_cmpR op_notN pt pe_non hm, fun G H0 O0 O H σ ρ Q ⟨φ, I⟩ w => q G H0 O0 O φ H σ ρ _ I (Wnt.bind w fun d H1 v s1 hd w1 => ?_)⟩
  refine ⟨rfl, ?_⟩
  rw [vq_is hd]
  exact w1.ok (.bl _)
/-! ### argument lists -/
theorem eva_nil : EVA X W M [] aNil := ⟨_, pa_nil, fun _ _ _ _ _ _ _ _ _ _ w => w.ok .nil⟩
theorem eva_cons (h : EV X W M e F) (h2 : EVA X W M es A) (hs : starEach (e :: es) X.env = (false, eval e X.env) :: starEach es X.env := by rfl) : EVA X W M (e :: es) (aCons F A) := by
  obtain ⟨t, p, q⟩ := h
  obtain ⟨t2, p2, q2⟩ := h2
  refine ⟨_, pa_cons p p2 hs, fun G H0 O0 O φ H σ ρ Q I w => q G H0 O0 O φ H σ ρ _ I (Wnt.bind w fun d H1 v s1 hd w1 => q2 G H0 O0 O φ H1 σ ρ _ (I.mono s1) (Wnt.bind w1 fun ds H2 vs s2 hds w2 => w2.ok ?_))⟩
  exact .cons (vq_mono s2 hd) hds
/-! ### changes -/
/-- the store with the node j told anew -/
def stSet (n : Nat) (ρ : List D) (j : Nat) (d : D) : List D := match ρ[n]? with
  | some (.list S) => ρ.set n (.list (S.set j d))
  | _ => ρ
theorem stSet_of {ρ S : List D} {j : Nat} {d : D} (h : ρ[n]? = some (.list S)) : stSet n ρ j d = ρ.set n (.list (S.set j d)) := by unfold stSet; rw [h]
/-- the list that a reference names -/
def lstN (n : Nat) (ρ : List D) (p : D) : Option (Nat × List D) := match refOf p with
  | some j => match nodeAt n ρ j with
    | some (.list ds) => some (j, ds)
    | _ => none
  | none => none
theorem lstN_some {ρ : List D} {p : D} {j : Nat} {ds : List D} (h : lstN n ρ p = some (j, ds)) : refOf p = some j ∧ nodeAt n ρ j = some (.list ds) := by
  unfold lstN at h
  split at h
  · rename_i j' hj
    split at h
    · rename_i ds' hds
      cases h
      exact ⟨hj, hds⟩
    · cases h
  · cases h
/-- P.append(e) -/
def fAppN (n : Nat) (P F : List D → Rs D) : List D → Rs Fl := fun ρ => (P ρ).bind fun p => match lstN n ρ p with
  | some (j, ds) => (F ρ).bind fun d => if ds.length ≤ 100000 then .ok (.nx (stSet n ρ j (.list (ds ++ [d])))) else .no
  | none => .no
/-- an own list's kind, for a method's call -/
theorem node_ty {K : Tx} {G H0 H : Hp} {O0 : Out} {O : Addr → Prop} {φ : List Addr} {σ : L2.St} {ρ : List D} (I : EOkF K G H0 O0 M O φ H σ ρ) {v : V} {p : D} (h : Vq K O φ H v p) {ds : List D} {j : Nat} (hj : refOf p = some j) (hn : nodeAt M.length ρ j = some (.list ds)) : tyV K.K "list" v H := by
  obtain ⟨S, a, rfl, _, _, _, _, _, _, h8⟩ := I.node h hj hn
  obtain ⟨vs, h9, _⟩ := h8.lstI
  exact .inl ⟨rfl, _, SqL.of h9⟩
theorem EndOk1.mono {K : Tx} {G H0 H H1 : Hp} {O0 : Out} {O : Addr → Prop} {σ : L2.St} {E : Ends} (s : Same H H1) : ∀ {r : Rs Fl}, EndOk1 Rp K W G H0 O0 M' O H σ E r → EndOk1 Rp K W G H0 O0 M' O H1 σ E r
  | .ok (.nx _), w => w
  | .ok (.ret _), w => w
  | .er _, w => fun H' s' => w H' (s.trans s')
  | .no, w => w
theorem end1_bind {α β : Type} {K : Tx} {G H0 H : Hp} {O0 : Out} {O : Addr → Prop} {σ : L2.St} {E : Ends} {r : Rs α} {f : α → Rs Fl} {Rq : Hp → β → α → Prop} {Q : β → Hp → Prop} (w : EndOk1 Rp K W G H0 O0 M' O H σ E (r.bind f))
    (k : ∀ a H' v, Same H H' → Rq H' v a → EndOk1 Rp K W G H0 O0 M' O H' σ E (f a) → Q v H') : Wnt (WS W K O σ) Rq H r Q := by
  cases r with
  | ok a => exact fun H' v s q => k a H' v s q (EndOk1.mono s w)
  | er e => exact w
  | no => exact (show False from w).elim
theorem d1_appN (hrw : Rp.rw = true := by rfl) {o : Expr} {p2 p3 : Pos} (hP : EV X W M o F1) (h : EV X W M e F2) (hn : n = M.length := by rfl)
    (hbase : attributeBase o "append" X.env (eval o X.env) = eval o X.env := by rfl)
    (hfew : ((backTo p3 (starEach (e :: []) X.env)).all (fun x => !x.1) && (backToKw p3 (keywordEach [] X.env)).all (fun x => x.1.isSome) && decide ((e :: []).length + ([] : List Keyword).length + (if ([] : List Keyword).isEmpty then 0 else 1) < 30)) = true := by rfl)
    (hline : (p2.endLine == p3.line) = true := by rfl) (hse : starEach (e :: []) X.env = (false, eval e X.env) :: starEach [] X.env := by rfl) (hs : swapsWith (.Call (.Attribute o "append" p2) [e] [] p3) none pos.line X.env = pure false := by rfl) :
    DS1 Rp X W M (.Expr (.Call (.Attribute o "append" p2) [e] [] p3) pos) M (fAppN n F1 F2) := by
  subst hn
  obtain ⟨to, po, qo⟩ := hP
  obtain ⟨t, p, q⟩ := h
  refine ⟨_, ps_expr (pe_bm PySem.F.plainAttrs_list PySem.F.slot_list_append PySem.F.type_list_append mt_append po (pa_cons p pa_nil hse) hbase hfew hline hse) hs, fun G H0 O0 O H σ ρ E rw ⟨φ, I⟩ w => qo G H0 O0 O φ H σ ρ _ I (end1_bind w fun p H1 v s1 hv w1 => ?_)⟩
  have I1 := I.mono s1
  split at w1
  · rename_i j ds hl
    obtain ⟨hj, hds⟩ := lstN_some hl
    refine ⟨node_ty I1 hv hj hds, q G H0 O0 O φ H1 σ ρ _ I1 (end1_bind w1 fun d H2 u s2 hu w2 => ?_)⟩
    have I2 := I1.mono s2
    split at w2
    · rename_i hl
      obtain ⟨S, a, ev, h2, h3, h4, h5, h6, h7, h8⟩ := I2.node (vq_mono s2 hv) hj hds
      obtain ⟨vs, h9, h10⟩ := h8.lstI
      subst ev
      refine ⟨a, vs, u, rfl, rfl, h9, by rw [VqAll.length h10]; exact line_lt hl, ?_⟩
      rw [stSet_of h2] at w2
      exact w2 O _ _ (I2.stPut (rw hrw) h2 h3 h4 h5 fun sh => .lst upd_same (VqAll.append (h10.keep sh pre_refl) (.cons (hu.keep sh pre_refl) .nil))).ok
    · exact w2.elim
  · exact w1.elim
/-- P.clear() -/
def fClrN (n : Nat) (P : List D → Rs D) : List D → Rs Fl := fun ρ => (P ρ).bind fun p => match lstN n ρ p with
  | some (j, _) => .ok (.nx (stSet n ρ j (.list [])))
  | none => .no
theorem d1_clrN (hrw : Rp.rw = true := by rfl) {o : Expr} {p2 p3 : Pos} (hP : EV X W M o F1) (hn : n = M.length := by rfl)
    (hbase : attributeBase o "clear" X.env (eval o X.env) = eval o X.env := by rfl) (hline : (p2.endLine == p3.line) = true := by rfl) (hs : swapsWith (.Call (.Attribute o "clear" p2) [] [] p3) none pos.line X.env = pure false := by rfl) :
    DS1 Rp X W M (.Expr (.Call (.Attribute o "clear" p2) [] [] p3) pos) M (fClrN n F1) := by
  subst hn
  obtain ⟨to, po, qo⟩ := hP
  refine ⟨_, ps_expr (pe_bm0 PySem.F.plainAttrs_list PySem.F.slot_list_clear PySem.F.type_list_clear mt_clear po hbase hline) hs, fun G H0 O0 O H σ ρ E rw ⟨φ, I⟩ w => qo G H0 O0 O φ H σ ρ _ I (end1_bind w fun p H1 v s1 hv w1 => ?_)⟩
  have I1 := I.mono s1
  split at w1
  · rename_i j ds hl
    obtain ⟨hj, hds⟩ := lstN_some hl
    refine ⟨node_ty I1 hv hj hds, ?_⟩
    obtain ⟨S, a, ev, h2, h3, h4, h5, h6, h7, h8⟩ := I1.node hv hj hds
    obtain ⟨vs, h9, h10⟩ := h8.lstI
    subst ev
    rw [stSet_of h2] at w1
    exact ⟨a, vs, rfl, rfl, h9, w1 O _ _ (I1.stPut (rw hrw) h2 h3 h4 h5 fun sh => .lst upd_same .nil).ok⟩
  · exact w1.elim
/-- P[k] = e -/
def fPutN (n : Nat) (F P K : List D → Rs D) : List D → Rs Fl := fun ρ => (F ρ).bind fun d => (P ρ).bind fun p => (K ρ).bind fun k => match lstN n ρ p with
  | some (j, ds) => (match k with
    | .int i => match ixN ds.length i with
      | some m => .ok (.nx (stSet n ρ j (.list (ds.set m d))))
      | none => .no
    | _ => .no)
  | none => .no
theorem d1_putN (hrw : Rp.rw = true := by rfl) {F3 : List D → Rs D} {o : Expr} {p2 : Pos} (h : EV X W M e F1) (hP : EV X W M o F2) (hk : DE X W M b F3) (hn : n = M.length := by rfl)
    (ha : ∀ v, assign (.Subscript o b p2) X.env v = (do
      let ov ← holding [v] (eval o X.env)
      let iv ← holding [v, ov] (eval b X.env)
      standAt p2
      holding [v, ov, iv] (setItem ov iv v)
      release [v, ov, iv] []) := by intro _; rfl)
    (hs : swapsWithSole [.Subscript o b p2] e pos.line X.env = pure false := by rfl) (hw : swappedStores [.Subscript o b p2] e X.env = pure none := by rfl) (h1 : (assignEach [.Subscript o b p2] X.env).map (·.2) = [assign (.Subscript o b p2) X.env] := by rfl) :
    DS1 Rp X W M (.Assign [.Subscript o b p2] e pos) M (fPutN n F1 F2 F3) := by
  subst hn
  obtain ⟨t, p, q⟩ := h
  obtain ⟨to, po, qo⟩ := hP
  obtain ⟨tk, pk, qk⟩ := hk
  refine ⟨_, ps_asg p (pg_sub po pk set_list ha) hs hw h1, fun G H0 O0 O H σ ρ E rw ⟨φ, I⟩ w => q G H0 O0 O φ H σ ρ _ I (end1_bind w fun d H1 u s1 hu w1 => qo G H0 O0 O φ H1 σ ρ _ (I.mono s1) (end1_bind w1 fun p H2 v s2 hv w2 => qk G H0 O0 O H2 σ ρ _ ((I.mono s1).mono s2).ok (end1_bind w2 fun k H3 y s3 hy w3 => ?_)))⟩
  have I3 := ((I.mono s1).mono s2).mono s3
  split at w3
  · rename_i j ds hl
    obtain ⟨hj, hds⟩ := lstN_some hl
    cases k with
    | int i =>
      cases hy
      dsimp only at w3
      split at w3
      · rename_i m hm
        obtain ⟨S, a, ev, h2, h3, h4, h5, h6, h7, h8⟩ := I3.node (vq_mono s3 hv) hj hds
        obtain ⟨vs, h9, h10⟩ := h8.lstI
        subst ev
        rw [stSet_of h2] at w3
        exact ⟨a, vs, i, m, rfl, rfl, h9, by rw [VqAll.length h10]; exact hm, w3 O _ _ (I3.stPut (rw hrw) h2 h3 h4 h5 fun sh => .lst upd_same (VqAll.set (Vq.keep sh pre_refl (vq_mono (s2.trans s3) hu)) _ (h10.keep sh pre_refl))).ok⟩
      · exact w3.elim
    | _ => exact w3.elim
  · exact w3.elim
/-- P.f = e -/
def objN (n : Nat) (ρ : List D) (p : D) : Option (Nat × Str × List (Str × D)) := match refOf p with
  | some j => match nodeAt n ρ j with
    | some d => match asObj d with
      | some (c, fs) => some (j, c, fs)
      | none => none
    | none => none
  | none => none
theorem objN_some {ρ : List D} {p : D} {j : Nat} {c : Str} {fs : List (Str × D)} (h : objN n ρ p = some (j, c, fs)) : refOf p = some j ∧ ∃ d, nodeAt n ρ j = some d ∧ asObj d = some (c, fs) := by
  unfold objN at h
  split at h
  · rename_i j' hj
    split at h
    · rename_i d hd
      split at h
      · rename_i c' fs' ho
        cases h
        exact ⟨hj, d, hd, ho⟩
      · cases h
    · cases h
  · cases h
def fFldN (n : Nat) (f : Str) (F P : List D → Rs D) : List D → Rs Fl := fun ρ => (F ρ).bind fun d => (P ρ).bind fun p => match objN n ρ p with
  | some (j, c, fs) => if knownF c f = true ∧ fs.length < 100 then .ok (.nx (stSet n ρ j (objD c (putFD f d fs)))) else .no
  | none => .no
theorem d1_fldN (hrw : Rp.rw = true := by rfl) {f : Str} {o : Expr} {p2 : Pos} (ko : ClsOk X.T) (h : EV X W M e F1) (hP : EV X W M o F2) (hn : n = M.length := by rfl) (hs : swapsWith e (some (.Attribute o f p2)) pos.line X.env = pure false := by rfl) :
    DS1 Rp X W M (.Assign [.Attribute o f p2] e pos) M (fFldN n f F1 F2) := by
  subst hn
  obtain ⟨t, p, q⟩ := h
  obtain ⟨to, po, qo⟩ := hP
  refine ⟨_, ps_fld po p hs, fun G H0 O0 O H σ ρ E rw ⟨φ, I⟩ w => q G H0 O0 O φ H σ ρ _ I (end1_bind w fun d H1 u s1 hu w1 => qo G H0 O0 O φ H1 σ ρ _ (I.mono s1) (end1_bind w1 fun p H2 v s2 hv w2 => ?_))⟩
  have I2 := (I.mono s1).mono s2
  split at w2
  · rename_i j c fs hl
    obtain ⟨hj, d0, hd0, ho⟩ := objN_some hl
    split at w2
    · rename_i hk
      obtain ⟨S, a, ev, h2, h3, h4, h5, h6, h7, h8⟩ := I2.node hv hj hd0
      obtain ⟨C, dx, vs, h9, h10, h11, _⟩ := h8.objI ho
      obtain ⟨k1, k2⟩ := ko c C h10 f hk.1
      subst ev
      rw [stSet_of h2] at w2
      exact ⟨a, C, dx, vs, rfl, h9, k1, k2, by rw [VqFs.length h11]; omega, w2 O _ _ (I2.stPut (rw hrw) h2 h3 h4 h5 fun sh => .obj upd_same h10 (VqFs.put (Vq.keep sh pre_refl (vq_mono s2 hu)) (h11.keep sh pre_refl))).ok⟩
    · exact w2.elim
  · exact w2.elim
/-- x = e, where e may be a reference -/
theorem d1_setV {x : Str} (i : Nat) (hN : X.N.Nodup) (h : EV X W M e F) (hi : X.N[i]? = some x := by rfl) (hl : i < M.length := by decide) (hx : Loc X.env.scope x := by first | exact .inl rfl | exact .inr rfl) (hs : swapsWith e (some (.Name x pos')) pos.line X.env = pure false := by rfl) (hf : X.fn x = true ∨ X.env.scope.names.lookup x = some .local := by first | exact .inl rfl | exact .inr rfl | assumption) :
    DS1 Rp X W M (.Assign [.Name x pos'] e pos) (M.set i .vr) (fSet i F) := by
  obtain ⟨t, p, q⟩ := h
  refine ⟨_, ps_set hN hi hx p hs hf, fun G H0 O0 O H σ ρ E rw ⟨φ, I⟩ w => q G H0 O0 O φ H σ ρ _ I (end1_bind w fun d H1 v s1 hv w1 => ?_)⟩
  exact w1 _ _ _ ((I.mono s1).setV (m := .vr) hl rfl ⟨v, rfl, hv⟩).ok
end
end FL
end
section
/-! FL, part L: expressions that change the store, calls that see it. -/
namespace FL
open PySem L2
/-- the store as a datum -/
abbrev stD (S : List D) : D := .list S
/-- what an expression that changes the store must give -/
def XEnd (K : Tx) (W : L2.WX) (G H0 : Hp) (O0 : Out) (M : List Md) (O : Addr → Prop) (φ : List Addr) (H : Hp) (σ : L2.St) (ρ : List D) (Q : VK) : Rs D → Prop
  | .ok (.tuple [d, .list S]) => ∀ (O' : Addr → Prop) (φ' : List Addr) (H' : Hp) (v : V), EOkF K G H0 O0 M O' φ' H' σ (ρ.set M.length (.list S)) → Same (hide O H) (hide O' H') → φ <+: φ' → Vq K O' φ' H' v d → Q v H'
  | .er (.tuple [e, .list S]) => ∀ (O' : Addr → Prop) (φ' : List Addr) (H' : Hp) (cls : Value) (dd : Option Addr), EOkF K G H0 O0 M O' φ' H' σ (ρ.set M.length (.list S)) → Same (hide O H) (hide O' H') → ExR K O' H' e cls dd → W cls dd σ H'
  | _ => False
def EX (X : Cx) (W : L2.WX) (M : List Md) (e : Expr) (F : List D → Rs D) : Prop :=
  ∃ t : TE, PE X e t ∧ ∀ (G H0 : Hp) (O0 : Out) (O : Addr → Prop) (φ : List Addr) (H : Hp) (σ : L2.St) (ρ : List D) (Q : VK), O0.rw = true → EOkF X.T G H0 O0 M O φ H σ ρ → XEnd X.T W G H0 O0 M O φ H σ ρ Q (F ρ) → t σ H Q
section
variable {Rp : RP} {X : Cx} {W : L2.WX} {M M' : List Md} {e a b c : Expr} {F F1 F2 : List D → Rs D} {es : List Expr} {A : List D → Rs (List D)} {pos pos' : Pos} {n : Nat}
theorem EOkF.stAt {K : Tx} {G H0 H : Hp} {O0 : Out} {O : Addr → Prop} {φ : List Addr} {σ : L2.St} {ρ S : List D} (I : EOkF K G H0 O0 M O φ H σ ρ) (h : ρ[M.length]? = some (.list S)) : StOk K O0.rw H0 O φ H S := by
  obtain ⟨S', e, q⟩ := I.st _ h
  cases e
  exact q
/-- a new list is a node from here on -/
def fNewE (n : Nat) (F : List D → Rs D) : List D → Rs D := fun ρ => (F ρ).nx.bind fun d => match d, ρ[n]? with
  | .list ds, some (.list S) => .ok (.tuple [refD S.length, .list (S ++ [.list ds])])
  | _, _ => .no
theorem ex_new (h : DO X W M e F) (hn : n = M.length := by rfl) : EX X W M e (fNewE n F) := by
  subst hn
  obtain ⟨t, p, q⟩ := h
  refine ⟨t, p, fun G H0 O0 O φ H σ ρ Q hw I w => q G H0 O0 O H σ ρ _ I.ok ?_⟩
  unfold fNewE at w
  generalize F ρ = r at w ⊢
  cases r with
  | er e => exact (show False from w).elim
  | no => exact (show False from w).elim
  | ok d =>
    rintro H' v s ⟨p, vs, ds, rfl, rfl, hp, h1, h2⟩
    have w : XEnd X.T W G H0 O0 M O φ H σ ρ Q (match (.list ds : D), ρ[M.length]? with
      | .list ds, some (.list S) => .ok (.tuple [refD S.length, .list (S ++ [.list ds])])
      | _, _ => .no) := w
    split at w
    · rename_i ds' S e1 e2
      cases e1
      have J := I.stNew (d := .list ds) s hp (by rw [h1]; intro z; cases z) e2 fun sh => .lst h1 (VqAll.of h2)
      exact w _ _ _ _ J (hide_new s hp) ⟨_, rfl⟩ (.inl ⟨S.length, p, rfl, by rw [← (I.stAt e2).len, List.getElem?_append_right (Nat.le_refl _), Nat.sub_self]; rfl, rfl⟩)
    · exact w.elim
/-- {} as a node -/
def fNewD (n : Nat) : List D → Rs D := fun ρ => match ρ[n]? with
  | some (.list S) => .ok (.tuple [refD S.length, .list (S ++ [.dict []])])
  | _ => .no
theorem ex_dict (hn : n = M.length := by rfl) : EX X W M (.Dict [] [] pos) (fNewD n) := by
  subst hn
  refine ⟨_, pe_dnewK, fun G H0 O0 O φ H σ ρ Q hw I w => fun p hp => ?_⟩
  unfold fNewD at w
  split at w
  · rename_i S e2
    have J := I.stNew (d := .dict []) (same_upd hp) hp (by rw [upd_same]; intro z; cases z) e2 fun sh => .dct upd_same .nil
    exact w _ _ _ _ J (hide_new (same_upd hp) hp) ⟨_, rfl⟩ (.inl ⟨S.length, p, rfl, by rw [← (I.stAt e2).len, List.getElem?_append_right (Nat.le_refl _), Nat.sub_self]; rfl, rfl⟩)
  · exact w.elim
/-- a value without change -/
def fKeep (n : Nat) (F : List D → Rs D) : List D → Rs D := fun ρ => match ρ[n]? with
  | some (.list S) => (match F ρ with
    | .ok d => .ok (.tuple [d, .list S])
    | .er e => .er (.tuple [e, .list S])
    | .no => .no)
  | _ => .no
theorem set_self {ρ : List D} {d : D} {i : Nat} (h : ρ[i]? = some d) : ρ.set i d = ρ := by
  apply List.ext_getElem?
  intro j
  by_cases e : i = j
  · subst e
    rw [List.getElem?_set_self (List.getElem?_eq_some_iff.mp h).1, h]
  · rw [List.getElem?_set_ne e]
theorem ex_keep (h : EV X W M e F) (hn : n = M.length := by rfl) : EX X W M e (fKeep n F) := by
  subst hn
  obtain ⟨t, p, q⟩ := h
  refine ⟨t, p, fun G H0 O0 O φ H σ ρ Q hw I w => q G H0 O0 O φ H σ ρ _ I ?_⟩
  unfold fKeep at w
  split at w
  · rename_i S hS
    generalize F ρ = r at w ⊢
    cases r with
    | no => exact w
    | er e =>
      intro H' s cls dd x
      have w : XEnd X.T W G H0 O0 M O φ H σ ρ Q (.er (.tuple [e, .list S])) := w
      have J := I.mono s
      exact w O φ H' cls dd (by rw [set_self hS]; exact J) (hide_same s) x
    | ok d =>
      intro H' v s hv
      have w : XEnd X.T W G H0 O0 M O φ H σ ρ Q (.ok (.tuple [d, .list S])) := w
      exact w O φ H' v (by rw [set_self hS]; exact I.mono s) (hide_same s) pre_refl hv
  · exact w.elim
end
/-! ### promises of defs that see the store -/
/-- the addresses of live nodes -/
def Live (φ : List Addr) (S : List D) (a : Addr) : Prop := ∃ (j : Nat) (d : D), φ[j]? = some a ∧ S[j]? = some d ∧ d ≠ .none
/-- behind a def that may have changed the store -/
structure Aft (K : Tx) (O : Addr → Prop) (φ : List Addr) (S : List D) (H : Hp) (O' : Addr → Prop) (φ' : List Addr) (S' : List D) (H' : Hp) : Prop where
  base : ∀ b o, H b = some o → ¬ Live φ S b → H' b = some o
  out : ∀ p, O p → ¬ Live φ S p → O' p
  fr : ∀ p, O' p → O p ∨ H p = none
  alive : ∀ p, O' p → H' p ≠ none
  pre : φ <+: φ'
  new : ∀ a ∈ φ', a ∈ φ ∨ H a = none
  nod : φ'.Nodup
  liv : ∀ a ∈ φ', H' a ≠ none
  st : StOk K true (hide (Live φ S) H) O' φ' H' S'
structure Bef (K : Tx) (O : Addr → Prop) (φ : List Addr) (S : List D) (H : Hp) : Prop where
  alive : ∀ p, O p → H p ≠ none
  nod : φ.Nodup
  liv : ∀ a ∈ φ, H a ≠ none
  st : StOk K false H O φ H S
def SEnd (K : Tx) (O : Addr → Prop) (φ : List Addr) (S : List D) (H : Hp) (Q : VK) (E : XK) : Rs D → Prop
  | .ok (.tuple [d, .list S']) => ∀ (O' : Addr → Prop) (φ' : List Addr) (H' : Hp) (v : V), Aft K O φ S H O' φ' S' H' → Vq K O' φ' H' v d → Q v H'
  | .er (.tuple [e, .list S']) => ∀ (O' : Addr → Prop) (φ' : List Addr) (H' : Hp) (cls : Value) (dd : Option Addr), Aft K O φ S H O' φ' S' H' → ExR K O' H' e cls dd → E cls dd H'
  | _ => False
/-- a def that may change the store -/
def spS (K : Tx) (n : Nat) (F : List D → Rs D) : Sp := fun vs H Q E => ∃ (O : Addr → Prop) (φ : List Addr) (S ds : List D), vs.length = n ∧ Bef K O φ S H ∧ VqAll K O φ H vs ds ∧ SEnd K O φ S H Q E (F (ds ++ [.list S]))
/-- a def that reads it -/
def spV (Rp : Tx → Rep) (K : Tx) (n : Nat) (F : List D → Rs D) : Sp := fun vs H Q E => ∃ (O : Addr → Prop) (φ : List Addr) (S ds : List D), vs.length = n ∧ Bef K O φ S H ∧ VqAll K O φ H vs ds ∧ Wnt (WE K O E) (Rp K O H) H (F (ds ++ [.list S])) Q
section
variable {K : Tx} {G H0 H H' : Hp} {O0 : Out} {O O' : Addr → Prop} {φ φ' : List Addr} {M : List Md} {σ : L2.St} {ρ S S' : List D}
theorem EOkF.bef (I : EOkF K G H0 O0 M O φ H σ ρ) (h : ρ[M.length]? = some (.list S)) : Bef K O φ S H :=
  ⟨I.alive, I.nod, I.liv, (I.stAt h).len, fun j a d h1 h2 h3 => let ⟨k1, _, k3⟩ := (I.stAt h).node j a d h1 h2 h3; ⟨k1, (fun z => nomatch z), k3⟩⟩
theorem Aft.same (A : Aft K O φ S H O' φ' S' H') (hL : ∀ a, Live φ S a → O a) : Same (hide O H) (hide O' H') := fun b o e => by
  obtain ⟨n, e⟩ := hide_some e
  rw [hide_at fun z => (A.fr b z).elim n fun y => ne_of_none e y rfl]
  exact A.base b o e fun z => n (hL b z)
/-- the caller's state behind such a def -/
theorem EOkF.after (hw : O0.rw = true) (I : EOkF K G H0 O0 M O φ H σ ρ) (h : ρ[M.length]? = some (.list S)) (A : Aft K O φ S H O' φ' S' H') : EOkF K G H0 O0 M O' φ' H' σ (ρ.set M.length (.list S')) := by
  have q := I.stAt h
  have hL : ∀ a, Live φ S a → O a ∧ H0 a = none := fun a ⟨j, d, h1, h2, h3⟩ => let ⟨k1, k2, _⟩ := q.node j a d h1 h2 h3; ⟨k1, k2 hw⟩
  have sm := A.same fun a z => (hL a z).1
  have lst : M.length < ρ.length := (List.getElem?_eq_some_iff.mp h).1
  have nl : ∀ {i : Nat} {m : Md} {p : Addr}, M[i]? = some m → m.own = true → σ[i]? = some (some (.ref p)) → ¬ Live φ S p := fun h1 o1 h3 ⟨j, d, g1, _⟩ => I.sep _ _ _ h1 o1 h3 (List.mem_of_getElem? g1)
  refine ⟨I.gs.trans sm, fun b u e => ?_, fun p z => ?_, I.al0, A.alive, fun p z => ?_, I.pre.trans A.pre, fun a h => ?_, A.nod, A.liv, I.ls, by rw [List.length_set]; exact I.lr, fun i m x d h1 h2 h3 => ?_, I.dist, fun i m p h1 o1 h3 z => ?_, I.pins, fun d hd => ?_⟩
  · exact A.base b u (I.base b u e) fun z => by rw [(hL b z).2] at e; cases e
  · exact A.out p (I.sub p z) fun z' => I.al0 p z (hL p z').2
  · rcases A.fr p z with z | z
    · exact I.fr p z
    · exact .inr (Same.none I.base z)
  · rcases A.new a h with h | h
    · exact I.nw a h
    · exact .inr (Same.none I.base h)
  · rw [List.getElem?_set_ne (Nat.ne_of_gt (List.getElem?_eq_some_iff.mp h1).1)] at h3
    refine (I.slot i m x d h1 h2 h3).keep sm A.pre fun p o1 e1 op hp => ?_
    subst e1
    have n := nl h1 o1 h2
    refine ⟨?_, A.out p op n⟩
    cases q : H p with
    | none => exact absurd q hp
    | some u => exact A.base p u q n
  · have op := I.ownAt h1 o1 h3
    rcases A.new p z with z | z
    · exact I.sep i m p h1 o1 h3 z
    · exact I.alive p op z
  · rw [List.getElem?_set_self lst] at hd
    cases hd
    refine ⟨S', rfl, A.st.len, fun j a d h1 h2 h3 => ?_⟩
    obtain ⟨k1, k2, k3⟩ := A.st.node j a d h1 h2 h3
    refine ⟨k1, fun _ => ?_, k3⟩
    have := k2 rfl
    by_cases z : Live φ S a
    · exact (hL a z).2
    · rw [hide_at z] at this
      exact Same.none I.base this
end
end FL
end
section
/-! FL, part M: statements with expressions that change the store. -/
namespace FL
open PySem L2
/-- what holds of the store where a def ends -/
structure AftE (K : Tx) (O0 : Out) (H0 : Hp) (O : Addr → Prop) (φ : List Addr) (H : Hp) (S : List D) : Prop where
  base : Same H0 H
  sub : ∀ p, O0.p p → O p
  fr : ∀ p, O p → O0.p p ∨ H0 p = none
  alive : ∀ p, O p → H p ≠ none
  pre : O0.φ <+: φ
  nw : ∀ a ∈ φ, a ∈ O0.φ ∨ H0 a = none
  nod : φ.Nodup
  liv : ∀ a ∈ φ, H a ≠ none
  st : StOk K true H0 O φ H S
/-- a def that may change the store; one that has a store of its own -/
def stP : RP := ⟨true, fun K O0 H0 H v d => ∃ O φ S d', d = .tuple [d', .list S] ∧ AftE K O0 H0 O φ H S ∧ Vq K O φ H v d', fun K O0 H0 H cls dd e => ∃ O φ S e', e = .tuple [e', .list S] ∧ AftE K O0 H0 O φ H S ∧ ExR K O H e' cls dd⟩
def inP : RP := ⟨true, shP.rt, shP.xt⟩
def inOP : RP := ⟨true, owP.rt, owP.xt⟩
theorem px_in : PlainX inP := fun _ _ _ _ _ _ _ h => h
theorem px_inO : PlainX inOP := fun _ _ _ _ _ _ _ h => h
/-- how errors are told: with the store, or alone -/
structure PkOk (P : RP) (pk : D → List D → D) : Prop where
  x : ∀ {K : Tx} {G H0 H : Hp} {O0 : Out} {M : List Md} {O : Addr → Prop} {φ : List Addr} {σ : L2.St} {ρ S : List D} {cls : Value} {dd : Option Addr} {e : D}, O0.rw = true → EOkF K G H0 O0 M O φ H σ ρ → ρ[M.length]? = some (.list S) → ExR K O H e cls dd → P.xt K O0 H0 H cls dd (pk e S)
def pkS : D → List D → D := fun e S => .tuple [e, .list S]
def pkI : D → List D → D := fun e _ => e
theorem EOkF.aftE {K : Tx} {G H0 H : Hp} {O0 : Out} {M : List Md} {O : Addr → Prop} {φ : List Addr} {σ : L2.St} {ρ S : List D} (hw : O0.rw = true) (I : EOkF K G H0 O0 M O φ H σ ρ) (h : ρ[M.length]? = some (.list S)) : AftE K O0 H0 O φ H S :=
  ⟨I.base, I.sub, I.fr, I.alive, I.pre, I.nw, I.nod, I.liv, by have := I.stAt h; rw [hw] at this; exact this⟩
theorem pk_st : PkOk stP pkS := ⟨fun {_ _ _ _ _ _ O φ _ _ S _ _ e} hw I h x => ⟨O, φ, S, e, rfl, I.aftE hw h, x⟩⟩
theorem pk_in : PkOk inP pkI := ⟨fun _ I _ x => x.keep (hide_less I.sub)⟩
theorem pk_inO : PkOk inOP pkI := ⟨fun _ I _ x => x.keep (hide_less I.sub)⟩
section
variable {P : RP} {pk : D → List D → D} {X : Cx} {W : L2.WX} {M M' : List Md} {e a b c o : Expr} {F F1 F2 : List D → Rs D} {S1 S2 : List D → Rs Fl} {es : List Expr} {A : List D → Rs (List D)} {pos pos' : Pos} {n : Nat} {st : Stmt} {body body2 : List Stmt}
/-- a simple statement of such a def: its error with the store -/
def fPk (n : Nat) (pk : D → List D → D) (f : List D → Rs Fl) : List D → Rs Fl := fun ρ => match f ρ with
  | .er e => (match ρ[n]? with
    | some (.list S) => .er (pk e S)
    | _ => .no)
  | r => r
theorem ds_pk (pko : PkOk P pk) (h : DS1 P X W M st M' S1) (hrw : P.rw = true := by rfl) (hn : n = M.length := by rfl) : DS P X W M st M' (fPk n pk S1) := by
  subst hn
  obtain ⟨t, p, q⟩ := h
  refine ⟨t, p, fun G H0 O0 O H σ ρ E rw I w => q G H0 O0 O H σ ρ E rw I ?_⟩
  unfold fPk at w
  generalize S1 ρ = r at w ⊢
  cases r with
  | no => exact w
  | ok f => cases f <;> exact w
  | er e =>
    dsimp only at w
    split at w
    · rename_i S hS
      obtain ⟨φ, I⟩ := I
      exact fun H' s cls dd x => w H' cls dd σ (I.base.trans s) (pko.x (rw hrw) (I.mono s) hS x)
    · exact w.elim
def xb (pk : D → List D → D) (r : Rs D) (k : D → List D → Rs Fl) : Rs Fl := match r with
  | .ok (.tuple [d, .list S]) => k d S
  | .er (.tuple [e, .list S]) => .er (pk e S)
  | _ => .no
theorem xend_of {K : Tx} {G H0 H : Hp} {O0 : Out} {O : Addr → Prop} {φ : List Addr} {σ : L2.St} {ρ : List D} {E : Ends} {Q : VK} {r : Rs D} {k : D → List D → Rs Fl} (pko : PkOk P pk) (hw : O0.rw = true) (I : EOkF K G H0 O0 M O φ H σ ρ) (w : EndOk P K W G H0 O0 M' E (xb pk r k))
    (hst : M.length < ρ.length)
    (h : ∀ d S (O' : Addr → Prop) (φ' : List Addr) (H' : Hp) (v : V), EOkF K G H0 O0 M O' φ' H' σ (ρ.set M.length (.list S)) → Same (hide O H) (hide O' H') → φ <+: φ' → Vq K O' φ' H' v d → EndOk P K W G H0 O0 M' E (k d S) → Q v H') : XEnd K W G H0 O0 M O φ H σ ρ Q r := by
  unfold xb at w
  split at w
  · exact fun O' φ' H' v J s pr hv => h _ _ O' φ' H' v J s pr hv w
  · exact fun O' φ' H' cls dd J s x => w H' cls dd σ J.base (pko.x hw J (List.getElem?_set_self hst) x)
  · exact w.elim
/-- an expression that changes the store, as a statement; a name told by it -/
def fExpX (n : Nat) (pk : D → List D → D) (F : List D → Rs D) : List D → Rs Fl := fun ρ => if n < ρ.length then xb pk (F ρ) fun _ S => .ok (.nx (ρ.set n (.list S))) else .no
theorem dx_expr (pko : PkOk P pk) (h : EX X W M e F) (hrw : P.rw = true := by rfl) (hn : n = M.length := by rfl) (hs : swapsWith e none pos.line X.env = pure false := by rfl) : DS P X W M (.Expr e pos) M (fExpX n pk F) := by
  subst hn
  obtain ⟨t, p, q⟩ := h
  refine ⟨_, ps_expr p hs, fun G H0 O0 O H σ ρ E rw ⟨φ, I⟩ w => ?_⟩
  unfold fExpX at w
  split at w
  · rename_i hl
    exact q G H0 O0 O φ H σ ρ _ (rw hrw) I (xend_of pko (rw hrw) I w hl fun d S O' φ' H' v J _ _ _ w1 => w1 O' H' σ J.ok)
  · exact w.elim
def fSetX (n i : Nat) (pk : D → List D → D) (F : List D → Rs D) : List D → Rs Fl := fun ρ => if n < ρ.length then xb pk (F ρ) fun d S => .ok (.nx ((ρ.set n (.list S)).set i d)) else .no
/-- .. the value is no reference -/
def fSetXP (n i : Nat) (pk : D → List D → D) (F : List D → Rs D) : List D → Rs Fl := fun ρ => if n < ρ.length then xb pk (F ρ) fun d S => if hasRef d then .no else .ok (.nx ((ρ.set n (.list S)).set i d)) else .no
theorem dx_set {x : Str} (i : Nat) (hN : X.N.Nodup) (pko : PkOk P pk) (h : EX X W M e F) (hrw : P.rw = true := by rfl) (hn : n = M.length := by rfl) (hi : X.N[i]? = some x := by rfl) (hl : i < M.length := by decide) (hx : Loc X.env.scope x := by first | exact .inl rfl | exact .inr rfl) (hs : swapsWith e (some (.Name x pos')) pos.line X.env = pure false := by rfl) (hf : X.fn x = true ∨ X.env.scope.names.lookup x = some .local := by first | exact .inl rfl | exact .inr rfl | assumption) :
    DS P X W M (.Assign [.Name x pos'] e pos) (M.set i .vr) (fSetX n i pk F) := by
  subst hn
  obtain ⟨t, p, q⟩ := h
  refine ⟨_, ps_set hN hi hx p hs hf, fun G H0 O0 O H σ ρ E rw ⟨φ, I⟩ w => ?_⟩
  unfold fSetX at w
  split at w
  · rename_i hlr
    exact q G H0 O0 O φ H σ ρ _ (rw hrw) I (xend_of pko (rw hrw) I w hlr fun d S O' φ' H' v J _ _ hv w1 => w1 O' H' _ (J.setV (m := .vr) hl rfl ⟨v, rfl, hv⟩).ok)
  · exact w.elim
theorem dx_setP {x : Str} (i : Nat) (hN : X.N.Nodup) (pko : PkOk P pk) (h : EX X W M e F) (hrw : P.rw = true := by rfl) (hn : n = M.length := by rfl) (hi : X.N[i]? = some x := by rfl) (hl : i < M.length := by decide) (hx : Loc X.env.scope x := by first | exact .inl rfl | exact .inr rfl) (hs : swapsWith e (some (.Name x pos')) pos.line X.env = pure false := by rfl) (hf : X.fn x = true ∨ X.env.scope.names.lookup x = some .local := by first | exact .inl rfl | exact .inr rfl | assumption) :
    DS P X W M (.Assign [.Name x pos'] e pos) (M.set i .sh) (fSetXP n i pk F) := by
  subst hn
  obtain ⟨t, p, q⟩ := h
  refine ⟨_, ps_set hN hi hx p hs hf, fun G H0 O0 O H σ ρ E rw ⟨φ, I⟩ w => ?_⟩
  unfold fSetXP at w
  split at w
  · rename_i hlr
    refine q G H0 O0 O φ H σ ρ _ (rw hrw) I (xend_of pko (rw hrw) I w hlr fun d S O' φ' H' v J _ _ hv w1 => ?_)
    split at w1
    · exact w1.elim
    · rename_i hr
      exact w1 O' H' _ (J.setV (m := .sh) hl rfl ⟨v, rfl, hv.pure (by simpa using hr)⟩).ok
  · exact w.elim
/-- P.f = e -/
def fFldX (n : Nat) (f : Str) (pk : D → List D → D) (F P : List D → Rs D) : List D → Rs Fl := fun ρ => if n < ρ.length then xb pk (F ρ) fun d S => (P (ρ.set n (.list S))).nx.bind fun p => match objN n (ρ.set n (.list S)) p with
  | some (j, c, fs) => if knownF c f = true ∧ fs.length < 100 then .ok (.nx (stSet n (ρ.set n (.list S)) j (objD c (putFD f d fs)))) else .no
  | none => .no
  else .no
theorem endOk_nx {α β : Type} {K : Tx} {σ : L2.St} {O : Addr → Prop} {G H0 H : Hp} {O0 : Out} {E : Ends} {r : Rs α} {f : α → Rs Fl} {Rq : Hp → β → α → Prop} {Q : β → Hp → Prop} (w : EndOk P K W G H0 O0 M' E (r.nx.bind f))
    (k : ∀ a H' v, Same H H' → Rq H' v a → EndOk P K W G H0 O0 M' E (f a) → Q v H') : Wnt (WS W K O σ) Rq H r Q := by
  cases r with
  | ok a => exact fun H' v s q => k a H' v s q w
  | er e => exact (show False from w).elim
  | no => exact (show False from w).elim
theorem dx_fld {f : Str} {p2 : Pos} (ko : ClsOk X.T) (pko : PkOk P pk) (h : EX X W M e F1) (hP : EV X W M o F2) (hrw : P.rw = true := by rfl) (hn : n = M.length := by rfl) (hs : swapsWith e (some (.Attribute o f p2)) pos.line X.env = pure false := by rfl) :
    DS P X W M (.Assign [.Attribute o f p2] e pos) M (fFldX n f pk F1 F2) := by
  subst hn
  obtain ⟨t, p, q⟩ := h
  obtain ⟨to, po, qo⟩ := hP
  refine ⟨_, ps_fld po p hs, fun G H0 O0 O H σ ρ E rw ⟨φ, I⟩ w => ?_⟩
  unfold fFldX at w
  split at w
  rotate_left
  · exact w.elim
  rename_i hlr
  refine q G H0 O0 O φ H σ ρ _ (rw hrw) I (xend_of pko (rw hrw) I w hlr fun d S O' φ' H' u J s pr hu w1 => qo G H0 O0 O' φ' H' σ _ _ J (endOk_nx w1 fun p H2 v s2 hv w2 => ?_))
  have I2 := J.mono s2
  split at w2
  · rename_i j c fs hl
    obtain ⟨hj, d0, hd0, ho⟩ := objN_some hl
    split at w2
    · rename_i hk
      obtain ⟨S', a, ev, h2, h3, h4, h5, h6, h7, h8⟩ := I2.node hv hj hd0
      obtain ⟨C, dx, vs, h9, h10, h11, _⟩ := h8.objI ho
      obtain ⟨k1, k2⟩ := ko c C h10 f hk.1
      subst ev
      rw [stSet_of h2] at w2
      exact ⟨a, C, dx, vs, rfl, h9, k1, k2, by rw [VqFs.length h11]; omega, w2 O' _ _ (I2.stPut (rw hrw) h2 h3 h4 h5 fun sh => .obj upd_same h10 (VqFs.put (Vq.keep sh pre_refl (vq_mono s2 hu)) (h11.keep sh pre_refl))).ok⟩
    · exact w2.elim
  · exact w2.elim
/-- P.append(e) -/
def fAppX (n : Nat) (pk : D → List D → D) (P F : List D → Rs D) : List D → Rs Fl := fun ρ => if n < ρ.length then (P ρ).nx.bind fun p => match lstN n ρ p with
  | none => .no
  | some _ => xb pk (F ρ) fun d S => match lstN n (ρ.set n (.list S)) p with
    | some (j, ds) => if ds.length ≤ 100000 then .ok (.nx (stSet n (ρ.set n (.list S)) j (.list (ds ++ [d])))) else .no
    | none => .no
  else .no
theorem dx_app {p2 p3 : Pos} (pko : PkOk P pk) (hP : EV X W M o F1) (h : EX X W M e F2) (hrw : P.rw = true := by rfl) (hn : n = M.length := by rfl)
    (hbase : attributeBase o "append" X.env (eval o X.env) = eval o X.env := by rfl)
    (hfew : ((backTo p3 (starEach (e :: []) X.env)).all (fun x => !x.1) && (backToKw p3 (keywordEach [] X.env)).all (fun x => x.1.isSome) && decide ((e :: []).length + ([] : List Keyword).length + (if ([] : List Keyword).isEmpty then 0 else 1) < 30)) = true := by rfl)
    (hline : (p2.endLine == p3.line) = true := by rfl) (hse : starEach (e :: []) X.env = (false, eval e X.env) :: starEach [] X.env := by rfl) (hs : swapsWith (.Call (.Attribute o "append" p2) [e] [] p3) none pos.line X.env = pure false := by rfl) :
    DS P X W M (.Expr (.Call (.Attribute o "append" p2) [e] [] p3) pos) M (fAppX n pk F1 F2) := by
  subst hn
  obtain ⟨to, po, qo⟩ := hP
  obtain ⟨t, p, q⟩ := h
  refine ⟨_, ps_expr (pe_bm PySem.F.plainAttrs_list PySem.F.slot_list_append PySem.F.type_list_append mt_append po (pa_cons p pa_nil hse) hbase hfew hline hse) hs, fun G H0 O0 O H σ ρ E rw ⟨φ, I⟩ w => ?_⟩
  unfold fAppX at w
  split at w
  rotate_left
  · exact w.elim
  rename_i hlr
  refine qo G H0 O0 O φ H σ ρ _ I (endOk_nx w fun p H1 v s1 hv w1 => ?_)
  have I1 := I.mono s1
  split at w1
  · exact w1.elim
  · rename_i jj hl1
    obtain ⟨hj1, hds1⟩ := lstN_some (show lstN M.length ρ p = some (jj.1, jj.2) from hl1)
    refine ⟨node_ty I1 hv hj1 hds1, q G H0 O0 O φ H1 σ ρ _ (rw hrw) I1 (xend_of pko (rw hrw) I1 w1 hlr fun d S O' φ' H2 u J s pr hu w2 => ?_)⟩
    split at w2
    · rename_i j ds hl
      obtain ⟨hj, hds⟩ := lstN_some hl
      split at w2
      · rename_i hl
        obtain ⟨S', a, ev, h2, h3, h4, h5, h6, h7, h8⟩ := J.node (hv.keep s pr) hj hds
        obtain ⟨vs, h9, h10⟩ := h8.lstI
        subst ev
        refine ⟨a, vs, u, rfl, rfl, h9, by rw [VqAll.length h10]; exact line_lt hl, ?_⟩
        rw [stSet_of h2] at w2
        exact w2 O' _ _ (J.stPut (rw hrw) h2 h3 h4 h5 fun sh => .lst upd_same (VqAll.append (h10.keep sh pre_refl) (.cons (hu.keep sh pre_refl) .nil))).ok
      · exact w2.elim
    · exact w2.elim
/-- if e, if not e, while e -/
def fIfX (n : Nat) (pk : D → List D → D) (F : List D → Rs D) (f g : List D → Rs Fl) : List D → Rs Fl := fun ρ => if n < ρ.length then xb pk (F ρ) fun d S => match d with
  | .bool true => f (ρ.set n (.list S))
  | .bool false => g (ρ.set n (.list S))
  | _ => .no
  else .no
theorem vq_bl {K : Tx} {O : Addr → Prop} {φ : List Addr} {H : Hp} {v : V} {k : Bool} (h : Vq K O φ H v (.bool k)) : v = .bl k := by
  rcases h with ⟨j, a, e, _⟩ | h
  · unfold refD at e; cases e
  · cases h; rfl
theorem dx_if (pko : PkOk P pk) (hc : EX X W M c F) (ha : DSs P X W M body M' S1) (hb : DSs P X W M body2 M' S2) (hrw : P.rw = true := by rfl) (hn : n = M.length := by rfl) (he : ∀ whole, isTrue c X.env whole = (do let v ← whole; standAt c.pos; holding [v] (truthy v)) := by intro _; rfl) : DS P X W M (.If c body body2 pos) M' (fIfX n pk F S1 S2) := by
  subst hn
  obtain ⟨t, p, q⟩ := hc
  obtain ⟨t1, p1, q1⟩ := ha
  obtain ⟨t2, p2, q2⟩ := hb
  refine ⟨_, ps_if (pt_val p he) p1 p2, fun G H0 O0 O H σ ρ E rw ⟨φ, I⟩ w => ?_⟩
  unfold fIfX at w
  split at w
  rotate_left
  · exact w.elim
  rename_i hlr
  refine q G H0 O0 O φ H σ ρ _ (rw hrw) I (xend_of pko (rw hrw) I w hlr fun d S O' φ' H' v J _ _ hv w1 => ?_)
  split at w1
  · exact ⟨true, vq_bl hv, q1 G H0 O0 O' H' σ _ E rw J.ok w1⟩
  · exact ⟨false, vq_bl hv, q2 G H0 O0 O' H' σ _ E rw J.ok w1⟩
  · exact w1.elim
theorem dx_ifN {p2 : Pos} (pko : PkOk P pk) (hc : EX X W M c F) (ha : DSs P X W M body M' S1) (hb : DSs P X W M body2 M' S2) (hrw : P.rw = true := by rfl) (hn : n = M.length := by rfl) (he : ∀ whole, isTrue c X.env whole = (do let v ← whole; standAt c.pos; holding [v] (truthy v)) := by intro _; rfl) : DS P X W M (.If (.UnaryOp .Not c p2) body body2 pos) M' (fIfX n pk F S2 S1) := by
  subst hn
  obtain ⟨t, p, q⟩ := hc
  obtain ⟨t1, p1, q1⟩ := ha
  obtain ⟨t2, p2, q2⟩ := hb
  refine ⟨_, ps_if (pt_not (pt_val p he)) p1 p2, fun G H0 O0 O H σ ρ E rw ⟨φ, I⟩ w => ?_⟩
  unfold fIfX at w
  split at w
  rotate_left
  · exact w.elim
  rename_i hlr
  refine q G H0 O0 O φ H σ ρ _ (rw hrw) I (xend_of pko (rw hrw) I w hlr fun d S O' φ' H' v J _ _ hv w1 => ?_)
  split at w1
  · exact ⟨true, vq_bl hv, q2 G H0 O0 O' H' σ _ E rw J.ok w1⟩
  · exact ⟨false, vq_bl hv, q1 G H0 O0 O' H' σ _ E rw J.ok w1⟩
  · exact w1.elim
def whileX (n : Nat) (pk : D → List D → D) (F : List D → Rs D) (f : List D → Rs Fl) : Nat → List D → Rs Fl
  | 0, _ => .no
  | m + 1, ρ => if n < ρ.length then xb pk (F ρ) fun d S => match d with
    | .bool true => (f (ρ.set n (.list S))).bind (fun r => match r with
      | .nx ρ2 => whileX n pk F f m ρ2
      | .ret d => .ok (.ret d))
    | .bool false => .ok (.nx (ρ.set n (.list S)))
    | _ => .no
    else .no
open Classical in
noncomputable def fWhileX (n : Nat) (pk : D → List D → D) (F : List D → Rs D) (f : List D → Rs Fl) : List D → Rs Fl := fun ρ => if h : ∃ m r, whileX n pk F f m ρ = r ∧ r ≠ .no then whileX n pk F f h.choose ρ else .no
theorem dx_while (hp : PassesOwn (model X.prog X.w) X.A X.env X.xe) (pko : PkOk P pk) (hc : EX X W M c F) (hb : DSs P X W M body M S1) (hrw : P.rw = true := by rfl) (hn : n = M.length := by rfl) (he : ∀ whole, isTrue c X.env whole = (do let v ← whole; standAt c.pos; holding [v] (truthy v)) := by intro _; rfl) : DS P X W M (.While c body [] pos) M (fWhileX n pk F S1) := by
  subst hn
  obtain ⟨tc, pc, qc⟩ := hc
  obtain ⟨tb, pb, qb⟩ := hb
  refine ⟨_, ps_while hp (pt_val pc he) pb, fun G H0 O0 O H σ ρ E rw I w => ?_⟩
  have hne : fWhileX M.length pk F S1 ρ ≠ .no := fun z => by rw [z] at w; exact w
  have hg : ∃ m, whileX M.length pk F S1 m ρ = fWhileX M.length pk F S1 ρ := by
    unfold fWhileX
    split
    · exact ⟨_, rfl⟩
    · rename_i hno
      exact absurd (show fWhileX M.length pk F S1 ρ = .no by unfold fWhileX; rw [dif_neg hno]) hne
  obtain ⟨m, hm⟩ := hg
  rw [← hm] at w
  refine ⟨fun m σ' H' => ∃ (O' : Addr → Prop) (ρ' : List D), EOk X.T G H0 O0 M O' H' σ' ρ' ∧ EndOk P X.T W G H0 O0 M E (whileX M.length pk F S1 m ρ'), ⟨m, O, ρ, I, w⟩, ?_⟩
  rintro m σ2 H2 ⟨O2, ρ2, ⟨φ2, I2⟩, w2⟩
  cases m with
  | zero => exact w2.elim
  | succ m =>
    unfold whileX at w2
    split at w2
    rotate_left
    · exact w2.elim
    rename_i hlr
    refine qc G H0 O0 O2 φ2 H2 σ2 ρ2 _ (rw hrw) I2 (xend_of pko (rw hrw) I2 w2 hlr fun d S O' φ' H3 v J _ _ hv w3 => ?_)
    split at w3
    · refine ⟨true, vq_bl hv, fun σ' H' => ∃ (O' : Addr → Prop) (ρ' : List D), EOk X.T G H0 O0 M O' H' σ' ρ' ∧ EndOk P X.T W G H0 O0 M E (whileX M.length pk F S1 m ρ'), fun σ' H' n => ⟨m, Nat.lt_succ_self _, n⟩, ?_⟩
      refine qb G H0 O0 O' H3 σ2 _ _ rw J.ok ?_
      exact endOk_seq (g := fun ρ2 => whileX M.length pk F S1 m ρ2) w3 (fun ρ3 O3 H3 σ3 I4 w4 => ⟨O3, ρ3, I4, w4⟩) rfl
    · exact ⟨false, vq_bl hv, w3 O' H3 σ2 J.ok⟩
    · exact w3.elim
/-- return e -/
def fRetX (n : Nat) (F : List D → Rs D) : List D → Rs Fl := fun ρ => if n < ρ.length then xb pkS (F ρ) fun d S => .ok (.ret (.tuple [d, .list S])) else .no
theorem dx_ret (h : EX X W M e F) (hn : n = M.length := by rfl) : DS stP X W M (.Return (some e) pos) M' (fRetX n F) := by
  subst hn
  obtain ⟨t, p, q⟩ := h
  refine ⟨_, ps_ret p, fun G H0 O0 O H σ ρ E rw ⟨φ, I⟩ w => ?_⟩
  unfold fRetX at w
  split at w
  · rename_i hl
    refine q G H0 O0 O φ H σ ρ _ (rw rfl) I (xend_of pk_st (rw rfl) I w hl fun d S O' φ' H' v J _ _ hv w1 => w1 H' v J.base ⟨O', φ', S, d, rfl, J.aftE (rw rfl) (List.getElem?_set_self hl), hv⟩)
  · exact w.elim
/-- .. of a def that has the store alone -/
def fRetXI (n : Nat) (F : List D → Rs D) : List D → Rs Fl := fun ρ => if n < ρ.length then xb pkI (F ρ) fun d _ => if hasRef d then .no else .ok (.ret d) else .no
theorem dx_retI (h : EX X W M e F) (hn : n = M.length := by rfl) : DS inP X W M (.Return (some e) pos) M' (fRetXI n F) := by
  subst hn
  obtain ⟨t, p, q⟩ := h
  refine ⟨_, ps_ret p, fun G H0 O0 O H σ ρ E rw ⟨φ, I⟩ w => ?_⟩
  unfold fRetXI at w
  split at w
  · rename_i hl
    refine q G H0 O0 O φ H σ ρ _ (rw rfl) I (xend_of pk_in (rw rfl) I w hl fun d S O' φ' H' v J _ _ hv w1 => ?_)
    split at w1
    · exact w1.elim
    · rename_i hr
      exact w1 H' v J.base (Dq.mono (hide_less J.sub) (hv.pure (by simpa using hr)))
  · exact w.elim
end
end FL
end
section
/-! FL, part N: calls of defs and methods, objects made, defs that see the store. -/
namespace FL
open PySem L2
/-- a def by its name; a method by its class and name; a class that is made -/
def CalG (sp : Tx → Nat → (List D → Rs D) → Sp) (P : Program) (w : World) (K : Tx) (base : Heap) (x : Str) (k n : Nat) (F : List D → Rs D) : Prop :=
  ∃ (f : Addr) (fd : FuncData) (ps : List Str), FnOk P w K.K K.mg base (L2.CX P w) k f fd ps (sp K n F) ∧ K.mg x = some (.ref f) ∧ PySem.W.keepIn K.K (.ref f) = true ∧ Binds K.K fd ps []
def MetG (sp : Tx → Nat → (List D → Rs D) → Sp) (P : Program) (w : World) (K : Tx) (base : Heap) (c m : Str) (k n : Nat) (F : List D → Rs D) : Prop :=
  ∃ (f : Addr) (fd : FuncData) (ps : List Str) (C : Addr), FnOk P w K.K K.mg base (L2.CX P w) k f fd ps (sp K n F) ∧ K.cl c = some (.ref C) ∧ Cls K.K C ∧ Meth K.K C m f ∧ Binds K.K fd ps []
def MakG (P : Program) (w : World) (K : Tx) (base : Heap) (x c : Str) (k n : Nat) (F : List D → Rs D) : Prop :=
  ∃ (f : Addr) (fd : FuncData) (ps : List Str) (C : Addr), FnOk P w K.K K.mg base (L2.CX P w) k f fd ps (spS K (n + 1) F) ∧ K.mg x = some (.ref C) ∧ K.cl c = some (.ref C) ∧ Mk K.K C f ∧ Binds K.K fd ps []
def spDs (K : Tx) := spD shR K
section
variable {sp : Tx → Nat → (List D → Rs D) → Sp} {P : Program} {w : World} {K : Tx} {base : Heap}
theorem CalG.mono {x : Str} {j k n : Nat} {F : List D → Rs D} (C : CalG sp P w K base x j n F) (h : j ≤ k) : CalG sp P w K base x k n F := by
  obtain ⟨f, fd, ps, F, r⟩ := C
  exact ⟨f, fd, ps, F.mono h, r⟩
theorem MetG.mono {c m : Str} {j k n : Nat} {F : List D → Rs D} (C : MetG sp P w K base c m j n F) (h : j ≤ k) : MetG sp P w K base c m k n F := by
  obtain ⟨f, fd, ps, C, F, r⟩ := C
  exact ⟨f, fd, ps, C, F.mono h, r⟩
theorem MakG.mono {x c : Str} {j k n : Nat} {F : List D → Rs D} (C : MakG P w K base x c j n F) (h : j ≤ k) : MakG P w K base x c k n F := by
  obtain ⟨f, fd, ps, C, F, r⟩ := C
  exact ⟨f, fd, ps, C, F.mono h, r⟩
end
section
variable {Rp : Tx → Rep} {X : Cx} {W : L2.WX} {M : List Md} {e o : Expr} {es : List Expr} {A : List D → Rs (List D)} {FO : List D → Rs D} {pos p apos : Pos} {x c m : Str} {k n j : Nat} {G : List D → Rs D}
/-- what a call may let out is what is wished here -/
abbrev Px (X : Cx) (W : L2.WX) : Prop := ∀ σ, PassesAt (L2.CX X.prog X.w) X σ (L2.WE W σ)
theorem px_tk (tk : Takes X W) : Px X W := fun σ => passAt tk σ
theorem px_0 : Px X W0 := fun _ _ _ _ _ _ _ h => by
  obtain ⟨_, _, _, _, _, _, _, _, _, _, _, _, z⟩ := h
  exact z.elim
/-- the arguments, the store behind them -/
def fCallV (n j : Nat) (G : List D → Rs D) (A : List D → Rs (List D)) : List D → Rs D := fun ρ => (A ρ).bind fun ds => match ρ[n]? with
  | some (.list S) => if ds.length = j then G (ds ++ [.list S]) else .no
  | _ => .no
theorem wnt_callV {K : Tx} {σ : L2.St} {O : Addr → Prop} {H H1 : Hp} {r : Rs D} {Q : VK} (hR : Later Rp) (s : Same H H1) (w : Wnt (WS W K O σ) (Rp K O H) H1 r Q) : Wnt (WE K O (L2.WE W σ)) (Rp K O H1) H1 r Q := wnt_call hR s w
theorem ej_callV (px : Px X W) (hR : Later Rp) (C : CalG (spV Rp) X.prog X.w X.T X.base x k j G) (hr : Room k X.A) (hg : Gl X x) (ha : EVA X W M (e :: es) A) (hn : n = M.length := by rfl) (hdb : (x == ("__debug__" : Str)) = false := by decide)
    (he : starEach (e :: es) X.env = (false, eval e X.env) :: starEach es X.env := by rfl) (hpl : (backTo pos (starEach es X.env)).any (·.1) = false := by rfl) : EJ Rp X W M (.Call (.Name x p) (e :: es) [] pos) (fCallV n j G A) := by
  subst hn
  obtain ⟨f, fd, ps, F, hm, hk, hb⟩ := C
  obtain ⟨t, pt, qt⟩ := ha
  refine ⟨_, pe_callS F hr hg hm hk hb px pt hdb he hpl, fun G' H0 O0 O H σ ρ Q ⟨φ, I⟩ w => qt G' H0 O0 O φ H σ ρ _ I (Wnt.bind w fun ds H1 vs s1 hd w1 => ?_)⟩
  split at w1
  · rename_i S hS
    split at w1
    · rename_i hl
      exact ⟨O, φ, S, ds, by rw [VqAll.length hd, hl], (I.mono s1).bef hS, hd, wnt_call hR s1 w1⟩
    · exact w1.elim
  · exact w1.elim
/-- .. of a def that may change the store -/
def fCallX (n j : Nat) (G : List D → Rs D) (A : List D → Rs (List D)) : List D → Rs D := fun ρ => (A ρ).nx.bind fun ds => match ρ[n]? with
  | some (.list S) => if ds.length = j then G (ds ++ [.list S]) else .no
  | _ => .no
theorem xend_call {K : Tx} {G H0 H : Hp} {O0 : Out} {O : Addr → Prop} {φ : List Addr} {σ : L2.St} {ρ S : List D} {Q : VK} {r : Rs D} (hw : O0.rw = true) (I : EOkF K G H0 O0 M O φ H σ ρ) (hS : ρ[M.length]? = some (.list S)) (w : XEnd K W G H0 O0 M O φ H σ ρ Q r) : SEnd K O φ S H Q (L2.WE W σ) r := by
  have hL : ∀ a, Live φ S a → O a := fun a ⟨j, d, h1, h2, h3⟩ => ((I.stAt hS).node j a d h1 h2 h3).1
  unfold XEnd at w
  split at w
  · exact fun O' φ' H' v A hv => w O' φ' H' v (I.after hw hS A) (A.same hL) A.pre hv
  · exact fun O' φ' H' cls dd A x => w O' φ' H' cls dd (I.after hw hS A) (A.same hL) x
  · exact w.elim
theorem XEnd.same {K : Tx} {G H0 H H1 : Hp} {O0 : Out} {O : Addr → Prop} {φ : List Addr} {σ : L2.St} {ρ : List D} {Q : VK} {r : Rs D} (s : Same H H1) (w : XEnd K W G H0 O0 M O φ H σ ρ Q r) : XEnd K W G H0 O0 M O φ H1 σ ρ Q r := by
  unfold XEnd at w ⊢
  split at w
  · exact fun O' φ' H' v J s' => w O' φ' H' v J ((hide_same s).trans s')
  · exact fun O' φ' H' cls dd J s' => w O' φ' H' cls dd J ((hide_same s).trans s')
  · exact w.elim
theorem wnt_nxX {α β : Type} {K : Tx} {G H0 H : Hp} {O0 : Out} {O : Addr → Prop} {φ : List Addr} {σ : L2.St} {ρ : List D} {Q : VK} {W' : D → Hp → Prop} {r : Rs α} {f : α → Rs D} {Rq : Hp → β → α → Prop} {Q' : β → Hp → Prop} (w : XEnd K W G H0 O0 M O φ H σ ρ Q (r.nx.bind f))
    (k : ∀ a H' v, Same H H' → Rq H' v a → XEnd K W G H0 O0 M O φ H' σ ρ Q (f a) → Q' v H') : Wnt W' Rq H r Q' := by
  cases r with
  | ok a => exact fun H' v s q => k a H' v s q (XEnd.same s w)
  | er e => exact (show False from w).elim
  | no => exact (show False from w).elim
theorem ex_call (px : Px X W) (C : CalG spS X.prog X.w X.T X.base x k j G) (hr : Room k X.A) (hg : Gl X x) (ha : EVA X W M (e :: es) A) (hn : n = M.length := by rfl) (hdb : (x == ("__debug__" : Str)) = false := by decide)
    (he : starEach (e :: es) X.env = (false, eval e X.env) :: starEach es X.env := by rfl) (hpl : (backTo pos (starEach es X.env)).any (·.1) = false := by rfl) : EX X W M (.Call (.Name x p) (e :: es) [] pos) (fCallX n j G A) := by
  subst hn
  obtain ⟨f, fd, ps, F, hm, hk, hb⟩ := C
  obtain ⟨t, pt, qt⟩ := ha
  refine ⟨_, pe_callS F hr hg hm hk hb px pt hdb he hpl, fun G' H0 O0 O φ H σ ρ Q hw I w => qt G' H0 O0 O φ H σ ρ _ I (wnt_nxX w fun ds H1 vs s1 hd w1 => ?_)⟩
  split at w1
  · rename_i S hS
    split at w1
    · rename_i hl
      exact ⟨O, φ, S, ds, by rw [VqAll.length hd, hl], (I.mono s1).bef hS, hd, xend_call hw (I.mono s1) hS w1⟩
    · exact w1.elim
  · exact w1.elim

/-! ### methods -/
/-- a method's call, errors at the slots -/
def tMethT (C : Addr) (m : Str) (sp : Sp) (E : L2.St → XK) (ta : TE) (t : TA) : TE := fun σ H Q => ta σ H fun x H1 => ∃ a dx fs, x = .ref a ∧ H1 a = some (.ins C dx fs) ∧ fs.lookup m = none ∧ t σ H1 fun vs H2 => sp (x :: vs) H2 Q (E σ)
theorem pe_methT {C f : Addr} {fd : FuncData} {ps : List Str} {sp : Sp} {E : L2.St → XK} {ta : TE} {t : TA} {pl : Sem Bool} (he : PE X o ta) (c : Cls X.K C) (hm : Meth X.K C m f) (F : FnOk X.prog X.w X.K X.mg X.base (L2.CX X.prog X.w) k f fd ps sp) (hr : Room k X.A) (hb : Binds X.K fd ps []) (hx : ∀ σ, PassesAt (L2.CX X.prog X.w) X σ (E σ)) (ha : PA X (e :: es) t)
    (hst : starEach (e :: es) X.env = (false, eval e X.env) :: starEach es X.env) (hpl : (backTo pos (starEach es X.env)).any (·.1) = false)
    (ht : eval (.Call (.Attribute o m apos) (e :: es) [] pos) X.env = (do let ov ← eval o X.env; standAt apos.atName; let (f, first) ← holding [ov] (getMethod ov m pl); callWith pos f first (backTo pos (starEach (e :: es) X.env)) (backToKw pos (keywordEach [] X.env)))) :
    PE X (.Call (.Attribute o m apos) (e :: es) [] pos) (tMethT C m sp E ta t) := ⟨fun pins s σ H Q I h =>
  PySem.W.methodCall_KW (pl := pl) (thn (he.run pins s σ H _ I h) fun u s1 ⟨x, H1, I1, rx, a, dx, fs, ex, ea, l, q⟩ => by
    subst ex
    obtain rfl : u = Value.ref a := rx
    exact getmeth_ok I1 ea c hm l (PySem.W.callWith_K (first := [.ref a]) (h₀ := X.base) I1.ok.mod.kin hm.kp (thn (ha.run pos pins s1 σ H1 _ I1 q) fun us s2 ⟨vs, H2, I2, r, q2⟩ => ⟨I2.kIn, run_fnS (us := .ref a :: us) (vs := .ref a :: vs) F hr hb (hx σ) I2 (.cons rfl r) q2⟩) hst hpl)) ht⟩
/-- the class of what a value names, and that it has no field m -/
def clsN (n : Nat) (ρ : List D) (m : Str) (d : D) : Option Str := match (match refOf d with | some j => nodeAt n ρ j | none => some d) with
  | none => none
  | some d0 => match asObj d0 with
    | none => none
    | some (c, fs) => if fs.lookup m = none then some c else none
theorem clsN_at {K : Tx} {G H0 H : Hp} {O0 : Out} {O : Addr → Prop} {φ : List Addr} {σ : L2.St} {ρ : List D} (I : EOkF K G H0 O0 M O φ H σ ρ) {v : V} {d : D} {c : Str} (hd : Vq K O φ H v d) (h : clsN M.length ρ m d = some c) : ∃ a C dx fs, v = .ref a ∧ H a = some (.ins C dx fs) ∧ K.cl c = some (.ref C) ∧ fs.lookup m = none := by
  unfold clsN at h
  split at h
  · cases h
  · rename_i d0 h0
    split at h
    · cases h
    · rename_i c' fs hc
      split at h
      · rename_i hm
        cases h
        split at h0
        · rename_i j hj
          obtain ⟨S, a, rfl, _, _, _, _, _, _, h8⟩ := I.node hd hj h0
          obtain ⟨C, dx, vs, h9, h10, h11, _⟩ := h8.objI hc
          exact ⟨a, C, dx, vs, rfl, h9, h10, h11.miss hm⟩
        · rename_i hj
          cases h0
          obtain ⟨a, C, dx, vs, rfl, h9, h10, h11⟩ := (vq_obj hd hj hc).objI hc
          exact ⟨a, C, dx, vs, rfl, hide_sub _ _ h9, h10, h11.miss hm⟩
      · cases h
/-- o.m(..), a method that reads the store -/
def fMetV (n j : Nat) (c m : Str) (G FO : List D → Rs D) (A : List D → Rs (List D)) : List D → Rs D := fun ρ => (FO ρ).bind fun d => if clsN n ρ m d = some c then (A ρ).bind fun ds => match ρ[n]? with
  | some (.list S) => if ds.length + 1 = j then G (d :: ds ++ [.list S]) else .no
  | _ => .no
  else .no
theorem cl_inj {K : Tx} {c : Str} {C C' : Addr} (h : K.cl c = some (.ref C)) (h' : K.cl c = some (.ref C')) : C = C' := by
  rw [h] at h'
  cases h'
  rfl
theorem ej_metV {pl : Sem Bool} (px : Px X W) (hR : Later Rp) (C : MetG (spV Rp) X.prog X.w X.T X.base c m k j G) (hr : Room k X.A) (ho : EV X W M o FO) (ha : EVA X W M (e :: es) A) (hn : n = M.length := by rfl)
    (hst : starEach (e :: es) X.env = (false, eval e X.env) :: starEach es X.env := by rfl) (hpl : (backTo pos (starEach es X.env)).any (·.1) = false := by rfl)
    (ht : eval (.Call (.Attribute o m apos) (e :: es) [] pos) X.env = (do let ov ← eval o X.env; standAt apos.atName; let (f, first) ← holding [ov] (getMethod ov m pl); callWith pos f first (backTo pos (starEach (e :: es) X.env)) (backToKw pos (keywordEach [] X.env))) := by rfl) :
    EJ Rp X W M (.Call (.Attribute o m apos) (e :: es) [] pos) (fMetV n j c m G FO A) := by
  subst hn
  obtain ⟨f, fd, ps, C, F, hcl, hC, hm, hb⟩ := C
  obtain ⟨to, po, qo⟩ := ho
  obtain ⟨t, pt, qt⟩ := ha
  refine ⟨_, pe_methT po hC hm F hr hb px pt hst hpl ht, fun G' H0 O0 O H σ ρ Q ⟨φ, I⟩ w => qo G' H0 O0 O φ H σ ρ _ I (Wnt.bind w fun d H1 v s1 hd w1 => ?_)⟩
  have I1 := I.mono s1
  split at w1
  · rename_i hcn
    obtain ⟨a, C', dx, fs, rfl, h1, h2, h3⟩ := clsN_at I1 hd hcn
    obtain rfl := cl_inj hcl h2
    refine ⟨a, dx, fs, rfl, h1, h3, qt G' H0 O0 O φ H1 σ ρ _ I1 (Wnt.bind w1 fun ds H2 vs s2 hds w2 => ?_)⟩
    split at w2
    · rename_i S hS
      split at w2
      · rename_i hl
        exact ⟨O, φ, S, d :: ds, by rw [List.length_cons, VqAll.length hds, hl], (I1.mono s2).bef hS, .cons (vq_mono s2 hd) hds, wnt_call hR (s1.trans s2) w2⟩
      · exact w2.elim
    · exact w2.elim
  · exact w1.elim
theorem ej_metV0 {pl : Sem Bool} (hR : Later Rp) (C : MetG (spV Rp) X.prog X.w X.T X.base c m k 1 G) (hr : Room k X.A) (ho : EV X W M o FO) (hn : n = M.length := by rfl)
    (ht : eval (.Call (.Attribute o m apos) [] [] pos) X.env = (do let ov ← eval o X.env; standAt apos.atName; let (f, first) ← holding [ov] (getMethod ov m pl); callWith pos f first (backTo pos (starEach [] X.env)) (backToKw pos (keywordEach [] X.env))) := by rfl) :
    EJ Rp X W M (.Call (.Attribute o m apos) [] [] pos) (fMetV n 1 c m (fun ds => (G ds).nx) FO aNil) := by
  subst hn
  obtain ⟨f, fd, ps, C, F, hcl, hC, hm, hb⟩ := C
  obtain ⟨to, po, qo⟩ := ho
  refine ⟨_, pe_meth0 (pl := pl) po hC hm F hr hb .nil passL ht, fun G' H0 O0 O H σ ρ Q ⟨φ, I⟩ w => qo G' H0 O0 O φ H σ ρ _ I (Wnt.bind w fun d H1 v s1 hd w1 => ?_)⟩
  have I1 := I.mono s1
  split at w1
  · rename_i hcn
    obtain ⟨a, C', dx, fs, rfl, h1, h2, h3⟩ := clsN_at I1 hd hcn
    obtain rfl := cl_inj hcl h2
    refine ⟨a, dx, fs, rfl, h1, h3, ?_⟩
    have w2 : Wnt (WS W X.T O σ) (Rp X.T O H) H1 (match ρ[M.length]? with
      | some (.list S) => if ([] : List D).length + 1 = 1 then (G (d :: [] ++ [.list S])).nx else .no
      | _ => .no) Q := w1
    split at w2
    · rename_i S hS
      have w3 : Wnt (WS W X.T O σ) (Rp X.T O H) H1 (G [d, .list S]).nx Q := w2
      refine ⟨O, φ, S, [d], rfl, I1.bef hS, .cons hd .nil, ?_⟩
      show Wnt _ _ _ (G [d, .list S]) Q
      generalize G [d, .list S] = r at w3
      cases r with
      | ok d => exact fun H' v s' h => w3 H' v s' (hR _ O H H1 H' v d s1 h)
      | er e => exact (show False from w3).elim
      | no => exact w3
    · exact w2.elim
  · exact w1.elim
/-- .. a method that may change it -/
def fMetX (n j : Nat) (c m : Str) (G FO : List D → Rs D) (A : List D → Rs (List D)) : List D → Rs D := fun ρ => (FO ρ).nx.bind fun d => if clsN n ρ m d = some c then (A ρ).nx.bind fun ds => match ρ[n]? with
  | some (.list S) => if ds.length + 1 = j then G (d :: ds ++ [.list S]) else .no
  | _ => .no
  else .no
theorem ex_met {pl : Sem Bool} (px : Px X W) (C : MetG spS X.prog X.w X.T X.base c m k j G) (hr : Room k X.A) (ho : EV X W M o FO) (ha : EVA X W M (e :: es) A) (hn : n = M.length := by rfl)
    (hst : starEach (e :: es) X.env = (false, eval e X.env) :: starEach es X.env := by rfl) (hpl : (backTo pos (starEach es X.env)).any (·.1) = false := by rfl)
    (ht : eval (.Call (.Attribute o m apos) (e :: es) [] pos) X.env = (do let ov ← eval o X.env; standAt apos.atName; let (f, first) ← holding [ov] (getMethod ov m pl); callWith pos f first (backTo pos (starEach (e :: es) X.env)) (backToKw pos (keywordEach [] X.env))) := by rfl) :
    EX X W M (.Call (.Attribute o m apos) (e :: es) [] pos) (fMetX n j c m G FO A) := by
  subst hn
  obtain ⟨f, fd, ps, C, F, hcl, hC, hm, hb⟩ := C
  obtain ⟨to, po, qo⟩ := ho
  obtain ⟨t, pt, qt⟩ := ha
  refine ⟨_, pe_methT po hC hm F hr hb px pt hst hpl ht, fun G' H0 O0 O φ H σ ρ Q hw I w => qo G' H0 O0 O φ H σ ρ _ I (wnt_nxX w fun d H1 v s1 hd w1 => ?_)⟩
  have I1 := I.mono s1
  split at w1
  · rename_i hcn
    obtain ⟨a, C', dx, fs, rfl, h1, h2, h3⟩ := clsN_at I1 hd hcn
    obtain rfl := cl_inj hcl h2
    refine ⟨a, dx, fs, rfl, h1, h3, qt G' H0 O0 O φ H1 σ ρ _ I1 (wnt_nxX w1 fun ds H2 vs s2 hds w2 => ?_)⟩
    split at w2
    · rename_i S hS
      split at w2
      · rename_i hl
        exact ⟨O, φ, S, d :: ds, by rw [List.length_cons, VqAll.length hds, hl], (I1.mono s2).bef hS, .cons (vq_mono s2 hd) hds, xend_call hw (I1.mono s2) hS w2⟩
      · exact w2.elim
    · exact w2.elim
  · exact w1.elim
theorem ex_met0 {pl : Sem Bool} (C : MetG spS X.prog X.w X.T X.base c m k 1 G) (hr : Room k X.A) (ho : EV X W M o FO) (hn : n = M.length := by rfl)
    (ht : eval (.Call (.Attribute o m apos) [] [] pos) X.env = (do let ov ← eval o X.env; standAt apos.atName; let (f, first) ← holding [ov] (getMethod ov m pl); callWith pos f first (backTo pos (starEach [] X.env)) (backToKw pos (keywordEach [] X.env))) := by rfl) :
    EX X W M (.Call (.Attribute o m apos) [] [] pos) (fMetX n 1 c m (fun ds => (G ds).nx) FO aNil) := by
  subst hn
  obtain ⟨f, fd, ps, C, F, hcl, hC, hm, hb⟩ := C
  obtain ⟨to, po, qo⟩ := ho
  refine ⟨_, pe_meth0 (pl := pl) po hC hm F hr hb .nil passL ht, fun G' H0 O0 O φ H σ ρ Q hw I w => qo G' H0 O0 O φ H σ ρ _ I (wnt_nxX w fun d H1 v s1 hd w1 => ?_)⟩
  have I1 := I.mono s1
  split at w1
  · rename_i hcn
    obtain ⟨a, C', dx, fs, rfl, h1, h2, h3⟩ := clsN_at I1 hd hcn
    obtain rfl := cl_inj hcl h2
    refine ⟨a, dx, fs, rfl, h1, h3, ?_⟩
    have w2 : XEnd X.T W G' H0 O0 M O φ H1 σ ρ Q (match ρ[M.length]? with
      | some (.list S) => if ([] : List D).length + 1 = 1 then (G (d :: [] ++ [.list S])).nx else .no
      | _ => .no) := w1
    split at w2
    · rename_i S hS
      have w3 : XEnd X.T W G' H0 O0 M O φ H1 σ ρ Q (G [d, .list S]).nx := w2
      refine ⟨O, φ, S, [d], rfl, I1.bef hS, .cons hd .nil, ?_⟩
      show SEnd _ _ _ _ _ _ _ (G [d, .list S])
      have w4 := xend_call hw I1 hS w3
      generalize G [d, .list S] = r at w4 ⊢
      cases r with
      | ok d =>
        have w5 : SEnd X.T O φ S H1 Q (L2.WE W σ) (.ok d) := w4
        unfold SEnd at w5 ⊢
        split at w5
        · exact w5
        · rename_i hq
          cases hq
        · exact w5.elim
      | er e => exact (show False from w4).elim
      | no => exact w4
    · exact w2.elim
  · exact w1.elim
end
end FL
end
section
/-! FL, part O: objects made, nodes frozen, items popped; defs. -/
namespace FL
open PySem L2
section
variable {X : Cx} {W : L2.WX} {M : List Md} {e o : Expr} {es : List Expr} {A : List D → Rs (List D)} {F FO : List D → Rs D} {pos p apos : Pos} {x c m : Str} {k n j : Nat} {G : List D → Rs D}
/-! ### C(..) -/
def fMake (n j : Nat) (c : Str) (G : List D → Rs D) (A : List D → Rs (List D)) : List D → Rs D := fun ρ => (A ρ).nx.bind fun ds => match ρ[n]? with
  | some (.list S) => if ds.length = j then (match G (refD S.length :: ds ++ [.list (S ++ [objD c []])]) with
    | .ok (.tuple [.none, .list S']) => .ok (.tuple [refD S.length, .list S'])
    | .er (.tuple [e, .list S']) => .er (.tuple [e, .list S'])
    | _ => .no) else .no
  | _ => .no
theorem same_upd2 {H : Hp} {x dx : Addr} {o u : HO} (h1 : H x = none) (h2 : H dx = none) : Same H (upd (upd H dx u) x o) := fun b v q => by
  rw [upd_ne (ne_of_none q h1), upd_ne (ne_of_none q h2)]; exact q
/-- a made instance is a new node -/
theorem EOkF.make {K : Tx} {G H0 H : Hp} {O0 : Out} {O : Addr → Prop} {φ : List Addr} {σ : L2.St} {ρ S : List D} (I : EOkF K G H0 O0 M O φ H σ ρ) (hS : ρ[M.length]? = some (.list S)) {C x dx : Addr} {c : Str} (h1 : H x = none) (h2 : H dx = none) (h3 : dx ≠ x) (hc : K.cl c = some (.ref C)) :
    EOkF K G H0 O0 M (fun b => O b ∨ b = x) (φ ++ [x]) (upd (upd H dx (.own x)) x (.ins C dx [])) σ (ρ.set M.length (.list (S ++ [objD c []]))) :=
  I.stNew (same_upd2 h1 h2) h1 (by rw [upd_same]; intro z; cases z) hS fun sh => .obj upd_same hc .nil
/-- making, errors at the slots -/
def tMakeT (C : Addr) (sp : Sp) (E : L2.St → XK) (t : TA) : TE := fun σ H Q => t σ H fun vs H1 => ∀ x dx, H1 x = none → H1 dx = none → dx ≠ x → sp (.ref x :: vs) (upd (upd H1 dx (.own x)) x (.ins C dx [])) (fun v H2 => v = .non ∧ Q (.ref x) H2) (E σ)
theorem run_makeT {C f : Addr} {fd : FuncData} {ps : List Str} {sp : Sp} {E : XK} {pins : List (Addr × Obj)} {σ : L2.St} {H : Hp} {s : Shared} {Q : VK} {us : List Value} {vs : List V} (mk : Mk X.K C f) (F : FnOk X.prog X.w X.K X.mg X.base (L2.CX X.prog X.w) k f fd ps sp) (hr : Room (k + 1) X.A) (hb : Binds X.K fd ps [])
    (hx : PassesAt (L2.CX X.prog X.w) X σ E) (I : Inv X pins σ H s) (r : Vals vs us)
    (h : ∀ x dx, H x = none → H dx = none → dx ≠ x → sp (.ref x :: vs) (upd (upd H dx (.own x)) x (.ins C dx [])) (fun v H2 => v = .non ∧ Q (.ref x) H2) E) : wpAny (model X.prog X.w) X.A (call (.ref C) us) (EP X pins σ Q) X.xe s := by
  have q := h (s.heap.objs.size + 1) s.heap.objs.size (I.hok.fresh (Nat.le_succ _)) (I.hok.fresh (Nat.le_refl _)) (Nat.ne_of_lt (Nat.lt_succ_self _))
  have J := Inv.made (C := C) I
  have rr : Vals (V.ref (s.heap.objs.size + 1) :: vs) (Value.ref (s.heap.objs.size + 1) :: us) := .cons rfl r
  have len : (Value.ref (s.heap.objs.size + 1) :: us).length = ps.length := rr.length.symm.trans (F.len _ _ _ _ q)
  have bd := hb _ (Value.ref (s.heap.objs.size + 1) :: us) J.kIn (by rw [List.append_nil]; exact len)
  rw [List.append_nil] at bd
  refine wpAny_call (make_map (f := f) I.kIn mk.makes mk.init (beq_iff_eq.mp mk.fn) (codeAny_mono (F.run _ X.stack _ _ ⟨Value.ref (s.heap.objs.size + 1) :: us, []⟩ _ _ _ E (hr.make C us []) (J.env0.make C us []) bd rr q) fun r s' z => ?_))
  match r, z with
  | .error e, z => exact hx pins _ _ e s' J z
  | .ok (.ret u), z =>
    obtain ⟨v, H', I3, rv, ev, q3⟩ := J.after z
    subst ev
    exact ⟨rv, ⟨V.ref (s.heap.objs.size + 1), H', I3, rfl, q3⟩⟩
  | .ok .next, z => exact False.elim z
  | .ok .brk, z => exact False.elim z
  | .ok .cont, z => exact False.elim z
theorem pe_makeT {C f : Addr} {fd : FuncData} {ps : List Str} {sp : Sp} {E : L2.St → XK} {t : TA} (mk : Mk X.K C f) (F : FnOk X.prog X.w X.K X.mg X.base (L2.CX X.prog X.w) k f fd ps sp) (hr : Room (k + 1) X.A) (hg : Gl X x) (hm : X.mg x = some (.ref C)) (hb : Binds X.K fd ps []) (hx : ∀ σ, PassesAt (L2.CX X.prog X.w) X σ (E σ))
    (ha : PA X (e :: es) t) (hdb : (x == ("__debug__" : Str)) = false) (he : starEach (e :: es) X.env = (false, eval e X.env) :: starEach es X.env) (hpl : (backTo pos (starEach es X.env)).any (·.1) = false) : PE X (.Call (.Name x p) (e :: es) [] pos) (tMakeT C sp E t) := ⟨fun pins s σ H Q I h =>
  wpAny_Call_Name_kw (ld_glob I hg hm (PySem.W.callWith_K (h₀ := X.base) I.ok.mod.kin mk.kp (thn (ha.run pos pins s σ H _ I h) fun us s1 ⟨vs, H1, I1, r, q⟩ => ⟨I1.kIn, run_makeT mk F hr hb (hx σ) I1 r q⟩) he hpl) hdb)⟩
/-- behind __init__: the caller's state -/
theorem xend_make {K : Tx} {G0 H0 H : Hp} {O0 : Out} {O : Addr → Prop} {φ : List Addr} {σ : L2.St} {ρ S : List D} {Q : VK} {r : Rs D} {C x dx : Addr} (hw : O0.rw = true) (I : EOkF K G0 H0 O0 M O φ H σ ρ) (hS : ρ[M.length]? = some (.list S)) (h1 : H x = none) (h2 : H dx = none) (h3 : dx ≠ x) (hc : K.cl c = some (.ref C))
    (w : XEnd K W G0 H0 O0 M O φ H σ ρ Q (match r with
      | .ok (.tuple [.none, .list S']) => .ok (.tuple [refD S.length, .list S'])
      | .er (.tuple [e, .list S']) => .er (.tuple [e, .list S'])
      | _ => .no)) : SEnd K (fun b => O b ∨ b = x) (φ ++ [x]) (S ++ [objD c []]) (upd (upd H dx (.own x)) x (.ins C dx [])) (fun v H2 => v = .non ∧ Q (.ref x) H2) (L2.WE W σ) r := by
  have J := I.make hS h1 h2 h3 hc
  have lst : M.length < ρ.length := (List.getElem?_eq_some_iff.mp hS).1
  have hS2 : (ρ.set M.length (.list (S ++ [objD c []])))[M.length]? = some (.list (S ++ [objD c []])) := List.getElem?_set_self lst
  have hn : Same (hide O H) (hide (fun b => O b ∨ b = x) (upd (upd H dx (.own x)) x (.ins C dx []))) := hide_new (same_upd2 h1 h2) h1
  have hL : ∀ a, Live (φ ++ [x]) (S ++ [objD c []]) a → O a ∨ a = x := fun a ⟨j, d, g1, g2, g3⟩ => ((J.stAt hS2).node j a d g1 g2 g3).1
  have len := (I.stAt hS).len
  split at w
  · rename_i S'
    intro O' φ' H' v A hv
    have hv' : v = .non := by
      rcases hv with ⟨j, a, e, _⟩ | hv
      · unfold refD at e; cases e
      · cases hv; rfl
    refine ⟨hv', ?_⟩
    have J2 := J.after hw hS2 A
    rw [List.set_set] at J2
    exact w O' φ' H' (.ref x) J2 (hn.trans (A.same hL)) (List.IsPrefix.trans (l₂ := φ ++ [x]) ⟨[x], rfl⟩ A.pre) (.inl ⟨S.length, x, rfl, pre_get A.pre (by rw [← len, List.getElem?_append_right (Nat.le_refl _), Nat.sub_self]; rfl), rfl⟩)
  · rename_i e S'
    intro O' φ' H' cls dd A hx
    have J2 := J.after hw hS2 A
    rw [List.set_set] at J2
    exact w O' φ' H' cls dd J2 (hn.trans (A.same hL)) hx
  · exact w.elim
theorem ex_make (px : Px X W) (C : MakG X.prog X.w X.T X.base x c k j G) (hr : Room (k + 1) X.A) (hg : Gl X x) (ha : EVA X W M (e :: es) A) (hn : n = M.length := by rfl) (hdb : (x == ("__debug__" : Str)) = false := by decide)
    (he : starEach (e :: es) X.env = (false, eval e X.env) :: starEach es X.env := by rfl) (hpl : (backTo pos (starEach es X.env)).any (·.1) = false := by rfl) : EX X W M (.Call (.Name x p) (e :: es) [] pos) (fMake n j c G A) := by
  subst hn
  obtain ⟨f, fd, ps, C, F, hm, hcl, mk, hb⟩ := C
  obtain ⟨t, pt, qt⟩ := ha
  refine ⟨_, pe_makeT mk F hr hg hm hb px pt hdb he hpl, fun G' H0 O0 O φ H σ ρ Q hw I w => qt G' H0 O0 O φ H σ ρ _ I (wnt_nxX w fun ds H1 vs s1 hd w1 => fun x dx h1 h2 h3 => ?_)⟩
  have I1 := I.mono s1
  split at w1
  · rename_i S hS
    split at w1
    · rename_i hl
      have J := I1.make hS h1 h2 h3 hcl
      have hS2 : (ρ.set M.length (.list (S ++ [objD c []])))[M.length]? = some (.list (S ++ [objD c []])) := List.getElem?_set_self (List.getElem?_eq_some_iff.mp hS).1
      have hn : Same (hide O H1) (hide (fun b => O b ∨ b = x) (upd (upd H1 dx (.own x)) x (.ins C dx []))) := hide_new (same_upd2 h1 h2) h1
      exact ⟨fun b => O b ∨ b = x, φ ++ [x], S ++ [objD c []], refD S.length :: ds, by rw [List.length_cons, VqAll.length hd, hl], J.bef hS2,
        .cons (.inl ⟨S.length, x, rfl, by rw [← (I1.stAt hS).len, List.getElem?_append_right (Nat.le_refl _), Nat.sub_self]; rfl, rfl⟩) (hd.keep hn ⟨[x], rfl⟩), xend_make hw I1 hS h1 h2 h3 hcl w1⟩
    · exact w1.elim
  · exact w1.elim
/-- C(): no error leaves __init__ -/
def fMake0 (n : Nat) (c : Str) (G : List D → Rs D) : List D → Rs D := fun ρ => match ρ[n]? with
  | some (.list S) => (match (G [refD S.length, .list (S ++ [objD c []])]).nx with
    | .ok (.tuple [.none, .list S']) => .ok (.tuple [refD S.length, .list S'])
    | .er (.tuple [e, .list S']) => .er (.tuple [e, .list S'])
    | _ => .no)
  | _ => .no
theorem send_nx {K : Tx} {O : Addr → Prop} {φ : List Addr} {S : List D} {H : Hp} {Q : VK} {E E' : XK} {r : Rs D} (w : SEnd K O φ S H Q E r.nx) : SEnd K O φ S H Q E' r := by
  cases r with
  | ok d =>
    have w5 : SEnd K O φ S H Q E (.ok d) := w
    unfold SEnd at w5 ⊢
    split at w5
    · exact w5
    · rename_i hq
      cases hq
    · exact w5.elim
  | er e => exact (show False from w).elim
  | no => exact w
theorem ex_make0 (C : MakG X.prog X.w X.T X.base x c k 0 G) (hr : Room (k + 1) X.A) (hg : Gl X x) (hn : n = M.length := by rfl) (hdb : (x == ("__debug__" : Str)) = false := by decide) : EX X W M (.Call (.Name x p) [] [] pos) (fMake0 n c G) := by
  subst hn
  obtain ⟨f, fd, ps, C, F, hm, hcl, mk, hb⟩ := C
  refine ⟨_, pe_make0 mk F hr hg hm hb .nil passL hdb, fun G' H0 O0 O φ H σ ρ Q hw I w => fun x dx h1 h2 h3 => ?_⟩
  unfold fMake0 at w
  split at w
  · rename_i S hS
    have J := I.make hS h1 h2 h3 hcl
    have hS2 : (ρ.set M.length (.list (S ++ [objD c []])))[M.length]? = some (.list (S ++ [objD c []])) := List.getElem?_set_self (List.getElem?_eq_some_iff.mp hS).1
    exact ⟨fun b => O b ∨ b = x, φ ++ [x], S ++ [objD c []], [refD S.length], rfl, J.bef hS2, .cons (.inl ⟨S.length, x, rfl, by rw [← (I.stAt hS).len, List.getElem?_append_right (Nat.le_refl _), Nat.sub_self]; rfl, rfl⟩) .nil, send_nx (xend_make hw I hS h1 h2 h3 hcl w)⟩
  · exact w.elim
/-! ### nodes frozen -/
/-- what a reference names is shared data from here on -/
def fzD (n : Nat) (ρ : List D) (d : D) : Rs (D × List D) := match refOf d with
  | none => .ok (d, ρ)
  | some j => match nodeAt n ρ j with
    | some (.list ds) => if pureD (.list ds) then .ok (.list ds, stSet n ρ j .none) else .no
    | some d0 => (match asObj d0 with
      | some (c, fs) => if pureD d0 then .ok (d0, stSet n ρ j .none) else .no
      | none => .no)
    | none => .no
theorem EOkF.freeze {K : Tx} {G H0 H : Hp} {O0 : Out} {O : Addr → Prop} {φ : List Addr} {σ : L2.St} {ρ ρ' : List D} {v : V} {d d' : D} (hw : O0.rw = true) (I : EOkF K G H0 O0 M O φ H σ ρ) (hd : Vq K O φ H v d) (h : fzD M.length ρ d = .ok (d', ρ')) :
    ∃ O', EOkF K G H0 O0 M O' φ H σ ρ' ∧ Same (hide O H) (hide O' H) ∧ Vq K O' φ H v d' ∧ ∃ S, (ρ' = ρ ∨ ρ' = ρ.set M.length (.list S)) := by
  unfold fzD at h
  split at h
  · cases h
    exact ⟨O, I, Same.refl _, hd, [], .inl rfl⟩
  · rename_i j hj
    split at h
    · rename_i ds hds
      split at h
      · rename_i hp
        cases h
        obtain ⟨S, a, rfl, h2, h3, h4, h5, h6, h7, h8⟩ := I.node hd hj hds
        rw [stSet_of h2]
        exact ⟨_, I.stOut hw h2 h3 h4 h5, hide_out, .inr (h8.out hp (.inl ⟨_, rfl⟩)), _, .inr rfl⟩
      · cases h
    · rename_i d0 hds hne
      split at h
      · rename_i c fs hc
        split at h
        · rename_i hp
          cases h
          obtain ⟨S, a, rfl, h2, h3, h4, h5, h6, h7, h8⟩ := I.node hd hj hne
          obtain ⟨C, dx, vs, _, _, _, ed⟩ := h8.objI hc
          rw [stSet_of h2]
          exact ⟨_, I.stOut hw h2 h3 h4 h5, hide_out, .inr (h8.out hp (.inr ⟨_, _, ed⟩)), _, .inr rfl⟩
        · cases h
      · cases h
    · cases h
/-- an expression whose value is frozen -/
def fFzX (n : Nat) (F : List D → Rs D) : List D → Rs D := fun ρ => match F ρ with
  | .ok (.tuple [d, .list S]) => (match fzD n (ρ.set n (.list S)) d with
    | .ok (d', ρ') => (match ρ'[n]? with
      | some (.list S') => .ok (.tuple [d', .list S'])
      | _ => .no)
    | _ => .no)
  | .er (.tuple [e, .list S]) => .er (.tuple [e, .list S])
  | _ => .no
theorem ex_fz (h : EX X W M e F) (hn : n = M.length := by rfl) : EX X W M e (fFzX n F) := by
  subst hn
  obtain ⟨t, p, q⟩ := h
  refine ⟨t, p, fun G H0 O0 O φ H σ ρ Q hw I w => q G H0 O0 O φ H σ ρ _ hw I ?_⟩
  unfold fFzX at w
  generalize F ρ = r at w ⊢
  split at w
  · rename_i d S
    intro O' φ' H' v J s pr hv
    split at w
    · rename_i d' ρ' hz
      split at w
      · rename_i S' hS'
        obtain ⟨O2, J2, s2, hv2, S2, hρ⟩ := J.freeze hw hv hz
        refine w O2 φ' H' v ?_ (s.trans s2) pr hv2
        rcases hρ with rfl | rfl
        · have l : M.length < ρ.length := by
            have := (List.getElem?_eq_some_iff.mp hS').1
            rwa [List.length_set] at this
          rw [List.getElem?_set_self l] at hS'
          cases hS'
          exact J2
        · rw [List.set_set] at hS' J2
          have l : M.length < ρ.length := by
            have := (List.getElem?_eq_some_iff.mp hS').1
            rwa [List.length_set] at this
          rw [List.getElem?_set_self l] at hS'
          cases hS'
          exact J2
      · exact w.elim
    · exact w.elim
  · exact w
  · exact w.elim
/-- P.pop() of a list of the store -/
def fPopX (n : Nat) (P : List D → Rs D) : List D → Rs D := fun ρ => (P ρ).nx.bind fun p => match lstN n ρ p with
  | some (j, ds) => (match ds.getLast?, ρ[n]? with
    | some d, some (.list S) => .ok (.tuple [d, .list (S.set j (.list ds.dropLast))])
    | _, _ => .no)
  | none => .no
theorem getLast_vq {K : Tx} {O : Addr → Prop} {φ : List Addr} {H : Hp} {vs : List V} {ds : List D} (h : VqAll K O φ H vs ds) {d : D} (e : ds.getLast? = some d) : ∃ v, vs.getLast? = some v ∧ Vq K O φ H v d := by
  rw [List.getLast?_eq_getElem?] at e ⊢
  rw [VqAll.length h]
  exact VqAll.get h e
theorem dropLast_vq {K : Tx} {O : Addr → Prop} {φ : List Addr} {H : Hp} {vs : List V} {ds : List D} (h : VqAll K O φ H vs ds) : VqAll K O φ H vs.dropLast ds.dropLast := by
  rw [List.dropLast_eq_take, List.dropLast_eq_take, VqAll.length h]
  exact VqAll.take _ h
theorem ex_pop (hP : EV X W M o FO) (hn : n = M.length := by rfl) (hbase : attributeBase o "pop" X.env (eval o X.env) = eval o X.env := by rfl) (hline : (apos.endLine == pos.line) = true := by rfl) : EX X W M (.Call (.Attribute o "pop" apos) [] [] pos) (fPopX n FO) := by
  subst hn
  obtain ⟨t, p, q⟩ := hP
  refine ⟨_, pe_bm0 PySem.F.plainAttrs_list PySem.F.slot_list_pop PySem.F.type_list_pop mt_pop p hbase hline, fun G H0 O0 O φ H σ ρ Q hw I w => q G H0 O0 O φ H σ ρ _ I (wnt_nxX w fun d H1 v s1 hd w1 => ?_)⟩
  have I1 := I.mono s1
  split at w1
  · rename_i j ds hl
    obtain ⟨hj, hds⟩ := lstN_some hl
    refine ⟨node_ty I1 hd hj hds, ?_⟩
    split at w1
    · rename_i d1 S hlast hS
      obtain ⟨S', a, ev, h2, h3, h4, h5, h6, h7, h8⟩ := I1.node hd hj hds
      obtain ⟨vs, h9, h10⟩ := h8.lstI
      subst ev
      rw [hS] at h2
      cases h2
      obtain ⟨v1, hv1, hq1⟩ := getLast_vq h10 hlast
      refine ⟨a, vs, v1, rfl, rfl, h9, by rw [← List.getLast?_eq_getElem?]; exact hv1, ?_⟩
      have J := I1.stPut (d := .list ds.dropLast) (o := .lst vs.dropLast) hw hS h3 h4 h5 fun sh => .lst upd_same (dropLast_vq (h10.keep sh pre_refl))
      have sh : Same (hide O H1) (hide O (upd H1 a (.lst vs.dropLast))) := by rw [hide_upd h6]; exact Same.refl _
      exact w1 O φ _ v1 J sh pre_refl (hq1.keep sh pre_refl)
    · exact w1.elim
  · exact w1.elim
end
/-! ### defs that see the store -/
/-- parameters that may be references (true), that are none (false) -/
def okP : List Bool → List D → Bool
  | [], [] => true
  | p :: ps, d :: ds => (p || !hasRef d) && okP ps ds
  | _, _ => false
def MP (ps : List Bool) (N : Nat) : List Md := ps.map (fun p => if p then .vr else .sh) ++ List.replicate (N - ps.length) .no
def ρP (N : Nat) (ds S : List D) : List D := ds ++ List.replicate (N - ds.length) .none ++ [.list S]
def fDefS (N : Nat) (ps : List Bool) (f : List D → Rs Fl) : List D → Rs D := fun as => match as.drop ps.length with
  | [.list S] => if okP ps (as.take ps.length) = true then (f (ρP N (as.take ps.length) S)).bind fun r => match r with
    | .ret d => .ok d
    | .nx ρ => match ρ[N]? with
      | some (.list S) => .ok (.tuple [.none, .list S])
      | _ => .no
    else .no
  | _ => .no
def fDefV (N : Nat) (ps : List Bool) (f : List D → Rs Fl) : List D → Rs D := fun as => match as.drop ps.length with
  | [.list S] => if okP ps (as.take ps.length) = true then (f (ρP N (as.take ps.length) S)).bind fun r => match r with
    | .ret d => .ok d
    | .nx _ => .ok .none
    else .no
  | _ => .no
def fDefVO (N : Nat) (ps : List Bool) (f : List D → Rs Fl) : List D → Rs D := fun as => match as.drop ps.length with
  | [.list S] => if okP ps (as.take ps.length) = true then (f (ρP N (as.take ps.length) S)).bind fun r => match r with
    | .ret d => .ok d
    | .nx _ => .no
    else .no
  | _ => .no
/-- a def with a store of its own, which begins empty -/
def fDefI (N : Nat) (n : Nat) (f : List D → Rs Fl) : List D → Rs D := fun ds => if ds.length = n then (f (ρP N ds [])).bind fun r => match r with
  | .ret d => .ok d
  | .nx _ => .ok .none
  else .no
theorem okP_len : ∀ {ps : List Bool} {ds : List D}, okP ps ds = true → ds.length = ps.length
  | [], [], _ => rfl
  | p :: ps, d :: ds, h => by
    unfold okP at h
    rw [Bool.and_eq_true] at h
    rw [List.length_cons, List.length_cons, okP_len h.2]
  | [], _ :: _, h => by cases h
  | _ :: _, [], h => by cases h
theorem okP_get : ∀ {ps : List Bool} {ds : List D} {i : Nat} {d : D}, okP ps ds = true → ds[i]? = some d → ps[i]? = some true ∨ (ps[i]? = some false ∧ hasRef d = false)
  | [], [], i, d, _, e => by cases i <;> cases e
  | p :: ps, d' :: ds, 0, d, h, e => by
    cases e
    unfold okP at h
    rw [Bool.and_eq_true] at h
    cases p with
    | true => exact .inl rfl
    | false => exact .inr ⟨rfl, by simpa using h.1⟩
  | p :: ps, d' :: ds, i + 1, d, h, e => by
    unfold okP at h
    rw [Bool.and_eq_true] at h
    exact okP_get (i := i) h.2 e
  | [], _ :: _, _, _, h, _ => by cases h
  | _ :: _, [], _, _, h, _ => by cases h
section
variable {K : Tx} {H : Hp} {O : Addr → Prop} {φ : List Addr} {S : List D} {N : List Str} {ps : List Bool} {vs : List V} {ds : List D}
theorem MP_own {n : Nat} {i : Nat} {m : Md} (h : (MP ps n)[i]? = some m) : m.own = false := by
  unfold MP at h
  by_cases hi : i < ps.length
  · rw [List.getElem?_append_left (by simpa using hi), List.getElem?_map] at h
    cases q : ps[i]? with
    | none => rw [q] at h; cases h
    | some p => rw [q] at h; cases h; cases p <;> rfl
  · rw [List.getElem?_append_right (by simpa using hi), List.getElem?_replicate] at h
    split at h
    · cases h; rfl
    · cases h
theorem startS {H0 : Hp} {O0 : Out} (hl : vs.length = ds.length) (hok : okP ps ds = true) (hle : ps.length ≤ N.length) (hd : VqAll K O φ H vs ds) (al : ∀ p, O p → H p ≠ none) (nod : φ.Nodup) (liv : ∀ a ∈ φ, H a ≠ none)
    (base : Same H0 H) (sub : ∀ p, O0.p p → O p) (al0 : ∀ p, O0.p p → H0 p ≠ none) (fr : ∀ p, O p → O0.p p ∨ H0 p = none) (eφ : O0.φ = φ) (st : StOk K O0.rw H0 O φ H S) :
    EOkF K (hide O H) H0 O0 (MP ps N.length) O φ H (L2.start N vs) (ρP N.length ds S) := by
  have ld := okP_len hok
  have lM : (MP ps N.length).length = N.length := by unfold MP; simp; omega
  have lρ : (ρP N.length ds S).length = N.length + 1 := by unfold ρP; simp; omega
  refine ⟨Same.refl _, base, sub, al0, al, fr, by rw [eφ]; exact pre_refl, fun a h => .inl (by rw [eφ]; exact h), nod, liv, by rw [lM]; unfold L2.start; simp; omega, by rw [lM, lρ]; omega, fun i m x d h1 h2 h3 => ?_, fun i j mi mj p hij h1 h2 o1 o2 _ _ => ?_, fun i m p h1 o1 _ => ?_, fun i m h1 o1 => ?_, fun d h => ?_⟩
  · by_cases hi : i < ps.length
    · unfold MP at h1
      rw [List.getElem?_append_left (by simpa using hi), List.getElem?_map] at h1
      unfold L2.start at h2
      rw [List.getElem?_append_left (by simp; omega), List.getElem?_map] at h2
      unfold ρP at h3
      rw [List.append_assoc, List.getElem?_append_left (by omega)] at h3
      obtain ⟨v, hv, q⟩ := VqAll.get hd h3
      rw [hv] at h2
      cases h2
      rcases okP_get hok h3 with e | ⟨e, hr⟩
      · rw [e] at h1; cases h1
        exact ⟨v, rfl, q⟩
      · rw [e] at h1; cases h1
        exact ⟨v, rfl, q.pure hr⟩
    · unfold MP at h1
      rw [List.getElem?_append_right (by simpa using hi), List.getElem?_replicate] at h1
      split at h1
      · cases h1; trivial
      · cases h1
  · rw [MP_own h1] at o1; cases o1
  · rw [MP_own h1] at o1; cases o1
  · rw [Md.pin_own (MP_own h1)] at o1; cases o1
  · rw [lM] at h
    unfold ρP at h
    rw [List.getElem?_append_right (by simp; omega)] at h
    have : N.length - (ds ++ List.replicate (N.length - ds.length) (.none : D)).length = 0 := by simp; omega
    rw [this] at h
    cases h
    exact ⟨S, rfl, st⟩
end
section
variable {P : Program} {w : World} {K : Tx} {base : Heap}
/-- what a body is walked in -/
abbrev Bd (P : Program) (w : World) (K : Tx) (base : Heap) (qual : Str) (st : Stmt) (f : Addr) (N : List Str) (k : Nat) (Rp : RP) (M M' : List Md) (fb : List D → Rs Fl) : Prop :=
  ∀ (cdv : Value) (A : Around) (outer : List Env) (s : Shared) (H : Hp) (E : XK), Room k (A.deeper (PyProof.Rows.envOfC qual (defScope st) s.heap.objs.size f cdv)) → Takes (DCx P w K base N qual st f cdv A outer s H E) (WD E) →
      PassesOwn (model P w) (DCx P w K base N qual st f cdv A outer s H E).A (DCx P w K base N qual st f cdv A outer s H E).env (DCx P w K base N qual st f cdv A outer s H E).xe → DSs Rp (DCx P w K base N qual st f cdv A outer s H E) (WD E) M (defBody st) M' fb
theorem take_len {as : List D} {n : Nat} {d : D} (h : as.drop n = [d]) : (as.take n).length = n ∧ as = as.take n ++ [d] := by
  have h1 : as.take n ++ as.drop n = as := List.take_append_drop n as
  have h2 : (as.drop n).length = 1 := by rw [h]; rfl
  rw [List.length_drop] at h2
  refine ⟨by rw [List.length_take]; omega, ?_⟩
  rw [← h]; exact h1.symm
theorem split_last {ds as : List D} {S : D} {n : Nat} (e : ds ++ [S] = as) (hl : ds.length = n) : as.take n = ds ∧ as.drop n = [S] := by
  subst e hl
  exact ⟨List.take_left' rfl, List.drop_left' rfl⟩
theorem fn_S {nm qual : Str} {st : Stmt} {f : Addr} {fd : FuncData} {N pn : List Str} {ps : List Bool} {k : Nat} {M' : List Md} {fb : List D → Rs Fl} (F : Fun K.K nm qual st f fd) (Sc : FnScope N pn (defScope st)) (hps : ps.length = pn.length := by rfl) (hle : ps.length ≤ N.length := by decide)
    (hM : M'.length = N.length := by rfl) (body : Bd P w K base qual st f N k stP (MP ps N.length) M' fb) : FnOk P w K.K K.mg base (L2.CX P w) (k + 1) f fd pn (spS K ps.length (fDefS N.length ps fb)) := by
  refine F.okX Sc (fun vs H Q E h => ?_) (fun cdv A outer s H vs Q E hr h => ?_)
  · obtain ⟨_, _, _, _, h, _⟩ := h; exact h.trans hps
  · obtain ⟨O, φ, S, ds, hl, B, hd, w⟩ := h
    obtain ⟨t, p, q⟩ := body cdv A outer s H E hr (takes_of rfl rfl rfl rfl) (passes_of rfl)
    refine ⟨t, p, ?_⟩
    have ld : ds.length = ps.length := by rw [← VqAll.length hd, hl]
    obtain ⟨e1, e2⟩ := split_last (as := ds ++ [.list S]) (S := .list S) rfl ld
    unfold fDefS at w
    rw [e2] at w
    dsimp only at w
    rw [e1] at w
    split at w
    rotate_left
    · exact (show False from w).elim
    rename_i hok
    have Lv : ∀ a, Live φ S a → O a := fun a ⟨j, d, h1, h2, h3⟩ => (B.st.node j a d h1 h2 h3).1
    have I : EOkF K (hide O H) (hide (Live φ S) H) ⟨fun p => O p ∧ ¬ Live φ S p, φ, true, fun _ => none⟩ (MP ps N.length) O φ H (L2.start N vs) (ρP N.length ds S) :=
      startS (VqAll.length hd) hok hle hd B.alive B.nod B.liv hide_sub (fun p h => h.1) (fun p h => by rw [hide_at h.2]; exact B.alive p h.1)
        (fun p h => by
          by_cases z : Live φ S p
          · exact .inr (hide_in z)
          · exact .inl ⟨h, z⟩) rfl ⟨B.st.len, fun j a d h1 h2 h3 => ⟨(B.st.node j a d h1 h2 h3).1, fun _ => hide_in ⟨j, d, h1, h2, h3⟩, (B.st.node j a d h1 h2 h3).2.2⟩⟩
    refine q _ _ _ O H _ _ _ (fun _ => rfl) I.ok ?_
    have aft : ∀ {O' φ' H' S'}, AftE K ⟨fun p => O p ∧ ¬ Live φ S p, φ, true, fun _ => none⟩ (hide (Live φ S) H) O' φ' H' S' → Aft K O φ S H O' φ' S' H' := fun {O' φ' H' S'} J =>
      ⟨fun b o e n => J.base b o (by rw [hide_at n]; exact e), fun p h n => J.sub p ⟨h, n⟩, fun p h => by
        rcases J.fr p h with z | z
        · exact .inl z.1
        · by_cases l : Live φ S p
          · exact .inl (Lv p l)
          · rw [hide_at l] at z; exact .inr z, J.alive, J.pre, fun a h => by
        rcases J.nw a h with z | z
        · exact .inl z
        · by_cases l : Live φ S a
          · obtain ⟨j, d, g, _⟩ := l
            exact .inl (List.mem_of_getElem? g)
          · rw [hide_at l] at z; exact .inr z, J.nod, J.liv, J.st⟩
    generalize fb (ρP N.length ds S) = r at w ⊢
    cases r with
    | er e =>
      rintro H' cls dd σ s' ⟨O', φ', S', e', rfl, J, x⟩
      exact w O' φ' H' cls dd (aft J) x
    | no => exact w
    | ok z =>
      cases z with
      | nx ρ =>
        have w : SEnd K O φ S H Q E (match ρ[N.length]? with
          | some (.list S) => .ok (.tuple [.none, .list S])
          | _ => .no) := w
        split at w
        · rename_i S' hS'
          rintro O' H' σ' ⟨φ', J⟩
          exact w O' φ' H' .non (aft (J.aftE rfl (by rw [hM]; exact hS'))) (.inr .non)
        · exact w.elim
      | ret d =>
        rintro H' v s ⟨O', φ', S', d', rfl, J, x⟩
        exact w O' φ' H' v (aft J) x
theorem fn_V {nm qual : Str} {st : Stmt} {f : Addr} {fd : FuncData} {N pn : List Str} {ps : List Bool} {k : Nat} {M' : List Md} {fb : List D → Rs Fl} (F : Fun K.K nm qual st f fd) (Sc : FnScope N pn (defScope st)) (hps : ps.length = pn.length := by rfl) (hle : ps.length ≤ N.length := by decide)
    (body : Bd P w K base qual st f N k shP (MP ps N.length) M' fb) : FnOk P w K.K K.mg base (L2.CX P w) (k + 1) f fd pn (spV shR K ps.length (fDefV N.length ps fb)) := by
  refine F.okX Sc (fun vs H Q E h => ?_) (fun cdv A outer s H vs Q E hr h => ?_)
  · obtain ⟨_, _, _, _, h, _⟩ := h; exact h.trans hps
  · obtain ⟨O, φ, S, ds, hl, B, hd, w⟩ := h
    obtain ⟨t, p, q⟩ := body cdv A outer s H E hr (takes_of rfl rfl rfl rfl) (passes_of rfl)
    refine ⟨t, p, ?_⟩
    have ld : ds.length = ps.length := by rw [← VqAll.length hd, hl]
    obtain ⟨e1, e2⟩ := split_last (as := ds ++ [.list S]) (S := .list S) rfl ld
    unfold fDefV at w
    rw [e2] at w
    dsimp only at w
    rw [e1] at w
    split at w
    rotate_left
    · exact (show False from w).elim
    rename_i hok
    have I : EOkF K (hide O H) H ⟨O, φ, false, fun _ => none⟩ (MP ps N.length) O φ H (L2.start N vs) (ρP N.length ds S) :=
      startS (VqAll.length hd) hok hle hd B.alive B.nod B.liv (Same.refl _) (fun p h => h) B.alive (fun p h => .inl h) rfl B.st
    refine q _ _ _ O H _ _ _ (fun z => by cases z) I.ok ?_
    generalize fb (ρP N.length ds S) = r at w ⊢
    cases r with
    | er e => exact fun H' cls dd σ s' x => w H' s' cls dd x
    | no => exact w
    | ok z =>
      cases z with
      | nx ρ => exact fun O' H' σ' I' => w H' .non I'.base .non
      | ret d => exact fun H' v s h => w H' v s h
theorem fn_VO {nm qual : Str} {st : Stmt} {f : Addr} {fd : FuncData} {N pn : List Str} {ps : List Bool} {k : Nat} {M' : List Md} {fb : List D → Rs Fl} (F : Fun K.K nm qual st f fd) (Sc : FnScope N pn (defScope st)) (hps : ps.length = pn.length := by rfl) (hle : ps.length ≤ N.length := by decide)
    (body : Bd P w K base qual st f N k owP (MP ps N.length) M' fb) : FnOk P w K.K K.mg base (L2.CX P w) (k + 1) f fd pn (spV owR K ps.length (fDefVO N.length ps fb)) := by
  refine F.okX Sc (fun vs H Q E h => ?_) (fun cdv A outer s H vs Q E hr h => ?_)
  · obtain ⟨_, _, _, _, h, _⟩ := h; exact h.trans hps
  · obtain ⟨O, φ, S, ds, hl, B, hd, w⟩ := h
    obtain ⟨t, p, q⟩ := body cdv A outer s H E hr (takes_of rfl rfl rfl rfl) (passes_of rfl)
    refine ⟨t, p, ?_⟩
    have ld : ds.length = ps.length := by rw [← VqAll.length hd, hl]
    obtain ⟨e1, e2⟩ := split_last (as := ds ++ [.list S]) (S := .list S) rfl ld
    unfold fDefVO at w
    rw [e2] at w
    dsimp only at w
    rw [e1] at w
    split at w
    rotate_left
    · exact (show False from w).elim
    rename_i hok
    have I : EOkF K (hide O H) H ⟨O, φ, false, fun _ => none⟩ (MP ps N.length) O φ H (L2.start N vs) (ρP N.length ds S) :=
      startS (VqAll.length hd) hok hle hd B.alive B.nod B.liv (Same.refl _) (fun p h => h) B.alive (fun p h => .inl h) rfl B.st
    refine q _ _ _ O H _ _ _ (fun z => by cases z) I.ok ?_
    generalize fb (ρP N.length ds S) = r at w ⊢
    cases r with
    | er e => exact fun H' cls dd σ s' x => w H' s' cls dd x
    | no => exact w
    | ok z =>
      cases z with
      | nx ρ => exact w.elim
      | ret d => exact fun H' v s h => w H' v s h
theorem fn_I {nm qual : Str} {st : Stmt} {f : Addr} {fd : FuncData} {N pn : List Str} {k : Nat} {M' : List Md} {fb : List D → Rs Fl} (F : Fun K.K nm qual st f fd) (Sc : FnScope N pn (defScope st)) (hle : pn.length ≤ N.length := by decide)
    (body : Bd P w K base qual st f N k inP (MP (pn.map fun _ => false) N.length) M' fb) : FnOk P w K.K K.mg base (L2.CX P w) (k + 1) f fd pn (spD shR K pn.length (fDefI N.length pn.length fb)) := by
  refine F.okX Sc (fun vs H Q E h => ?_) (fun cdv A outer s H vs Q E hr h => ?_)
  · obtain ⟨_, _, h, _⟩ := h; exact h
  · obtain ⟨O, ds, hl, hal, hd, w⟩ := h
    obtain ⟨t, p, q⟩ := body cdv A outer s H E hr (takes_of rfl rfl rfl rfl) (passes_of rfl)
    refine ⟨t, p, ?_⟩
    have ld : ds.length = pn.length := by rw [← DqAll.length hd, hl]
    unfold fDefI at w
    rw [if_pos ld] at w
    have hok : okP (pn.map fun _ => false) ds = true := by
      have : ∀ (pn : List Str) (vs : List V) (ds : List D), DqAll K (hide O H) vs ds → ds.length = pn.length → okP (pn.map fun _ => false) ds = true := by
        intro pn
        induction pn with
        | nil => intro vs ds h e; cases h with
          | nil => rfl
          | cons _ _ => cases e
        | cons a pn ih => intro vs ds h e; cases h with
          | nil => cases e
          | cons r t =>
            rw [List.map_cons]
            unfold okP
            rw [r.noref, ih _ _ t (by simpa using e)]; rfl
      exact this pn vs ds hd ld
    have I : EOkF K (hide O H) H ⟨O, [], true, fun _ => none⟩ (MP (pn.map fun _ => false) N.length) O [] H (L2.start N vs) (ρP N.length ds []) :=
      startS (DqAll.length hd) hok (by rw [List.length_map]; exact hle) (VqAll.of hd) hal List.nodup_nil (fun _ h => (List.not_mem_nil h).elim) (Same.refl _) (fun p h => h) hal (fun p h => .inl h) rfl ⟨rfl, fun j a d h1 => by cases j <;> cases h1⟩
    refine q _ _ _ O H _ _ _ (fun _ => rfl) I.ok ?_
    generalize fb (ρP N.length ds []) = r at w ⊢
    cases r with
    | er e => exact fun H' cls dd σ s' x => w H' s' cls dd x
    | no => exact w
    | ok z =>
      cases z with
      | nx ρ => exact fun O' H' σ' I' => w H' .non I'.base .non
      | ret d => exact fun H' v s h => w H' v s h
end
end FL
end
section
/-! FL, part 2: the store, further: expressions that change it, one behind the other; what is looked at deeply; what is frozen deeply. -/
namespace FL
open PySem L2
/-! ### values with the store behind them -/
def xv (r : Rs D) : Rs (D × List D) := match r with
  | .ok (.tuple [d, .list S]) => .ok (d, S)
  | .er e => .er e
  | _ => .no
def pack (r : Rs (D × List D)) : Rs D := r.bind fun p => .ok (.tuple [p.1, .list p.2])
theorem xv_pack {r : Rs (D × List D)} : xv (pack r) = r := by cases r <;> rfl
def X2 {α β : Type} (K : Tx) (W : L2.WX) (G H0 : Hp) (O0 : Out) (M : List Md) (σ : L2.St) (ρ : List D) (R : (Addr → Prop) → List Addr → Hp → β → α → Prop) (O : Addr → Prop) (φ : List Addr) (H : Hp) (Q : β → Hp → Prop) : Rs (α × List D) → Prop
  | .ok (d, S) => ∀ (O' : Addr → Prop) (φ' : List Addr) (H' : Hp) (v : β), EOkF K G H0 O0 M O' φ' H' σ (ρ.set M.length (.list S)) → Same (hide O H) (hide O' H') → φ <+: φ' → R O' φ' H' v d → Q v H'
  | .er (.tuple [e, .list S]) => ∀ (O' : Addr → Prop) (φ' : List Addr) (H' : Hp) (cls : Value) (dd : Option Addr), EOkF K G H0 O0 M O' φ' H' σ (ρ.set M.length (.list S)) → Same (hide O H) (hide O' H') → ExR K O' H' e cls dd → W cls dd σ H'
  | _ => False
def VqR (K : Tx) (O : Addr → Prop) (φ : List Addr) (H : Hp) (v : V) (d : D) : Prop := Vq K O φ H v d
def VaR (K : Tx) (O : Addr → Prop) (φ : List Addr) (H : Hp) (v : List V) (d : List D) : Prop := VqAll K O φ H v d
section
variable {K : Tx} {W : L2.WX} {G H0 H : Hp} {O0 : Out} {M : List Md} {O : Addr → Prop} {φ : List Addr} {σ : L2.St} {ρ : List D}
theorem X2.of {r : Rs D} {Q : VK} (h : XEnd K W G H0 O0 M O φ H σ ρ Q r) : X2 K W G H0 O0 M σ ρ (VqR K) O φ H Q (xv r) := by
  unfold XEnd at h
  split at h
  · exact h
  · exact h
  · exact h.elim
theorem X2.to {r : Rs D} {Q : VK} (h : X2 K W G H0 O0 M σ ρ (VqR K) O φ H Q (xv r)) : XEnd K W G H0 O0 M O φ H σ ρ Q r := by
  unfold xv at h
  split at h
  · exact h
  · rename_i e
    unfold X2 at h
    split at h
    · rename_i hh; cases hh
    · rename_i hh; cases hh; exact h
    · exact h.elim
  · exact h.elim
theorem X2.er {α β γ δ : Type} {R : (Addr → Prop) → List Addr → Hp → β → α → Prop} {R' : (Addr → Prop) → List Addr → Hp → δ → γ → Prop} {Q : β → Hp → Prop} {Q' : δ → Hp → Prop} {e : D}
    (h : X2 K W G H0 O0 M σ ρ R' O φ H Q' (.er e)) : X2 K W G H0 O0 M σ ρ R O φ H Q (.er e) := by
  unfold X2 at h
  split at h
  · rename_i hh; cases hh
  · rename_i hh; cases hh; exact h
  · exact h.elim
theorem X2.bind {α β γ δ : Type} {R : (Addr → Prop) → List Addr → Hp → β → α → Prop} {R' : (Addr → Prop) → List Addr → Hp → δ → γ → Prop} {Q : β → Hp → Prop} {Q' : δ → Hp → Prop} {r : Rs (α × List D)} {f : α × List D → Rs (γ × List D)}
    (h : X2 K W G H0 O0 M σ ρ R' O φ H Q' (r.bind f))
    (k : ∀ d S (O' : Addr → Prop) (φ' : List Addr) (H' : Hp) (v : β), EOkF K G H0 O0 M O' φ' H' σ (ρ.set M.length (.list S)) → Same (hide O H) (hide O' H') → φ <+: φ' → R O' φ' H' v d → X2 K W G H0 O0 M σ (ρ.set M.length (.list S)) R' O' φ' H' Q' (f (d, S)) → Q v H') :
    X2 K W G H0 O0 M σ ρ R O φ H Q r := by
  cases r with
  | no => exact h
  | er e => exact X2.er h
  | ok p =>
    obtain ⟨d, S⟩ := p
    intro O' φ' H' v I s pre hv
    refine k d S O' φ' H' v I s pre hv ?_
    have h : X2 K W G H0 O0 M σ ρ R' O φ H Q' (f (d, S)) := h
    unfold X2 at h ⊢
    split at h
    · intro O2 φ2 H2 v2 I2 s2 pre2 hv2
      rw [List.set_set] at I2
      exact h O2 φ2 H2 v2 I2 (s.trans s2) (pre.trans pre2) hv2
    · intro O2 φ2 H2 cls dd I2 s2 hx
      rw [List.set_set] at I2
      exact h O2 φ2 H2 cls dd I2 (s.trans s2) hx
    · exact h
end
/-- an expression list, one behind the other, each may change the store -/
def EXA (X : Cx) (W : L2.WX) (M : List Md) (es : List Expr) (F : List D → Rs (List D × List D)) : Prop :=
  ∃ t : TA, PA X es t ∧ ∀ (G H0 : Hp) (O0 : Out) (O : Addr → Prop) (φ : List Addr) (H : Hp) (σ : L2.St) (ρ : List D) (Q : List V → Hp → Prop), O0.rw = true → EOkF X.T G H0 O0 M O φ H σ ρ → X2 X.T W G H0 O0 M σ ρ (VaR X.T) O φ H Q (F ρ) → t σ H Q
section
variable {Rp : RP} {X : Cx} {W : L2.WX} {M M' : List Md} {e a b c o : Expr} {F F1 F2 FO : List D → Rs D} {es : List Expr} {A : List D → Rs (List D)} {B : List D → Rs (List D × List D)} {pos pos' p apos : Pos} {n j k : Nat} {x m cn : Str} {G : List D → Rs D}
def fxNil (n : Nat) : List D → Rs (List D × List D) := fun ρ => match ρ[n]? with
  | some (.list S) => .ok ([], S)
  | _ => .no
def fxCons (n : Nat) (F : List D → Rs D) (B : List D → Rs (List D × List D)) : List D → Rs (List D × List D) := fun ρ => (xv (F ρ)).bind fun p => (B (ρ.set n (.list p.2))).bind fun q => .ok (p.1 :: q.1, q.2)
theorem exa_nil (hn : n = M.length := by rfl) : EXA X W M [] (fxNil n) := by
  subst hn
  refine ⟨_, pa_nil, fun G H0 O0 O φ H σ ρ Q hw I w => ?_⟩
  unfold fxNil at w
  split at w
  · rename_i S hS
    exact w O φ H [] (by rw [set_self hS]; exact I) (Same.refl _) pre_refl .nil
  · exact w.elim
theorem exa_cons (h : EX X W M e F) (h2 : EXA X W M es B) (hn : n = M.length := by rfl) (hs : starEach (e :: es) X.env = (false, eval e X.env) :: starEach es X.env := by rfl) : EXA X W M (e :: es) (fxCons n F B) := by
  subst hn
  obtain ⟨t, pt, q⟩ := h
  obtain ⟨t2, pt2, q2⟩ := h2
  refine ⟨_, pa_cons pt pt2 hs, fun G H0 O0 O φ H σ ρ Q hw I w => q G H0 O0 O φ H σ ρ _ hw I (X2.to (X2.bind w fun d S O1 φ1 H1 v I1 s1 p1 hv w1 => ?_))⟩
  refine q2 G H0 O0 O1 φ1 H1 σ _ _ hw I1 (X2.bind w1 fun ds S2 O2 φ2 H2 vs I2 s2 p2 hvs w2 => ?_)
  exact w2 O2 φ2 H2 (v :: vs) (by rw [List.set_set]; exact I2) (Same.refl _) pre_refl (.cons (Vq.keep s2 p2 hv) hvs)
/-- a value that changes nothing, among such -/
theorem exa_ev (h : EV X W M e F) (h2 : EXA X W M es B) (hn : n = M.length := by rfl) (hs : starEach (e :: es) X.env = (false, eval e X.env) :: starEach es X.env := by rfl) : EXA X W M (e :: es) (fxCons n (fKeep n F) B) := exa_cons (ex_keep h hn) h2 hn hs
theorem stIn {ρ : List D} {S : List D} (h : n < ρ.length) : (ρ.set n (.list S))[n]? = some (.list S) := List.getElem?_set_self h
/-- [..] as a node -/
def fLstX (n : Nat) (B : List D → Rs (List D × List D)) : List D → Rs D := fun ρ => pack (if n < ρ.length then (B ρ).bind fun p => if p.1.length ≤ 100000 then .ok (refD p.2.length, p.2 ++ [.list p.1]) else .no else .no)
theorem ex_lst (h : EXA X W M es B) (hn : n = M.length := by rfl) : EX X W M (.List es pos) (fLstX n B) := by
  subst hn
  obtain ⟨t, pt, q⟩ := h
  refine ⟨_, pe_lst pt, fun G H0 O0 O φ H σ ρ Q hw I w => q G H0 O0 O φ H σ ρ _ hw I ?_⟩
  have w := X2.of w
  unfold fLstX at w
  rw [xv_pack] at w
  split at w
  · rename_i lst
    refine X2.bind w fun ds S O1 φ1 H1 vs I1 s1 p1 hvs w1 => ?_
    simp only at w1
    split at w1
    · rename_i hl
      refine ⟨by rw [VqAll.length hvs]; exact line_of hl, fun p hp => ?_⟩
      have hst := stIn (S := S) lst
      have J := I1.stNew (d := .list ds) (same_upd hp) hp (by rw [upd_same]; intro z; cases z) hst fun s => .lst upd_same (VqAll.keep s ⟨_, rfl⟩ hvs)
      refine w1 _ _ _ _ J (hide_new (same_upd hp) hp) ⟨_, rfl⟩ (.inl ⟨S.length, p, rfl, ?_, rfl⟩)
      rw [← (I1.stAt hst).len, List.getElem?_append_right (Nat.le_refl _), Nat.sub_self]; rfl
    · exact w1.elim
  · exact w.elim
/-- (..): a tuple, perhaps with references within -/
def fTupX (B : List D → Rs (List D × List D)) : List D → Rs D := fun ρ => pack ((B ρ).bind fun p => if p.1.length ≤ 100000 then .ok (.tuple p.1, p.2) else .no)
theorem ex_tup {kk : Nat} (h : EXA X W M es B) : EX X W M (.Tuple es kk pos) (fTupX B) := by
  obtain ⟨t, pt, q⟩ := h
  refine ⟨_, pe_tup pt, fun G H0 O0 O φ H σ ρ Q hw I w => q G H0 O0 O φ H σ ρ _ hw I ?_⟩
  have w := X2.of w
  unfold fTupX at w
  rw [xv_pack] at w
  refine X2.bind w fun ds S O1 φ1 H1 vs I1 s1 p1 hvs w1 => ?_
  simp only at w1
  split at w1
  · rename_i hl
    refine ⟨by rw [VqAll.length hvs]; exact line_of hl, fun p hp => ?_⟩
    have sm : Same (hide O1 H1) (hide O1 (upd H1 p (.tup vs))) := hide_same (same_upd hp)
    refine w1 O1 φ1 _ _ (by rw [List.set_set]; exact I1.mono (same_upd hp)) sm pre_refl (.tup (by rw [hide_at (I1.ne hp)]; exact upd_same) (VqAll.keep sm pre_refl hvs))
  · exact w1.elim
/-! ### calls, what is handed in may change the store -/
def fCallA (n j : Nat) (G : List D → Rs D) (B : List D → Rs (List D × List D)) : List D → Rs D := fun ρ => if n < ρ.length then pack ((B ρ).bind fun p => if p.1.length = j then xv (G (p.1 ++ [.list p.2])) else .no) else .no
/-- from a def's end to the caller's -/
theorem xend_call2 {K : Tx} {G0 H0 H : Hp} {O0 : Out} {O : Addr → Prop} {φ : List Addr} {σ : L2.St} {ρ S : List D} {Q : VK} {r : Rs D} (hw : O0.rw = true) (lst : M.length < ρ.length) (I : EOkF K G0 H0 O0 M O φ H σ (ρ.set M.length (.list S)))
    (w : X2 K W G0 H0 O0 M σ (ρ.set M.length (.list S)) (VqR K) O φ H Q (xv r)) : SEnd K O φ S H Q (L2.WE W σ) r := xend_call hw I (stIn lst) w.to
theorem ex_callA (px : Px X W) (C : CalG spS X.prog X.w X.T X.base x k j G) (hr : Room k X.A) (hg : Gl X x) (ha : EXA X W M (e :: es) B) (hn : n = M.length := by rfl) (hdb : (x == ("__debug__" : Str)) = false := by decide)
    (he : starEach (e :: es) X.env = (false, eval e X.env) :: starEach es X.env := by rfl) (hpl : (backTo pos (starEach es X.env)).any (·.1) = false := by rfl) : EX X W M (.Call (.Name x p) (e :: es) [] pos) (fCallA n j G B) := by
  subst hn
  obtain ⟨f, fd, ps, F, hm, hk, hb⟩ := C
  obtain ⟨t, pt, qt⟩ := ha
  refine ⟨_, pe_callS F hr hg hm hk hb px pt hdb he hpl, fun G' H0 O0 O φ H σ ρ Q hw I w => ?_⟩
  unfold fCallA at w
  split at w
  · rename_i lst
    refine qt G' H0 O0 O φ H σ ρ _ hw I ?_
    have w := X2.of w
    rw [xv_pack] at w
    refine X2.bind w fun ds S O1 φ1 H1 vs I1 s1 p1 hvs w1 => ?_
    simp only at w1
    split at w1
    · rename_i hl
      exact ⟨O1, φ1, S, ds, by rw [VqAll.length hvs, hl], I1.bef (stIn lst), hvs, xend_call2 hw lst I1 w1⟩
    · exact w1.elim
  · exact w.elim
/-- o.m(..), o and what is handed in may change the store -/
def fMetA (n j : Nat) (c m : Str) (G FO : List D → Rs D) (B : List D → Rs (List D × List D)) : List D → Rs D := fun ρ => if n < ρ.length then pack ((xv (FO ρ)).bind fun q => if clsN n (ρ.set n (.list q.2)) m q.1 = some c then (B (ρ.set n (.list q.2))).bind fun p => if p.1.length + 1 = j then xv (G (q.1 :: p.1 ++ [.list p.2])) else .no else .no) else .no
theorem ex_metA {pl : Sem Bool} (px : Px X W) (C : MetG spS X.prog X.w X.T X.base cn m k j G) (hr : Room k X.A) (ho : EX X W M o FO) (ha : EXA X W M (e :: es) B) (hn : n = M.length := by rfl)
    (hst : starEach (e :: es) X.env = (false, eval e X.env) :: starEach es X.env := by rfl) (hpl : (backTo pos (starEach es X.env)).any (·.1) = false := by rfl)
    (ht : eval (.Call (.Attribute o m apos) (e :: es) [] pos) X.env = (do let ov ← eval o X.env; standAt apos.atName; let (f, first) ← holding [ov] (getMethod ov m pl); callWith pos f first (backTo pos (starEach (e :: es) X.env)) (backToKw pos (keywordEach [] X.env))) := by rfl) :
    EX X W M (.Call (.Attribute o m apos) (e :: es) [] pos) (fMetA n j cn m G FO B) := by
  subst hn
  obtain ⟨f, fd, ps, C, F, hcl, hC, hm, hb⟩ := C
  obtain ⟨to, po, qo⟩ := ho
  obtain ⟨t, pt, qt⟩ := ha
  refine ⟨_, pe_methT po hC hm F hr hb px pt hst hpl ht, fun G' H0 O0 O φ H σ ρ Q hw I w => ?_⟩
  unfold fMetA at w
  split at w
  · rename_i lst
    have w := X2.of w
    rw [xv_pack] at w
    refine qo G' H0 O0 O φ H σ ρ _ hw I (X2.to (X2.bind w fun d S O1 φ1 H1 v I1 s1 p1 hd w1 => ?_))
    simp only at w1
    split at w1
    · rename_i hcn
      obtain ⟨a, C', dx, fs, rfl, h1, h2, h3⟩ := clsN_at I1 hd hcn
      obtain rfl := cl_inj hcl h2
      refine ⟨a, dx, fs, rfl, h1, h3, qt G' H0 O0 O1 φ1 H1 σ _ _ hw I1 (X2.bind w1 fun ds S2 O2 φ2 H2 vs I2 s2 p2 hvs w2 => ?_)⟩
      simp only at w2
      split at w2
      · rename_i hl
        have lst2 : M.length < (ρ.set M.length (.list S)).length := by rw [List.length_set]; exact lst
        exact ⟨O2, φ2, S2, d :: ds, by rw [List.length_cons, VqAll.length hvs, hl], I2.bef (stIn lst2), .cons (Vq.keep s2 p2 hd) hvs, xend_call2 hw lst2 I2 w2⟩
      · exact w2.elim
    · exact w1.elim
  · exact w.elim
/-- C(..), what is handed in may change the store -/
def fMakeA (n j : Nat) (c : Str) (G : List D → Rs D) (B : List D → Rs (List D × List D)) : List D → Rs D := fun ρ => if n < ρ.length then pack ((B ρ).bind fun p => if p.1.length = j then xv (match G (refD p.2.length :: p.1 ++ [.list (p.2 ++ [objD c []])]) with
    | .ok (.tuple [.none, .list S']) => .ok (.tuple [refD p.2.length, .list S'])
    | .er (.tuple [e, .list S']) => .er (.tuple [e, .list S'])
    | _ => .no) else .no) else .no
theorem ex_makeA (px : Px X W) (C : MakG X.prog X.w X.T X.base x cn k j G) (hr : Room (k + 1) X.A) (hg : Gl X x) (ha : EXA X W M (e :: es) B) (hn : n = M.length := by rfl) (hdb : (x == ("__debug__" : Str)) = false := by decide)
    (he : starEach (e :: es) X.env = (false, eval e X.env) :: starEach es X.env := by rfl) (hpl : (backTo pos (starEach es X.env)).any (·.1) = false := by rfl) : EX X W M (.Call (.Name x p) (e :: es) [] pos) (fMakeA n j cn G B) := by
  subst hn
  obtain ⟨f, fd, ps, C, F, hm, hcl, mk, hb⟩ := C
  obtain ⟨t, pt, qt⟩ := ha
  refine ⟨_, pe_makeT mk F hr hg hm hb px pt hdb he hpl, fun G' H0 O0 O φ H σ ρ Q hw I w => ?_⟩
  unfold fMakeA at w
  split at w
  · rename_i lst
    refine qt G' H0 O0 O φ H σ ρ _ hw I ?_
    have w := X2.of w
    rw [xv_pack] at w
    refine X2.bind w fun ds S O1 φ1 H1 vs I1 s1 p1 hvs w1 => fun y dx h1 h2 h3 => ?_
    simp only at w1
    split at w1
    · rename_i hl
      have hS := stIn (S := S) lst
      have J := I1.make hS h1 h2 h3 hcl
      have lst2 : M.length < (ρ.set M.length (.list S)).length := by rw [List.length_set]; exact lst
      have hS2 : ((ρ.set M.length (.list S)).set M.length (.list (S ++ [objD cn []])))[M.length]? = some (.list (S ++ [objD cn []])) := stIn lst2
      have hn : Same (hide O1 H1) (hide (fun b => O1 b ∨ b = y) (upd (upd H1 dx (.own y)) y (.ins C dx []))) := hide_new (same_upd2 h1 h2) h1
      exact ⟨fun b => O1 b ∨ b = y, φ1 ++ [y], S ++ [objD cn []], refD S.length :: ds, by rw [List.length_cons, VqAll.length hvs, hl], J.bef hS2,
        .cons (.inl ⟨S.length, y, rfl, by rw [← (I1.stAt hS).len, List.getElem?_append_right (Nat.le_refl _), Nat.sub_self]; rfl, rfl⟩) (VqAll.keep hn ⟨[y], rfl⟩ hvs), xend_make hw I1 hS h1 h2 h3 hcl w1.to⟩
    · exact w1.elim
  · exact w.elim
end
end FL
end
section
/-! FL, part 3: what is looked at deeply, lent, frozen deeply. -/
namespace FL
open PySem L2
/-- the plain datum that stands for d over the store S -/
def deep : Nat → List D → D → Option D
  | 0, _, _ => none
  | n + 1, S, d => if hasRef d = false then some d else match refOf d with
    | some j => (match nodeIn S j with
      | some (.list ds) => (ds.mapM (deep n S)).map .list
      | _ => none)
    | none => match d with
      | .tuple ds => (ds.mapM (deep n S)).map .tuple
      | _ => none
/-- the nodes that are reached -/
def deepIx : Nat → List D → D → List Nat
  | 0, _, _ => []
  | n + 1, S, d => if hasRef d = false then [] else match refOf d with
    | some j => (match nodeIn S j with
      | some (.list ds) => j :: ds.flatMap (deepIx n S)
      | _ => [])
    | none => match d with
      | .tuple ds => ds.flatMap (deepIx n S)
      | _ => []
section
variable {K : Tx} {H : Hp} {O O' : Addr → Prop} {φ : List Addr} {S : List D}
theorem vq_tup_inv {v : V} {ds : List D} (h : Vq K O φ H v (.tuple ds)) (hr : hasRef (.tuple ds) = true) : ∃ a xs, v = .ref a ∧ hide O H a = some (.tup xs) ∧ VqAll K O φ H xs ds := by
  cases h with
  | inl h => obtain ⟨j, a, e, _⟩ := h; cases e
  | inr h => rw [h.noref] at hr; cases hr
  | tup e q => exact ⟨_, _, rfl, e, q⟩
theorem vq_ref_inv {v : V} {d : D} {j : Nat} (h : Vq K O φ H v d) (hj : refOf d = some j) : ∃ a, v = .ref a ∧ φ[j]? = some a := by
  cases h with
  | inl h =>
    obtain ⟨j', a, rfl, h1, rfl⟩ := h
    rw [refOf_ref] at hj; cases hj
    exact ⟨a, rfl, h1⟩
  | inr h => rw [refOf_none h.noref] at hj; cases hj
  | tup e q => cases hj
theorem deep_dq (nd : ∀ (j : Nat) (a : Addr) (d : D), φ[j]? = some a → S[j]? = some d → d ≠ .none → NodeOk K O φ H a d) (sub : ∀ b, O' b → O b) :
    ∀ (n : Nat) (d d' : D) (v : V), Vq K O φ H v d → deep n S d = some d' → (∀ j ∈ deepIx n S d, ∀ a, φ[j]? = some a → ¬ O' a) → Dq K (hide O' H) v d' := by
  intro n
  induction n with
  | zero => intro d d' v _ h; cases h
  | succ n ih =>
    have all : ∀ (ds ds' : List D) (vs : List V), VqAll K O φ H vs ds → ds.mapM (deep n S) = some ds' → (∀ j ∈ ds.flatMap (deepIx n S), ∀ a, φ[j]? = some a → ¬ O' a) → DqAll K (hide O' H) vs ds' := by
      intro ds
      induction ds with
      | nil =>
        intro ds' vs h e _
        cases h
        simp at e
        rw [e]; exact .nil
      | cons d ds ih2 =>
        intro ds' vs h e hn
        cases h with
        | cons h1 h2 =>
          rw [List.mapM_cons] at e
          cases e1 : deep n S d with
          | none => rw [e1] at e; cases e
          | some d1 =>
            rw [e1] at e
            cases e2 : ds.mapM (deep n S) with
            | none => rw [e2] at e; cases e
            | some ds1 =>
              rw [e2] at e
              cases e
              rw [List.flatMap_cons] at hn
              exact .cons (ih d d1 _ h1 e1 fun j hj => hn j (List.mem_append.mpr (.inl hj))) (ih2 ds1 _ h2 e2 fun j hj => hn j (List.mem_append.mpr (.inr hj)))
    intro d d' v h e hn
    unfold deep at e
    unfold deepIx at hn
    split at e
    · rename_i hp
      cases e
      exact Dq.mono (hide_less sub) (h.pure hp)
    · rename_i hp
      rw [if_neg hp] at hn
      split at e
      · rename_i j hj
        rw [hj] at hn
        simp only at hn
        split at e
        · rename_i ds hds
          rw [hds] at hn
          simp only at hn
          obtain ⟨a, rfl, ha⟩ := vq_ref_inv h hj
          obtain ⟨h1, h2⟩ := nodeIn_some hds
          obtain ⟨vs, h3, h4⟩ := (nd j a _ ha h1 h2).lstI
          cases e1 : ds.mapM (deep n S) with
          | none => rw [e1] at e; cases e
          | some ds1 =>
            rw [e1] at e
            cases e
            exact .lst (by rw [hide_at (hn j List.mem_cons_self a ha)]; exact h3) (all ds ds1 vs h4 e1 fun k hk => hn k (List.mem_cons_of_mem _ hk))
        · cases e
      · rename_i hj
        rw [hj] at hn
        simp only at hn
        split at e
        · rename_i ds
          simp only at hn
          obtain ⟨a, xs, rfl, h1, h2⟩ := vq_tup_inv h (by simpa using hp)
          cases e1 : ds.mapM (deep n S) with
          | none => rw [e1] at e; cases e
          | some ds1 =>
            rw [e1] at e
            cases e
            exact .tup (hide_less sub _ _ h1) (all ds ds1 xs h2 e1 hn)
        · cases e
theorem hide_false {H : Hp} : hide (fun _ => False) H = H := by
  funext b
  exact hide_at fun z => z
end
/-! ### looked at alone: what stands there, owned or not -/
def ckR (K : Tx) : Rep := fun _ _ H' v d => Dq K H' v d
abbrev DC := EJ ckR
section
variable {Rp : RP} {X : Cx} {W : L2.WX} {M M' : List Md} {e a b c o : Expr} {F F1 F2 FO : List D → Rs D} {es : List Expr} {A : List D → Rs (List D)} {B : List D → Rs (List D × List D)} {pos pos' p apos : Pos} {n j k N : Nat} {x m cn : Str} {G : List D → Rs D}
theorem DE.ck (h : DE X W M e F) : DC X W M e F :=
  let ⟨t, p, q⟩ := h
  ⟨t, p, fun G H0 O0 O H σ ρ Q I w => q G H0 O0 O H σ ρ Q I (w.imp fun _ _ _ _ d => Dq.mono hide_sub d)⟩
theorem dc_own {x : Str} (i : Nat) (hm : M[i]? = some .ow := by rfl) (hN : X.N[i]? = some x := by rfl) (hv : Vis X.env.scope x := by first | exact Or.inl rfl | exact Or.inr (Or.inl rfl) | exact Or.inr (Or.inr rfl)) (hd : (x == ("__debug__" : Str)) = false := by decide) (hcd : (x == ("__classdict__" : Str)) = false := by decide) :
    DC X W M (.Name x pos) (fVar i) := by
  refine ⟨_, pe_var hN hv hd hcd, fun G H0 O0 O H σ ρ Q I w => ?_⟩
  unfold fVar at w
  cases hr : ρ[i]? with
  | none => rw [hr] at w; exact w.elim
  | some d =>
    rw [hr] at w
    obtain ⟨p, e1, _, _, vs, ds, e2, h1, h2⟩ := I.ow hm hr
    exact ⟨_, e1, w.ok (by rw [e2]; exact .lst h1 (DqAll.mono hide_sub h2))⟩
/-- the plain datum that the value stands for -/
def fDeep (N n : Nat) (F : List D → Rs D) : List D → Rs D := fun ρ => (F ρ).bind fun d => match ρ[n]? with
  | some (.list S) => (match deep N S d with
    | some d' => .ok d'
    | none => .no)
  | _ => .no
theorem dc_deep (h : EV X W M e F) (hn : n = M.length := by rfl) : DC X W M e (fDeep N n F) := by
  subst hn
  obtain ⟨t, p, q⟩ := h
  refine ⟨t, p, fun G H0 O0 O H σ ρ Q ⟨φ, I⟩ w => q G H0 O0 O φ H σ ρ _ I (Wnt.bind w fun d H1 v s1 hd w1 => ?_)⟩
  have I1 := I.mono s1
  split at w1
  · rename_i S hS
    split at w1
    · rename_i d' hd'
      have st := I1.stAt hS
      have := deep_dq (O' := fun _ => False) (fun j a d h1 h2 h3 => (st.node j a d h1 h2 h3).2.2) (fun _ z => z.elim) N d d' v hd hd' (fun _ _ _ _ z => z)
      rw [hide_false] at this
      exact w1.ok this
    · exact w1.elim
  · exact w1.elim
/-- .. is data without store: a name that holds a value of any kind -/
def fBC (f : D → D → Rs D) (F1 F2 : List D → Rs D) : List D → Rs D := fun ρ => (F1 ρ).bind fun x => (F2 ρ).bind fun y => (f x y).nx.bind scal
theorem bp_ck {K : Tx} {H : Hp} {v : V} {d : D} (h : Dq K H v d) : Bp K (fun _ => False) H v d := .inl (by rw [hide_false]; exact h)
theorem wnt_scal {K : Tx} {W W' : D → Hp → Prop} {O : Addr → Prop} {H Hb : Hp} {r : Rs D} {Q : VK} (s0 : Same Hb H) (w : Wnt W (fun H' v z => Dq K (hide O H') v z) Hb (r.nx.bind scal) Q) : Wnt W' (fun H' v z => Dq K (hide (fun _ => False) H') v z) H r Q := by
  cases r with
  | no => exact w
  | er e => exact (show False from w).elim
  | ok d =>
    intro H' v s hv
    have w : Wnt W (fun H' v z => Dq K (hide O H') v z) Hb (scal d) Q := w
    unfold scal at w
    split at w
    · rename_i hp
      exact w H' v (s0.trans s) (dq_plain hp hv)
    · exact w.elim
theorem de_cmpC {op : CmpOp} {f : D → D → Rs D} (h : OpD X (compareOp op) f) (ha : DC X W M a F1) (hb : DC X W M b F2) (hm : behindInMarks op b = false) : DE X W M (.Compare a [op] [b] pos) (fBC f F1 F2) := by
  obtain ⟨r, hr, q⟩ := h
  obtain ⟨ta, pa, qa⟩ := ha
  obtain ⟨tb, pb, qb⟩ := hb
  refine ⟨_, pe_cmpR hr pa pb hm, fun G H0 O0 O H σ ρ Q I w => qa G H0 O0 O H σ ρ _ I (Wnt.bind w fun d H1 x s1 hd w1 => qb G H0 O0 O H1 σ ρ _ (I.mono s1) (Wnt.bind w1 fun e H2 y s2 he w2 => ?_))⟩
  exact q _ (fun _ => False) H2 x y d e _ (fun _ z => z.elim) (bp_ck (Dq.mono s2 hd)) (bp_ck he) (wnt_scal (W' := fun _ _ => False) (Same.refl _) w2)
theorem dt_cmpC {op : CmpOp} {f : D → D → Rs D} (h : OpD X (compareOp op) f) (ha : DC X W M a F1) (hb : DC X W M b F2) (hm : behindInMarks op b = false) : DT X W M (.Compare a [op] [b] pos) (tT (fBC f F1 F2)) := by
  obtain ⟨r, hr, q⟩ := h
  obtain ⟨ta, pa, qa⟩ := ha
  obtain ⟨tb, pb, qb⟩ := hb
  refine ⟨_, pt_cmpR hr pa pb hm, fun G H0 O0 O H σ ρ Q I w0 => ?_⟩
  have w := Wnt.tB (Rp := fun H' v z => Dq X.T (hide O H') v z) w0 (fun H' v b q => by cases q; rfl)
  refine qa G H0 O0 O H σ ρ _ I (Wnt.bind w fun d H1 x s1 hd w1 => qb G H0 O0 O H1 σ ρ _ (I.mono s1) (Wnt.bind w1 fun e H2 y s2 he w2 => ?_))
  exact q _ (fun _ => False) H2 x y d e _ (fun _ z => z.elim) (bp_ck (Dq.mono s2 hd)) (bp_ck he) (wnt_scal (W' := fun _ _ => False) (Same.refl _) w2)
/-- len, sum, .. of such -/
inductive CkAll (K : Tx) (H : Hp) : List V → List D → Prop
  | nil : CkAll K H [] []
  | cons {v : V} {d : D} {vs : List V} {ds : List D} : Dq K H v d → CkAll K H vs ds → CkAll K H (v :: vs) (d :: ds)
def fCallC1 (g : List D → Rs D) (F : List D → Rs D) : List D → Rs D := fun ρ => (F ρ).bind fun d => (g [d]).nx.bind scal
theorem de_callC {x : Str} {p : Pos} {id : String} {g : List D → Rs D} (hc : CallJ shR X (.builtin id) g) (hg : Gl X x) (hm : X.mg x = none) (hv : bootBuiltins x = some (.builtin id)) (ha : DC X W M e F) (hn : x ≠ "__name__" := by decide) (hdb : (x == ("__debug__" : Str)) = false := by decide)
    (he : starEach (e :: []) X.env = (false, eval e X.env) :: starEach [] X.env := by rfl) (hpl : (backTo pos (starEach [] X.env)).any (·.1) = false := by rfl) : DE X W M (.Call (.Name x p) (e :: []) [] pos) (fCallC1 g F) := by
  obtain ⟨r, hr, q⟩ := hc
  obtain ⟨t, pt, qt⟩ := ha
  refine ⟨_, pe_callB hr hg hm hv (pa_cons pt pa_nil he) hn hdb he hpl, fun G H0 O0 O H σ ρ Q I w => qt G H0 O0 O H σ ρ _ I (Wnt.bind w fun d H1 v s1 hd w1 => ?_)⟩
  exact q (fun _ _ => False) (fun _ => False) H1 [v] [d] _ (fun _ z => z.elim) (.cons (bp_ck hd) .nil) (wnt_scal (Same.refl _) w1)
/-- isinstance of such -/
theorem de_isaC {T : Str} {Ts : String} {p p2 : Pos} (hg : Gl X "isinstance") (hm : X.mg "isinstance" = none) (hg2 : Gl X T) (hm2 : X.mg T = none) (ha : DC X W M a F) (hv : bootBuiltins T = some (.type Ts)) (hT : Ts ∈ (["int", "bool", "str", "list", "tuple"] : List String) := by decide)
    (hn : T ≠ "__name__" := by decide) (hd : (T == ("__debug__" : Str)) = false := by decide)
    (hs : starEach (a :: [.Name T p2]) X.env = (false, eval a X.env) :: starEach [.Name T p2] X.env := by rfl) (hs2 : starEach ((.Name T p2) :: []) X.env = (false, eval (.Name T p2) X.env) :: starEach [] X.env := by rfl) (hpl : (backTo pos (starEach [.Name T p2] X.env)).any (·.1) = false := by rfl) :
    DE X W M (.Call (.Name "isinstance" p) [a, .Name T p2] [] pos) (fIsa Ts F) := by
  obtain ⟨t, pt, q⟩ := ha
  refine ⟨_, pe_callB call_isi hg hm (by decide +kernel) (pa_cons pt (pa_cons (pe_bltn (v := .ty Ts) hg2 hm2 hv rfl hn hd) pa_nil hs2) hs) (by decide) (by decide) hs hpl, fun G H0 O0 O H σ ρ Q I w => q G H0 O0 O H σ ρ _ I (Wnt.bind w fun d H1 v s1 hd0 w1 => ?_)⟩
  have hd := bp_ck hd0
  show ∃ (x c : V) (t u : Value) (b : Bool), [v, .ty Ts] = [x, c] ∧ ClsV c u ∧ TyX X.K H1 x t ∧ PySem.W.kitOne X.K t u = some b ∧ Q (.bl b) H1
  cases hr : isaB Ts d with
  | no => rw [hr] at w1; exact w1.elim
  | er z => cases d <;> cases hr
  | ok z =>
    rw [hr] at w1
    have hz : ∃ bb, z = .bool bb := by cases d <;> cases hr <;> exact ⟨_, rfl⟩
    obtain ⟨bb, rfl⟩ := hz
    have hk := kit_isa hT hr
    refine ⟨v, .ty Ts, .type (tyNm d), .type Ts, bb, rfl, .ty Ts, ?_, kit_ty hk, w1.ok (.bl _)⟩
    cases d with
    | none => rw [hd.non]; exact .base .non
    | bool x => rw [hd.bl]; exact .base (.bl x)
    | int x => rw [hd.int]; exact .base (.int x)
    | str x => rw [hd.str]; exact .base (.str x)
    | list ds => obtain ⟨p, xs, rfl, hp, _⟩ := hd.list; exact .base (.lst hp)
    | tuple ds =>
      obtain ⟨p, xs, rfl, hp, _⟩ := hd.tuple
      rcases hp with (hp | ⟨o, hp⟩) | ⟨o, its, n, h1, h2, _⟩
      · exact .base (.tup hp)
      · exact .fTuple hp
      · exact .kTuple h1 h2
    | dict ds => cases hr
/-! ### lent -/
theorem br_deep (h : EV X W M e F) (h2 : AJ brA X W M es A) (hn : n = M.length := by rfl) (hs : starEach (e :: es) X.env = (false, eval e X.env) :: starEach es X.env := by rfl) : AJ brA X W M (e :: es) (aCons (fDeep N n F) A) := by
  subst hn
  obtain ⟨t, pt, q⟩ := h
  obtain ⟨t2, pt2, q2⟩ := h2
  refine ⟨_, pa_cons pt pt2 hs, fun G H0 O0 O H σ ρ Q ⟨φ, I⟩ w => ?_⟩
  refine q G H0 O0 O φ H σ ρ _ I ?_
  unfold aCons fDeep at w
  rw [Rs.assoc] at w
  refine Wnt.bind w fun d H1 v s1 hd w1 => ?_
  have I1 := I.mono s1
  split at w1
  · rename_i S hS
    split at w1
    · rename_i d' hd'
      refine q2 G H0 O0 O H1 σ ρ _ I1.ok (Wnt.bind w1 fun ds H2 vs s2 hds w2 => ?_)
      obtain ⟨P, hds⟩ := hds
      have st := (I1.mono s2).stAt hS
      have := deep_dq (O' := fun b => O b ∧ ¬ ∃ j ∈ deepIx N S d, φ[j]? = some b) (fun j a d h1 h2 h3 => (st.node j a d h1 h2 h3).2.2) (fun _ z => z.1) N d d' v (vq_mono s2 hd) hd' (fun j hj a ha z => z.2 ⟨j, hj, ha⟩)
      exact w2.ok (v := v :: vs) ⟨fun b => P b ∨ ∃ j ∈ deepIx N S d, φ[j]? = some b, .cons (Dq.mono (hide_less fun b z => ⟨z.1, fun y => z.2 (.inr y)⟩) this) (DqAll.mono (hide_less fun b z => ⟨z.1, fun y => z.2 (.inl y)⟩) hds)⟩
    · exact w1.elim
  · exact w1.elim
/-! ### frozen -/
def outAll (S : List D) : List Nat → List D
  | [] => S
  | j :: js => outAll (S.set j .none) js
theorem EOkF.outAll {K : Tx} {G H0 H : Hp} {O0 : Out} {φ : List Addr} {σ : L2.St} (hw : O0.rw = true) : ∀ (js : List Nat) {O : Addr → Prop} {ρ : List D} {S : List D}, EOkF K G H0 O0 M O φ H σ ρ → ρ[M.length]? = some (.list S) → (∀ j ∈ js, j < S.length) →
    ∃ O', EOkF K G H0 O0 M O' φ H σ (ρ.set M.length (.list (FL.outAll S js))) ∧ (∀ b, O' b → O b) ∧ ∀ j ∈ js, ∀ a, φ[j]? = some a → S[j]? ≠ some .none → ¬ O' a
  | [], O, ρ, S, I, hS, _ => ⟨O, by unfold FL.outAll; rw [set_self hS]; exact I, fun _ z => z, fun _ h => by cases h⟩
  | j :: js, O, ρ, S, I, hS, hl => by
    have hj := hl j List.mem_cons_self
    have lst := (List.getElem?_eq_some_iff.mp hS).1
    by_cases hnone : S[j]? = some .none
    · have e : S.set j .none = S := by
        apply List.ext_getElem?
        intro k
        by_cases hk : j = k
        · subst hk; rw [List.getElem?_set_self hj, hnone]
        · rw [List.getElem?_set_ne hk]
      unfold FL.outAll
      rw [e]
      obtain ⟨O', J, h1, h2⟩ := EOkF.outAll hw js I hS fun k hk => hl k (List.mem_cons_of_mem _ hk)
      refine ⟨O', J, h1, fun k hk a ha hn => ?_⟩
      rcases List.mem_cons.mp hk with rfl | hk
      · exact absurd hnone hn
      · exact h2 k hk a ha hn
    · have hd : S[j]? = some (S[j]'hj) := List.getElem?_eq_getElem hj
      have hne : S[j]'hj ≠ .none := fun z => hnone (by rw [hd, z])
      obtain ⟨a, ha⟩ : ∃ a, φ[j]? = some a := by
        have := (I.stAt hS).len
        exact ⟨_, List.getElem?_eq_getElem (show j < φ.length by omega)⟩
      have J := I.stOut hw hS ha hd hne
      have hS2 : (ρ.set M.length (.list (S.set j .none)))[M.length]? = some (.list (S.set j .none)) := List.getElem?_set_self lst
      obtain ⟨O', J2, h1, h2⟩ := EOkF.outAll hw js J hS2 fun k hk => by rw [List.length_set]; exact hl k (List.mem_cons_of_mem _ hk)
      rw [List.set_set] at J2
      refine ⟨O', by unfold FL.outAll; exact J2, fun b z => (h1 b z).1, fun k hk c hc hn => ?_⟩
      by_cases hkj : k = j
      · subst hkj
        rw [ha] at hc; cases hc
        exact fun z => (h1 _ z).2 rfl
      · rcases List.mem_cons.mp hk with h | hk
        · exact absurd h hkj
        · exact h2 k hk c hc (by rw [List.getElem?_set_ne (Ne.symm hkj)]; exact hn)
theorem deepIx_in {S : List D} : ∀ (n : Nat) (d : D), ∀ j ∈ deepIx n S d, j < S.length ∧ S[j]? ≠ some .none := by
  intro n
  induction n with
  | zero => intro d j h; cases h
  | succ n ih =>
    intro d j h
    unfold deepIx at h
    split at h
    · cases h
    · split at h
      · rename_i i hi
        split at h
        · rename_i ds hds
          obtain ⟨h1, h2⟩ := nodeIn_some hds
          rcases List.mem_cons.mp h with rfl | h
          · exact ⟨(List.getElem?_eq_some_iff.mp h1).1, by rw [h1]; intro z; cases z⟩
          · obtain ⟨x, _, hx⟩ := List.mem_flatMap.mp h
            exact ih x j hx
        · cases h
      · split at h
        · obtain ⟨x, _, hx⟩ := List.mem_flatMap.mp h
          exact ih x j hx
        · cases h
/-- what e gives, frozen: plain data from here on -/
def fFzD (N n : Nat) (F : List D → Rs D) : List D → Rs D := fun ρ => if n < ρ.length then pack ((xv (F ρ)).bind fun p => match deep N p.2 p.1 with
  | some d => .ok (d, outAll p.2 (deepIx N p.2 p.1))
  | none => .no) else .no
theorem ex_fzD (h : EX X W M e F) (hn : n = M.length := by rfl) : EX X W M e (fFzD N n F) := by
  subst hn
  obtain ⟨t, pt, q⟩ := h
  refine ⟨t, pt, fun G H0 O0 O φ H σ ρ Q hw I w => ?_⟩
  unfold fFzD at w
  split at w
  · rename_i lst
    have w := X2.of w
    rw [xv_pack] at w
    refine q G H0 O0 O φ H σ ρ _ hw I (X2.to (X2.bind w fun d S O1 φ1 H1 v I1 s1 p1 hv w1 => ?_))
    simp only at w1
    split at w1
    · rename_i d' hd'
      have hS := stIn (S := S) lst
      have st := I1.stAt hS
      obtain ⟨O', J, h1, h2⟩ := EOkF.outAll hw (deepIx N S d) I1 hS fun j hj => (deepIx_in N d j hj).1
      have := deep_dq (O' := O') (fun j a d h1 h2 h3 => (st.node j a d h1 h2 h3).2.2) h1 N d d' v hv hd' (fun j hj a ha => h2 j hj a ha (deepIx_in N d j hj).2)
      exact w1 O' φ1 H1 v J (hide_less h1) pre_refl (.inr this)
    · exact w1.elim
  · exact w.elim
end
end FL
end
section
/-! FL, part 4: own lists walked while they are held (pinned), own dicts given back, the store's defs' returns and locks, the store's lists walked. -/
namespace FL
open PySem L2
section
variable {K : Tx} {G H0 H : Hp} {O0 : Out} {O : Addr → Prop} {φ : List Addr} {M : List Md} {σ : L2.St} {ρ : List D} {i : Nat} {p : Addr} {u : HO}
theorem pn_get {M : List Md} {i j : Nat} {m m' : Md} (h : (M.set i m')[j]? = some m) (hj : i ≠ j) : M[j]? = some m := by rwa [List.getElem?_set_ne hj] at h
theorem upd_id {H : Hp} {p : Addr} {o : HO} (h : H p = some o) : upd H p o = H := by
  funext b
  by_cases n : b = p
  · subst n; rw [upd_same, h]
  · rw [upd_ne n]
/-- the list at slot i is held fast -/
theorem EOkF.pinL (I : EOkF K G H0 O0 M O φ H σ ρ) (hm : M[i]? = some .ow) {vs : List V} (hσ : σ[i]? = some (some (.ref p))) (hO : O p) (h0 : H0 p = none) (hp : H p = some (.lst vs)) {d : D} {ds : List D} (hd : ρ[i]? = some d) (ed : d = .list ds) (hk : DqAll K (hide O H) vs ds) :
    EOkF K G (upd H0 p (.lst vs)) (lkOut O0 i p) (M.set i .pn) O φ H σ ρ := by
  have li := (List.getElem?_eq_some_iff.mp hm).1
  have pφ := I.sep i _ p hm rfl hσ
  refine ⟨I.gs, fun b o e => ?_, fun q h => ?_, fun q h => ?_, I.alive, fun q h => ?_, I.pre, fun a h => ?_, I.nod, I.liv, by rw [List.length_set]; exact I.ls, by rw [List.length_set]; exact I.lr, fun j mj x e h1 h2 h3 => ?_, fun a b ma mb q hab h1 h2 o1 o2 h3 h4 => ?_, fun j mj q h1 o1 h3 => ?_, fun j mj h1 o1 => ?_, fun e h => ?_⟩
  · by_cases n : b = p
    · subst n; rw [upd_same] at e; rw [← e]; exact hp
    · rw [upd_ne n] at e; exact I.base b o e
  · rcases h with h | h
    · exact I.sub q h
    · rw [h]; exact hO
  · by_cases n : q = p
    · subst n; rw [upd_same]; intro z; cases z
    · rw [upd_ne n]
      rcases h with h | h
      · exact I.al0 q h
      · exact absurd h n
  · by_cases n : q = p
    · exact .inl (.inr n)
    · rw [upd_ne n]
      rcases I.fr q h with h | h
      · exact .inl (.inl h)
      · exact .inr h
  · rcases I.nw a h with z | z
    · exact .inl z
    · exact .inr (by rw [upd_ne (fun e : a = p => pφ (by rw [← e]; exact h))]; exact z)
  · by_cases hj : i = j
    · subst hj
      rw [List.getElem?_set_self li] at h1
      cases h1
      rw [hσ] at h2; cases h2
      rw [hd] at h3; cases h3
      exact ⟨p, rfl, hO, vs, ds, ed, hp, hk, upd_same⟩
    · have h1' := pn_get h1 hj
      have ne : ∀ q, mj.own = true → x = some (.ref q) → q ≠ p := fun q o1 e1 z => by
        subst z e1
        exact I.dist i j _ _ q hj hm h1' rfl o1 hσ h2
      have := I.slot j mj x e h1' h2 h3
      cases mj with
      | no => trivial
      | sh => exact this
      | vr => exact this
      | lk => obtain ⟨q, e1, k1, od, k2, k3, k4, k5, k6, k7⟩ := this; exact ⟨q, e1, k1, od, k2, k3, k4, k5, k6, by rw [upd_ne (ne q rfl e1)]; exact k7⟩
      | ow => obtain ⟨q, e1, k1, k2, k3⟩ := this; exact ⟨q, e1, k1, by rw [upd_ne (ne q rfl e1)]; exact k2, k3⟩
      | dk => obtain ⟨q, e1, k1, k2, k3⟩ := this; exact ⟨q, e1, k1, by rw [upd_ne (ne q rfl e1)]; exact k2, k3⟩
      | pn => obtain ⟨q, e1, k1, k2, k3, k4, k5, k6, k7⟩ := this; exact ⟨q, e1, k1, k2, k3, k4, k5, k6, by rw [upd_ne (ne q rfl e1)]; exact k7⟩
  · have get : ∀ {a : Nat} {m : Md}, (M.set i .pn)[a]? = some m → m.own = true → ∃ m', M[a]? = some m' ∧ m'.own = true := fun {a m} h o => by
      by_cases ha : i = a
      · subst ha; exact ⟨_, hm, rfl⟩
      · exact ⟨m, pn_get h ha, o⟩
    obtain ⟨m1, g1, g2⟩ := get h1 o1
    obtain ⟨m2, g3, g4⟩ := get h2 o2
    exact I.dist a b m1 m2 q hab g1 g3 g2 g4 h3 h4
  · by_cases hj : i = j
    · subst hj
      rw [hσ] at h3; cases h3; exact pφ
    · exact I.sep j mj q (pn_get h1 hj) o1 h3
  · by_cases hj : i = j
    · subst hj
      exact ⟨p, if_pos rfl, hσ⟩
    · obtain ⟨q, e1, e2⟩ := I.pins j mj (pn_get h1 hj) o1
      exact ⟨q, by unfold lkOut; simp only [if_neg (Ne.symm hj)]; exact e1, e2⟩
  · rw [List.length_set] at h
    obtain ⟨S, e1, q⟩ := I.st e h
    refine ⟨S, e1, q.len, fun j a d h1 h2 h3 => ?_⟩
    obtain ⟨k1, k2, k3⟩ := q.node j a d h1 h2 h3
    have na : a ≠ p := fun z => pφ (z ▸ List.mem_of_getElem? h1)
    exact ⟨k1, fun w => by rw [upd_ne na]; exact k2 w, k3⟩
theorem EOkF.unpin {vs : List V} (I : EOkF K G (upd H0 p (.lst vs)) (lkOut O0 i p) M O φ H σ ρ) (hm : M[i]? = some .pn) (h0 : H0 p = none) (hal : ∀ q, O0.p q → H0 q ≠ none) :
    EOkF K G H0 O0 (M.set i .ow) O φ H σ ρ := by
  have hp : H p = some (.lst vs) := I.base p _ upd_same
  have li := (List.getElem?_eq_some_iff.mp hm).1
  obtain ⟨p', ep, hσ⟩ := I.pins i _ hm rfl
  have : p' = p := by
    unfold lkOut at ep; simp only [if_true] at ep
    injection ep with ep; exact ep.symm
  subst this
  have hρ : ρ[i]? = some (ρ[i]'(Nat.lt_of_lt_of_le li I.lr)) := List.getElem?_eq_getElem _
  obtain ⟨q, e1, hO, vs', ds, ed, hp', hk, _⟩ := I.slot i _ _ _ hm hσ hρ
  cases e1
  have pφ := I.sep i _ p' hm rfl hσ
  refine ⟨I.gs, fun b o e => I.base b o (by rw [upd_ne (ne_of_none e h0)]; exact e), fun q h => I.sub q (.inl h), hal, I.alive, fun q h => ?_, I.pre, fun a h => ?_, I.nod, I.liv, by rw [List.length_set]; exact I.ls, by rw [List.length_set]; exact I.lr, fun j mj x e h1 h2 h3 => ?_, fun a b ma mb q hab h1 h2 o1 o2 h3 h4 => ?_, fun j mj q h1 o1 h3 => ?_, fun j mj h1 o1 => ?_, fun e h => ?_⟩
  · by_cases n : q = p'
    · subst n; exact .inr h0
    · rcases I.fr q h with h | h
      · rcases h with h | h
        · exact .inl h
        · exact absurd h n
      · rw [upd_ne n] at h; exact .inr h
  · rcases I.nw a h with z | z
    · exact .inl z
    · exact .inr (by rw [upd_ne (fun e : a = p' => pφ (by rw [← e]; exact h))] at z; exact z)
  · by_cases hj : i = j
    · subst hj
      rw [List.getElem?_set_self li] at h1
      cases h1
      rw [hσ] at h2; cases h2
      rw [hρ] at h3; cases h3
      exact ⟨p', rfl, hO, h0, vs', ds, ed, hp', hk⟩
    · have h1' := pn_get h1 hj
      have ne : ∀ q, mj.own = true → x = some (.ref q) → q ≠ p' := fun q o1 e1 z => by
        subst z e1
        exact I.dist i j _ _ q hj hm h1' rfl o1 hσ h2
      have := I.slot j mj x e h1' h2 h3
      cases mj with
      | no => trivial
      | sh => exact this
      | vr => exact this
      | lk => obtain ⟨q, e1, k1, od, k2, k3, k4, k5, k6, k7⟩ := this; exact ⟨q, e1, k1, od, k2, k3, k4, k5, k6, by rw [upd_ne (ne q rfl e1)] at k7; exact k7⟩
      | ow => obtain ⟨q, e1, k1, k2, k3⟩ := this; exact ⟨q, e1, k1, by rw [upd_ne (ne q rfl e1)] at k2; exact k2, k3⟩
      | dk => obtain ⟨q, e1, k1, k2, k3⟩ := this; exact ⟨q, e1, k1, by rw [upd_ne (ne q rfl e1)] at k2; exact k2, k3⟩
      | pn => obtain ⟨q, e1, k1, k2, k3, k4, k5, k6, k7⟩ := this; exact ⟨q, e1, k1, k2, k3, k4, k5, k6, by rw [upd_ne (ne q rfl e1)] at k7; exact k7⟩
  · have get : ∀ {a : Nat} {m : Md}, (M.set i .ow)[a]? = some m → m.own = true → ∃ m', M[a]? = some m' ∧ m'.own = true := fun {a m} h o => by
      by_cases ha : i = a
      · subst ha; exact ⟨_, hm, rfl⟩
      · exact ⟨m, pn_get h ha, o⟩
    obtain ⟨m1, g1, g2⟩ := get h1 o1
    obtain ⟨m2, g3, g4⟩ := get h2 o2
    exact I.dist a b m1 m2 q hab g1 g3 g2 g4 h3 h4
  · by_cases hj : i = j
    · subst hj
      rw [hσ] at h3; cases h3; exact pφ
    · exact I.sep j mj q (pn_get h1 hj) o1 h3
  · by_cases hj : i = j
    · subst hj
      rw [List.getElem?_set_self li] at h1; cases h1; cases o1
    · obtain ⟨q, e1, e2⟩ := I.pins j mj (pn_get h1 hj) o1
      exact ⟨q, by unfold lkOut at e1; simp only [if_neg (Ne.symm hj)] at e1; exact e1, e2⟩
  · rw [List.length_set] at h
    obtain ⟨S, e1, q⟩ := I.st e h
    refine ⟨S, e1, q.len, fun j a d h1 h2 h3 => ?_⟩
    obtain ⟨k1, k2, k3⟩ := q.node j a d h1 h2 h3
    have na : a ≠ p' := fun z => pφ (z ▸ List.mem_of_getElem? h1)
    exact ⟨k1, fun w => by have := k2 w; rw [upd_ne na] at this; exact this, k3⟩
end
/-! ### own dicts, given back -/
def dkR (K : Tx) : Rep := fun O H H' v d => ∃ p vs ds, v = .ref p ∧ d = .dict ds ∧ H p = none ∧ H' p = some (.dK vs) ∧ DkAll K (hide (fun b => O b ∨ b = p) H') vs ds
theorem later_dk : Later dkR := fun K O H H1 H' v d s ⟨p, vs, ds, e1, e2, h0, h1, h2⟩ => ⟨p, vs, ds, e1, e2, Same.none s h0, h1, h2⟩
def dkP : RP := ⟨false, fun K O0 H0 H' v d => dkR K O0.p H0 H' v d, fun K O0 _ H' cls dd e => ExR K O0.p H' e cls dd⟩
theorem px_dk : PlainX dkP := fun _ _ _ _ _ _ _ h => h
theorem lk_dk : LkRP dkP where
  rt := fun {K H0 H O0 i p o u v d} h0 s q => by
    obtain ⟨r, vs, ds, e1, e2, hr, hr', ha⟩ := q
    have n : r ≠ p := fun z => by subst z; rw [upd_same] at hr; cases hr
    refine ⟨r, vs, ds, e1, e2, by rw [upd_ne n] at hr; exact hr, by rw [upd_ne n]; exact hr', DkAll.mono (fun b x e => ?_) ha⟩
    obtain ⟨k, e⟩ := hide_some e
    have n1 : b ≠ p := fun z => k (.inl (.inr z))
    rw [hide_at (fun z => z.elim (fun z => k (.inl (.inl z))) fun z => k (.inr z)), upd_ne n1]; exact e
  xt := fun _ _ q => ExR.keep (hide_less fun _ h => .inl h) q
/-! ### locks in defs that change the store -/
theorem aftE_lk {K : Tx} {H0 H : Hp} {O0 : Out} {i : Nat} {p : Addr} {o : HO} {O : Addr → Prop} {φ : List Addr} {S : List D} (h0 : H0 p = none) (A : AftE K (lkOut O0 i p) (upd H0 p o) O φ H S) : AftE K O0 H0 O φ H S where
  base := fun b x e => A.base b x (by rw [upd_ne (ne_of_none e h0)]; exact e)
  sub := fun q h => A.sub q (.inl h)
  fr := fun q h => by
    by_cases n : q = p
    · subst n; exact .inr h0
    · rcases A.fr q h with h | h
      · rcases h with h | h
        · exact .inl h
        · exact absurd h n
      · rw [upd_ne n] at h; exact .inr h
  alive := A.alive
  pre := A.pre
  nw := fun a h => by
    rcases A.nw a h with z | z
    · exact .inl z
    · right
      by_cases n : a = p
      · subst n; rw [upd_same] at z; cases z
      · rw [upd_ne n] at z; exact z
  nod := A.nod
  liv := A.liv
  st := ⟨A.st.len, fun j a d h1 h2 h3 => by
    obtain ⟨k1, k2, k3⟩ := A.st.node j a d h1 h2 h3
    have := k2 rfl
    have n : a ≠ p := fun z => by subst z; rw [upd_same] at this; cases this
    rw [upd_ne n] at this
    exact ⟨k1, fun _ => this, k3⟩⟩
theorem aftE_upd {K : Tx} {H0 H : Hp} {O0 : Out} {i : Nat} {p : Addr} {o u : HO} {O : Addr → Prop} {φ : List Addr} {S : List D} (h0 : H0 p = none) (s : Same (upd H0 p o) H) (A : AftE K (lkOut O0 i p) (upd H0 p o) O φ H S) :
    AftE K O0 H0 O φ (upd H p u) S ∧ hide O (upd H p u) = hide O H := by
  have hO : O p := A.sub p (.inr rfl)
  have hh := hide_upd (O := O) (H := H) (o := u) hO
  have al : ∀ b, H b ≠ none → upd H p u b ≠ none := fun b h => by
    by_cases n : b = p
    · subst n; rw [upd_same]; intro z; cases z
    · rw [upd_ne n]; exact h
  have B := aftE_lk h0 A
  refine ⟨⟨same_unlock h0 s, B.sub, B.fr, fun q h => al q (B.alive q h), B.pre, B.nw, B.nod, fun a h => al a (B.liv a h), B.st.len, fun j a d h1 h2 h3 => ?_⟩, hh⟩
  obtain ⟨k1, k2, k3⟩ := A.st.node j a d h1 h2 h3
  have := k2 rfl
  have n : a ≠ p := fun z => by subst z; rw [upd_same] at this; cases this
  rw [upd_ne n] at this
  exact ⟨k1, fun _ => this, k3.keep (by rw [hh]; exact Same.refl _) pre_refl (upd_ne n)⟩
theorem lk_st : LkRP stP where
  rt := fun {K H0 H O0 i p o u v d} h0 s q => by
    obtain ⟨O, φ, S, d', e, A, hv⟩ := q
    obtain ⟨B, hh⟩ := aftE_upd (u := u) h0 s A
    exact ⟨O, φ, S, d', e, B, hv.keep (by rw [hh]; exact Same.refl _) pre_refl⟩
  xt := fun {K H0 H O0 i p o cls dd e} h0 s q => by
    obtain ⟨O, φ, S, e', e1, A, hx⟩ := q
    exact ⟨O, φ, S, e', e1, aftE_lk h0 A, hx⟩
theorem lk_in : LkRP inP := ⟨lk_sh.rt, lk_sh.xt⟩
theorem lk_inO : LkRP inOP := ⟨lk_ow.rt, lk_ow.xt⟩
section
variable {Rp : RP} {X : Cx} {W : L2.WX} {M M1 M2 M' : List Md} {e a b c tg o : Expr} {F F1 F2 F3 : List D → Rs D} {B1 : List D → Rs Bool} {S1 S2 : List D → Rs Fl} {es : List Expr} {A : List D → Rs (List D)} {pos pos' p : Pos} {st : Stmt} {rest body body2 : List Stmt} {n N j k : Nat} {x : Str} {G : List D → Rs D}
/-- a statement that runs while the own list at slot i is held fast -/
theorem ds_pin (i : Nat) (hL : LkRP Rp) (h : DS Rp X W (M.set i .pn) st (M'.set i .pn) S1) (hm : M[i]? = some .ow := by rfl) (hm' : M'[i]? = some .ow := by rfl) : DS Rp X W M st M' S1 := by
  obtain ⟨t, p, q⟩ := h
  refine ⟨_, p, fun G H0 O0 O H σ ρ E rw I w => ?_⟩
  have hl : i < ρ.length := Nat.lt_of_lt_of_le (List.getElem?_eq_some_iff.mp hm).1 I.lr
  obtain ⟨a, e1, hO, h0, vs, ds, ed, hp, hk⟩ := I.ow hm (List.getElem?_eq_getElem hl)
  obtain ⟨φ, J⟩ := I
  have J1 := J.pinL hm e1 hO h0 hp (List.getElem?_eq_getElem hl) ed hk
  refine q _ _ (lkOut O0 i a) _ _ σ ρ _ rw J1.ok ?_
  have li' := (List.getElem?_eq_some_iff.mp hm').1
  have eM : (M'.set i .pn).set i .ow = M' := by
    rw [List.set_set]
    apply List.ext_getElem?
    intro j
    by_cases hj : i = j
    · subst hj; rw [List.getElem?_set_self li', hm']
    · rw [List.getElem?_set_ne hj]
  have un : ∀ {H' : Hp}, Same (upd H0 a (.lst vs)) H' → Same H0 H' := fun s b o e => s b o (by rw [upd_ne (ne_of_none e h0)]; exact e)
  generalize S1 ρ = r at w ⊢
  cases r with
  | no => exact w
  | er x => exact fun H' cls dd σ' s hx => w H' cls dd σ' (un s) (hL.xt h0 s hx)
  | ok f =>
    cases f with
    | ret d =>
      intro H' v s hv
      have ha : H' a = some (.lst vs) := s _ _ upd_same
      have := hL.rt (u := .lst vs) h0 s hv
      rw [upd_id ha] at this
      exact w _ v (un s) this
    | nx ρ' =>
      intro O' H' σ' I'
      obtain ⟨φ', I'⟩ := I'
      have I2 := I'.unpin (by rw [List.getElem?_set_self li']) h0 J.al0
      rw [eM] at I2
      exact w O' _ σ' I2.ok
/-- the own list at slot i, held fast: read, walked -/
theorem db_pn {x : Str} (i : Nat) (hm : M[i]? = some .pn := by rfl) (hN : X.N[i]? = some x := by rfl) (hv : Vis X.env.scope x := by first | exact Or.inl rfl | exact Or.inr (Or.inl rfl) | exact Or.inr (Or.inr rfl)) (hd : (x == ("__debug__" : Str)) = false := by decide) (hcd : (x == ("__classdict__" : Str)) = false := by decide) :
    DB X W M (.Name x pos) (fVar i) := by
  refine ⟨_, pe_var hN hv hd hcd, fun G H0 O0 O H σ ρ Q I w => ?_⟩
  unfold fVar at w
  cases hr : ρ[i]? with
  | none => rw [hr] at w; exact w.elim
  | some d =>
    rw [hr] at w
    have hi : i < σ.length := by rw [I.ls]; exact (List.getElem?_eq_some_iff.mp hm).1
    obtain ⟨φ, J⟩ := I
    obtain ⟨p, e1, _, vs, ds, e2, h1, h2, h3⟩ := J.slot i _ _ _ hm (List.getElem?_eq_getElem hi) hr
    exact ⟨_, by rw [List.getElem?_eq_getElem hi, e1], w.ok (.inr ⟨p, rfl, .inl ⟨vs, ds, e2, h1, h2⟩⟩)⟩
def fItO (i : Nat) : List D → Rs (List D) := fun ρ => match ρ[i]? with
  | some (.list ds) => .ok ds
  | _ => .no
theorem di_pn {x : Str} (i : Nat) (hm : M[i]? = some .pn := by rfl) (hN : X.N[i]? = some x := by rfl) (hv : Vis X.env.scope x := by first | exact Or.inl rfl | exact Or.inr (Or.inl rfl) | exact Or.inr (Or.inr rfl)) (hd : (x == ("__debug__" : Str)) = false := by decide) (hcd : (x == ("__classdict__" : Str)) = false := by decide) :
    DI X W M tg (.Name x pos) (fItO i) := by
  refine ⟨_, pi_list (pe_var hN hv hd hcd), fun G H0 O0 O H σ ρ R I w => ?_⟩
  unfold fItO at w
  cases hr : ρ[i]? with
  | none => rw [hr] at w; exact w.elim
  | some d =>
    rw [hr] at w
    have hi : i < σ.length := by rw [I.ls]; exact (List.getElem?_eq_some_iff.mp hm).1
    obtain ⟨φ, J⟩ := I
    obtain ⟨p, e1, _, vs, ds, e2, h1, h2, h3⟩ := J.slot i _ _ _ hm (List.getElem?_eq_getElem hi) hr
    subst e2
    exact ⟨_, by rw [List.getElem?_eq_getElem hi, e1], p, rfl, ⟨vs, SqL.of h1⟩, w.ok (itOk_list fun O' H' s sb => ⟨vs, SqL.of (sb _ _ h3), DqAll.mono s h2⟩)⟩
/-- an own list walked by a comprehension -/
theorem di_own {x : Str} (i : Nat) (hm : M[i]? = some .ow := by rfl) (hN : X.N[i]? = some x := by rfl) (hv : Vis X.env.scope x := by first | exact Or.inl rfl | exact Or.inr (Or.inl rfl) | exact Or.inr (Or.inr rfl)) (hd : (x == ("__debug__" : Str)) = false := by decide) (hcd : (x == ("__classdict__" : Str)) = false := by decide) :
    DIc X W M tg (.Name x pos) (fItO i) := by
  refine ⟨_, pi_list (pe_var hN hv hd hcd), fun G H0 O0 O H σ ρ R I w => ?_⟩
  unfold fItO at w
  cases hr : ρ[i]? with
  | none => rw [hr] at w; exact w.elim
  | some d =>
    rw [hr] at w
    obtain ⟨p, e1, _, _, vs, ds, e2, h1, h2⟩ := I.ow hm hr
    subst e2
    exact ⟨_, e1, p, rfl, ⟨vs, SqL.of h1⟩, w.ok (itOk_list fun O' H' s sb => ⟨vs, SqL.of (sb _ _ h1), DqAll.mono s h2⟩)⟩
/-- a list of the store walked by a comprehension, its items plain -/
def fItN (n : Nat) (F : List D → Rs D) : List D → Rs (List D) := fun ρ => (F ρ).bind fun d => match lstN n ρ d with
  | some (_, ds) => if pureD (.list ds) then .ok ds else .no
  | none => .no
theorem di_node (h : EV X W M e F) (hn : n = M.length := by rfl) : DIc X W M tg e (fItN n F) := by
  subst hn
  obtain ⟨t, pt, q⟩ := h
  refine ⟨_, pi_list pt, fun G H0 O0 O H σ ρ R ⟨φ, I⟩ w => q G H0 O0 O φ H σ ρ _ I (Wnt.bind w fun d H1 v s1 hd w1 => ?_)⟩
  have I1 := I.mono s1
  split at w1
  · rename_i j ds hds
    split at w1
    · rename_i hp
      obtain ⟨hj, hnd⟩ := lstN_some hds
      obtain ⟨S, a, rfl, _, _, _, _, _, _, h8⟩ := I1.node hd hj hnd
      obtain ⟨vs, h9, h10⟩ := h8.lstI
      have hq := h10.pure hp
      exact ⟨a, rfl, ⟨vs, SqL.of h9⟩, w1.ok (itOk_list fun O' H' s sb => ⟨vs, SqL.of (sb _ _ h9), DqAll.mono s hq⟩)⟩
    · exact w1.elim
  · exact w1.elim
/-! ### returns -/
def fRetXN (n : Nat) : List D → Rs Fl := fun ρ => match ρ[n]? with
  | some (.list S) => .ok (.ret (.tuple [.none, .list S]))
  | _ => .no
theorem dx_retN (hn : n = M.length := by rfl) : DS stP X W M (.Return none pos) M' (fRetXN n) := by
  subst hn
  refine ⟨_, ps_retN, fun G H0 O0 O H σ ρ E rw ⟨φ, I⟩ w => ?_⟩
  unfold fRetXN at w
  split at w
  · rename_i S hS
    exact w H .non I.base ⟨O, φ, S, .none, rfl, I.aftE (rw rfl) hS, .inr .non⟩
  · exact w.elim
theorem d1_retI (h : DE X W M e F) : DS1 inP X W M (.Return (some e) pos) M' (fRet F) := by
  obtain ⟨t, p, q⟩ := h
  refine ⟨_, ps_ret p, fun G H0 O0 O H σ ρ E rw I w => q G H0 O0 O H σ ρ _ I ?_⟩
  unfold fRet at w
  generalize F ρ = r at w ⊢
  cases r with
  | er e => exact w
  | no => exact w
  | ok d => exact fun H' v s h => w H' v (I.base.trans s) (rt_sh I s h)
theorem d1_retNI : DS1 inP X W M (.Return none pos) M' (fun _ => .ok (.ret .none)) := by
  refine ⟨_, ps_retN, fun G H0 O0 O H σ ρ E rw I w => ?_⟩
  exact w H .non I.base .non
/-- return x, x an own dict -/
theorem d1_retDk {x : Str} (i : Nat) (hm : M[i]? = some .dk := by rfl) (hN : X.N[i]? = some x := by rfl) (hv : Vis X.env.scope x := by first | exact Or.inl rfl | exact Or.inr (Or.inl rfl) | exact Or.inr (Or.inr rfl)) (hd : (x == ("__debug__" : Str)) = false := by decide) (hcd : (x == ("__classdict__" : Str)) = false := by decide) :
    DS1 dkP X W M (.Return (some (.Name x pos')) pos) M' (fRet (fVar i)) := by
  refine ⟨_, ps_ret (pe_var hN hv hd hcd), fun G H0 O0 O H σ ρ E rw I w => ?_⟩
  unfold fRet fVar at w
  cases hr : ρ[i]? with
  | none => rw [hr] at w; exact w.elim
  | some d =>
    rw [hr] at w
    obtain ⟨p, e1, oO, h0, vs, ds, e2, h1, h2⟩ := I.dk hm hr
    exact ⟨_, e1, w H _ I.base ⟨p, vs, ds, rfl, e2, h0, h1, DkAll.mono (hide_less fun b hb => hb.elim (I.sub b) fun z => by rw [z]; exact oO) h2⟩⟩
/-- x = e, e gives a dict of one's own -/
theorem d1_setDk {x : Str} (i : Nat) (hN : X.N.Nodup) (h : EJ dkR X W M e F) (hi : X.N[i]? = some x := by rfl) (hl : i < M.length := by decide) (hx : Loc X.env.scope x := by first | exact .inl rfl | exact .inr rfl) (hs : swapsWith e (some (.Name x pos')) pos.line X.env = pure false := by rfl) (hf : X.fn x = true ∨ X.env.scope.names.lookup x = some .local := by first | exact .inl rfl | exact .inr rfl | assumption) :
    DS1 Rp X W M (.Assign [.Name x pos'] e pos) (M.set i .dk) (fSet i F) := by
  obtain ⟨t, p, q⟩ := h
  refine ⟨_, ps_set hN hi hx p hs hf, fun G H0 O0 O H σ ρ E rw I w => q G H0 O0 O H σ ρ _ I ?_⟩
  unfold fSet at w
  generalize F ρ = r at w ⊢
  cases r with
  | er e => exact w
  | no => exact w
  | ok d =>
    rintro H' v s ⟨p, vs, ds, rfl, rfl, hp, h1, h2⟩
    exact w _ H' _ (I.adopt hl rfl s hp (by rw [h1]; intro z; cases z) rfl fun _ => ⟨p, rfl, .inr rfl, I.base.free hp, vs, ds, rfl, h1, h2⟩)
/-- such a dict, read alone -/
theorem db_ofDk (h : EJ dkR X W M e F) : DB X W M e F :=
  let ⟨t, p, q⟩ := h
  ⟨t, p, fun G H0 O0 O H σ ρ Q I w => q G H0 O0 O H σ ρ Q I (w.imp fun H' v d s ⟨p, vs, ds, e1, e2, h0, h1, h2⟩ => .inr ⟨p, e1, .inr (.inl (.of ⟨vs, ds, e2, h1, DkAll.mono (hide_less fun b hb => .inl hb) h2⟩))⟩)⟩
end
section
variable {P : Program} {w : World} {K : Tx} {base : Heap}
theorem fn_VD {nm qual : Str} {st : Stmt} {f : Addr} {fd : FuncData} {N pn : List Str} {ps : List Bool} {k : Nat} {M' : List Md} {fb : List D → Rs Fl} (F : Fun K.K nm qual st f fd) (Sc : FnScope N pn (defScope st)) (hps : ps.length = pn.length := by rfl) (hle : ps.length ≤ N.length := by decide)
    (body : Bd P w K base qual st f N k dkP (MP ps N.length) M' fb) : FnOk P w K.K K.mg base (L2.CX P w) (k + 1) f fd pn (spV dkR K ps.length (fDefVO N.length ps fb)) := by
  refine F.okX Sc (fun vs H Q E h => ?_) (fun cdv A outer s H vs Q E hr h => ?_)
  · obtain ⟨_, _, _, _, h, _⟩ := h; exact h.trans hps
  · obtain ⟨O, φ, S, ds, hl, B, hd, w⟩ := h
    obtain ⟨t, p, q⟩ := body cdv A outer s H E hr (takes_of rfl rfl rfl rfl) (passes_of rfl)
    refine ⟨t, p, ?_⟩
    have ld : ds.length = ps.length := by rw [← VqAll.length hd, hl]
    obtain ⟨e1, e2⟩ := split_last (as := ds ++ [.list S]) (S := .list S) rfl ld
    unfold fDefVO at w
    rw [e2] at w
    dsimp only at w
    rw [e1] at w
    split at w
    rotate_left
    · exact (show False from w).elim
    rename_i hok
    have I : EOkF K (hide O H) H ⟨O, φ, false, fun _ => none⟩ (MP ps N.length) O φ H (L2.start N vs) (ρP N.length ds S) :=
      startS (VqAll.length hd) hok hle hd B.alive B.nod B.liv (Same.refl _) (fun p h => h) B.alive (fun p h => .inl h) rfl B.st
    refine q _ _ _ O H _ _ _ (fun z => by cases z) I.ok ?_
    generalize fb (ρP N.length ds S) = r at w ⊢
    cases r with
    | er e => exact fun H' cls dd σ s' x => w H' s' cls dd x
    | no => exact w
    | ok z =>
      cases z with
      | nx ρ => exact w.elim
      | ret d => exact fun H' v s h => w H' v s h
end
end FL
end
section
/-! FL, part 5: items of anything, unpacking, what the written part says of the own classes. -/
namespace FL
open PySem L2
section
variable {Rp : RP} {X : Cx} {W : L2.WX} {M M1 M2 M' : List Md} {e a b c tg o : Expr} {F F1 F2 F3 : List D → Rs D} {B1 : List D → Rs Bool} {S1 S2 : List D → Rs Fl} {es : List Expr} {A : List D → Rs (List D)} {pos pos' p : Pos} {st : Stmt} {rest body body2 : List Stmt} {n N j k : Nat} {x : Str} {G : List D → Rs D}
/-- the items of a list of the store, of a tuple (with references, too), of a plain list -/
def itemsN (n : Nat) (ρ : List D) (d : D) : Option (List D) := match refOf d with
  | some j => (match nodeAt n ρ j with
    | some (.list ds) => some ds
    | _ => none)
  | none => match d with
    | .tuple ds => some ds
    | .list ds => some ds
    | _ => none
def fIxA (n : Nat) (F1 F2 : List D → Rs D) : List D → Rs D := fun ρ => (F1 ρ).bind fun d => (F2 ρ).bind fun k => match itemsN n ρ d, k with
  | some ds, .int i => getAt ds i
  | _, _ => .no
theorem items_at {K : Tx} {G H0 H : Hp} {O0 : Out} {O : Addr → Prop} {φ : List Addr} {σ : L2.St} {ρ : List D} (I : EOkF K G H0 O0 M O φ H σ ρ) {v : V} {d : D} {ds : List D} (h : Vq K O φ H v d) (e : itemsN M.length ρ d = some ds) : ∃ p vs, v = .ref p ∧ (SqL K.K H p vs ∨ SqT K.K H p vs) ∧ VqAll K O φ H vs ds := by
  unfold itemsN at e
  split at e
  · rename_i j hj
    split at e
    · rename_i ds' hds
      cases e
      obtain ⟨S, p, rfl, _, _, _, _, _, _, h8⟩ := I.node h hj hds
      obtain ⟨vs, h9, h10⟩ := h8.lstI
      exact ⟨p, vs, rfl, .inl (SqL.of h9), h10⟩
    · cases e
  · rename_i hj
    split at e
    · rename_i ds'
      cases e
      cases h with
      | inl h => obtain ⟨j, a, e, _⟩ := h; cases e
      | inr h =>
        cases h with
        | tup h1 h2 => exact ⟨_, _, rfl, .inr (SqT.of (hide_sub _ _ h1)), VqAll.of h2⟩
      | tup h1 h2 => exact ⟨_, _, rfl, .inr (SqT.of (hide_sub _ _ h1)), h2⟩
    · rename_i ds'
      cases e
      cases h with
      | inl h => obtain ⟨j, a, e, _⟩ := h; cases e
      | inr h =>
        cases h with
        | lst h1 h2 => exact ⟨_, _, rfl, .inl (SqL.of (hide_sub _ _ h1)), VqAll.of h2⟩
    · cases e
theorem atI_vq {K : Tx} {O : Addr → Prop} {φ : List Addr} {H : Hp} {vs : List V} {ds : List D} (h : VqAll K O φ H vs ds) {i : Int} {d : D} (e : atI ds i = some d) : ∃ v, atI vs i = some v ∧ Vq K O φ H v d := by
  unfold atI at e ⊢
  rw [VqAll.length h]
  cases q : ixN ds.length i with
  | none => rw [q] at e; cases e
  | some m => rw [q] at e; exact VqAll.get h e
theorem ev_ixA (ha : EV X W M a F1) (hb : DE X W M b F2) (hn : n = M.length := by rfl) (hs : PlainIx b := by intro _ _; rfl) : EV X W M (.Subscript a b pos) (fIxA n F1 F2) := by
  subst hn
  obtain ⟨ta, pa, qa⟩ := ha
  obtain ⟨tb, pb, qb⟩ := hb
  refine ⟨_, pe_ix ix_seq pa pb hs, fun G H0 O0 O φ H σ ρ Q I w => qa G H0 O0 O φ H σ ρ _ I (Wnt.bind w fun d H1 x s1 hd w1 => qb G H0 O0 O H1 σ ρ _ (I.mono s1).ok (Wnt.bind w1 fun k H2 y s2 hk w2 => ?_))⟩
  have I2 := (I.mono s1).mono s2
  split at w2
  · rename_i ds i hds
    obtain ⟨p, vs, rfl, hp, hv⟩ := items_at I2 (vq_mono s2 hd) hds
    unfold getAt at w2
    split at w2
    · rename_i d1 h1
      cases hk
      obtain ⟨v, h2, h3⟩ := atI_vq hv h1
      rcases hp with hp | hp
      · exact .inl ⟨p, vs, i, v, rfl, rfl, hp, h2, w2.ok h3⟩
      · exact .inr (.inl ⟨p, vs, i, v, rfl, rfl, hp, h2, w2.ok h3⟩)
    · exact w2.elim
  · exact w2.elim
/-- len of such -/
def fLenA (n : Nat) (F : List D → Rs D) : List D → Rs D := fun ρ => (F ρ).bind fun d => match itemsN n ρ d with
  | some ds => .ok (.int ds.length)
  | none => .no
theorem de_lenA {p : Pos} (hg : Gl X "len") (hm : X.mg "len" = none) (ha : EV X W M a F) (hn : n = M.length := by rfl)
    (he : starEach (a :: []) X.env = (false, eval a X.env) :: starEach [] X.env := by rfl) (hpl : (backTo pos (starEach [] X.env)).any (·.1) = false := by rfl) : DE X W M (.Call (.Name "len" p) [a] [] pos) (fLenA n F) := by
  subst hn
  obtain ⟨t, pt, q⟩ := ha
  refine ⟨_, pe_callB call_len_seq hg hm (by decide +kernel) (pa_cons pt pa_nil he) (by decide) (by decide) he hpl, fun G H0 O0 O H σ ρ Q ⟨φ, I⟩ w => q G H0 O0 O φ H σ ρ _ I (Wnt.bind w fun d H1 v s1 hd w1 => ?_)⟩
  split at w1
  · rename_i ds hds
    obtain ⟨p, vs, rfl, hp, hv⟩ := items_at (I.mono s1) hd hds
    refine ⟨p, vs, rfl, hp, ?_⟩
    rw [VqAll.length hv]
    exact w1.ok (.int _)
  · exact w1.elim
end
/-- the own classes -/
structure ClsF (K : Tx) (C : Addr) (fs : List Str) : Prop where
  cls : Cls K.K C
  no : ∀ f ∈ fs, NoAttr K.K C f
theorem knownF_mem {c f : Str} (h : knownF c f = true) : ∃ fs, (c, fs) ∈ ctab ∧ f ∈ fs := by
  unfold knownF at h
  split at h
  · rename_i fs hfs
    refine ⟨fs, ?_, by simpa using h⟩
    have : ∀ {l : List (Str × List Str)}, l.lookup c = some fs → (c, fs) ∈ l := by
      intro l
      induction l with
      | nil => intro h; cases h
      | cons p r ih =>
        intro h
        rw [List.lookup_cons] at h
        by_cases e : (c == p.1) = true
        · rw [e] at h
          cases h
          rw [eq_of_beq e]; exact List.mem_cons_self
        · have e : (c == p.1) = false := by simpa using e
          rw [e] at h
          exact List.mem_cons_of_mem _ (ih h)
    exact this hfs
  · cases h
theorem clsOk_of {K : Tx} (h : ∀ p ∈ ctab, ∀ C, K.cl p.1 = some (.ref C) → ClsF K C p.2) : ClsOk K := fun c C hc f hf => by
  obtain ⟨fs, h1, h2⟩ := knownF_mem hf
  have := h _ h1 C hc
  exact ⟨this.cls, this.no f h2⟩
theorem cl_of {K : Tx} {c : Str} {v : Value} (h : K.mg c = some v) : K.cl c = some v := by unfold Tx.cl; rw [h]
theorem cl_no {K : Tx} {c : Str} (h : K.mg c = none) (h2 : c ≠ "Ground_dealing" ∧ c ≠ "Ground_verdict") : K.cl c = none := by
  unfold Tx.cl; rw [h]
  simp only
  rw [if_neg (fun z => z.elim h2.1 h2.2)]
theorem cl_gr {K : Tx} {c : Str} {v : Value} (h : K.mg c = none) (h2 : c = "Ground_dealing" ∨ c = "Ground_verdict") (h3 : K.mg "Ground" = some v) : K.cl c = some v := by
  unfold Tx.cl; rw [h]
  simp only
  rw [if_pos h2, h3]
theorem clsF_of {K : Tx} {c : Str} {C : Addr} {fs : List Str} (h : K.cl c = some (.ref C)) (f : ClsF K C fs) : ∀ C', K.cl c = some (.ref C') → ClsF K C' fs := fun C' h' => cl_inj h h' ▸ f
theorem clsF_no {K : Tx} {c : Str} {fs : List Str} (h : K.cl c = none) : ∀ C', K.cl c = some (.ref C') → ClsF K C' fs := fun C' h' => by rw [h] at h'; cases h'
theorem no_nil {p : Str → Prop} : ∀ f ∈ ([] : List Str), p f := fun _ h => by cases h
theorem no_cons {p : Str → Prop} {a : Str} {r : List Str} (h : p a) (h2 : ∀ f ∈ r, p f) : ∀ f ∈ a :: r, p f := fun f hf => by
  rcases List.mem_cons.mp hf with rfl | hf
  · exact h
  · exact h2 f hf
end FL
end
section
/-! FL, part m: a list walked by a comprehension, of the store or not. -/
namespace FL
open PySem L2
section
variable {X : Cx} {W : L2.WX} {M : List Md} {e tg : Expr} {F : List D → Rs D} {n : Nat}
def listA (n : Nat) (ρ : List D) (d : D) : Option (List D) := match refOf d with
  | some j => (match nodeAt n ρ j with
    | some (.list ds) => some ds
    | _ => none)
  | none => match d with
    | .list ds => some ds
    | _ => none
def fItA (n : Nat) (F : List D → Rs D) : List D → Rs (List D) := fun ρ => (F ρ).bind fun d => match listA n ρ d with
  | some ds => if pureD (.list ds) then .ok ds else .no
  | none => .no
theorem di_nodeA (h : EV X W M e F) (hn : n = M.length := by rfl) : DIc X W M tg e (fItA n F) := by
  subst hn
  obtain ⟨t, pt, q⟩ := h
  refine ⟨_, pi_list pt, fun G H0 O0 O H σ ρ R ⟨φ, I⟩ w => q G H0 O0 O φ H σ ρ _ I (Wnt.bind w fun d H1 v s1 hd w1 => ?_)⟩
  have I1 := I.mono s1
  cases hl : listA M.length ρ d with
  | none => rw [hl] at w1; exact w1.elim
  | some ds =>
    rw [hl] at w1
    dsimp only at w1
    by_cases hp : pureD (.list ds) = true
    · rw [if_pos hp] at w1
      unfold listA at hl
      cases hj : refOf d with
      | some j =>
        rw [hj] at hl
        dsimp only at hl
        cases hnd : nodeAt M.length ρ j with
        | none => rw [hnd] at hl; cases hl
        | some d0 =>
          rw [hnd] at hl
          cases d0 <;> first | (cases hl; done) | skip
          cases hl
          obtain ⟨S, a, rfl, _, _, _, _, _, _, h8⟩ := I1.node hd hj hnd
          obtain ⟨vs, h9, h10⟩ := h8.lstI
          have hq := h10.pure hp
          exact ⟨a, rfl, ⟨vs, SqL.of h9⟩, w1.ok (itOk_list fun O' H' s sb => ⟨vs, SqL.of (sb _ _ h9), DqAll.mono s hq⟩)⟩
      | none =>
        rw [hj] at hl
        cases d <;> first | (cases hl; done) | skip
        cases hl
        cases hd with
        | inl h => obtain ⟨j, a, e, _⟩ := h; cases e
        | inr h =>
          cases h with
          | lst h1 h2 => exact ⟨_, rfl, ⟨_, SqL.of (hide_sub _ _ h1)⟩, w1.ok (itOk_list fun O' H' s sb => ⟨_, SqL.of (sb _ _ (hide_sub _ _ h1)), DqAll.mono s h2⟩)⟩
    · rw [if_neg hp] at w1; exact w1.elim
/-- a slice of a tuple that may hold references; the cut holds none -/
def dSlR (d : D) (lo hi : Option Int) : Rs D := match d with
  | .tuple ds => if HT.sIx ds.length 0 lo = 0 ∧ HT.sIx ds.length ds.length hi = ds.length then .no else if hasRefAll (cutD ds lo hi) then .no else .ok (.tuple (cutD ds lo hi))
  | _ => .no
theorem VqAll.drop {K : Tx} {O : Addr → Prop} {φ : List Addr} {H : Hp} : ∀ {ds : List D} {vs : List V} (n : Nat), VqAll K O φ H vs ds → VqAll K O φ H (vs.drop n) (ds.drop n)
  | _, _, 0, h => h
  | _, _, _ + 1, .nil => .nil
  | _, _, n + 1, .cons _ t => VqAll.drop n t
theorem cut_vq {K : Tx} {O : Addr → Prop} {φ : List Addr} {H : Hp} {xs : List V} {ds : List D} (h : VqAll K O φ H xs ds) (lo hi : Option Int) : VqAll K O φ H (cutV xs lo hi) (cutD ds lo hi) := by
  unfold cutV cutD
  rw [VqAll.length h]
  exact VqAll.take _ (VqAll.drop _ h)
theorem de_sliceR {pos : Pos} {L U : List D → Rs (Option Int)} {lo hi : Option Expr} {p2 : Pos} (h : EV X W M e F) (hl : DPo X W M lo L) (hu : DPo X W M hi U) : DE X W M (.Subscript e (.Slice lo hi none p2) pos) (fSl dSlR F L U) := by
  obtain ⟨t, p, q⟩ := h
  obtain ⟨tl, pl, ql⟩ := hl
  obtain ⟨tu, pu, qu⟩ := hu
  refine ⟨_, pe_slice sl_tup p pl pu, fun G H0 O0 O H σ ρ Q ⟨φ, I⟩ w => q G H0 O0 O φ H σ ρ _ I (Wnt.bind w fun d H1 v s1 hd w1 => ql G H0 O0 O H1 σ ρ _ (I.mono s1).ok (Wnt.bind w1 fun l H2 l' s2 e2 w2 => qu G H0 O0 O H2 σ ρ _ ((I.mono s1).mono s2).ok (Wnt.bind w2 fun u H3 u' s3 e3 w3 => ?_)))⟩
  subst e2 e3
  have I3 := ((I.mono s1).mono s2).mono s3
  have hd3 : Vq X.T O φ H3 v d := vq_mono s3 (vq_mono s2 hd)
  unfold dSlR at w3
  split at w3
  · rename_i ds
    split at w3
    · exact w3.elim
    · rename_i hn
      split at w3
      · exact w3.elim
      · rename_i hr
        have hr : hasRefAll (cutD ds l' u') = false := by simpa using hr
        obtain ⟨p, xs, rfl, hp, ax⟩ : ∃ p xs, v = .ref p ∧ SqT X.T.K H3 p xs ∧ VqAll X.T O φ H3 xs ds := by
          cases hd3 with
          | inl h => obtain ⟨j, a, e, _⟩ := h; cases e
          | inr h =>
            cases h with
            | tup h1 h2 => exact ⟨_, _, rfl, SqT.of (hide_sub _ _ h1), VqAll.of h2⟩
          | tup h1 h2 => exact ⟨_, _, rfl, SqT.of (hide_sub _ _ h1), h2⟩
        refine ⟨p, xs, rfl, hp, by rw [VqAll.length ax]; exact hn, fun r hr' => w3 _ _ (same_upd hr') (.tup ?_ (DqAll.mono (hide_same (same_upd hr')) ((cut_vq ax _ _).pure0 hr)))⟩
        rw [hide_at (I3.ok.ne hr')]; exact upd_same
  · exact w3.elim
end
section
variable {P : RP} {pk : D → List D → D} {X : Cx} {W : L2.WX} {M : List Md} {tg : Expr} {pos : Pos} {n : Nat}
/-- y = [.. for ..] on one line, a node from here on -/
theorem dx_setLc {y : Str} {py : Pos} {elt iter : Expr} {ifs : List Expr} {scope : Scope} {spos : Pos} {it : List D → Rs (List D)} {g : D → List D → Option (List D)} {cf : List D → Rs Bool} {f : List D → Rs D} (i : Nat) (hc : X.calm = true) (hN : X.N.Nodup) (pko : PkOk P pk) (hsw : swapsWith (.ListComp elt [⟨tg, iter, ifs, 0⟩] scope pos) (some (.Name y py)) spos.line X.env = pure true)
    (hi : DIc X W M tg iter it) (own : List (Str × Nat)) (ok : BlkOk X.N X.env.scope scope own)
    (hg : ∀ i : BlkI, DG (Blk X scope i) (wipeM own M) tg (own.map (·.2)) g) (ht : ∀ i : BlkI, DTs (Blk X scope i) (mSeq (own.map (·.2)) (wipeM own M)) ifs cf) (he : ∀ i : BlkI, DE (Blk X scope i) W0 (mSeq (own.map (·.2)) (wipeM own M)) elt f)
    (hrw : P.rw = true := by rfl) (hn : n = M.length := by rfl)
    (hy : X.N[i]? = some y := by rfl) (hl : i < M.length := by decide) (hyl : X.env.scope.names.lookup y = some .local := by rfl) (hs : ∀ x, foldedSetIterable iter X.env x = pure x := by intro _; rfl) :
    DS P X W M (.Assign [.Name y py] (.ListComp elt [⟨tg, iter, ifs, 0⟩] scope pos) spos) (M.set i .vr) (fSetX n i pk (fNewE n (fComp it g cf f))) := by
  subst hn
  obtain ⟨wi, pi, qi⟩ := hi
  obtain ⟨tgr, ttr, ter, p1, p2, p3, q1, q2, q3⟩ := comp_parts hg ht he
  refine ⟨_, ps_setLc hc hN hy hyl hsw pi ok (fun s H C cl fp => p1 ⟨s, H, C, cl, fp⟩) (fun s H C cl fp => p2 ⟨s, H, C, cl, fp⟩) (fun s H C cl fp => p3 ⟨s, H, C, cl, fp⟩) hs, fun G H0 O0 O H σ ρ E rw ⟨φ, I⟩ w => ?_⟩
  refine comp_run (W := W) (M := M) (fun R => qi G H0 O0 O H σ ρ R ⟨φ, I⟩) q1 q2 q3 ⟨φ, I⟩ ?_
  unfold fSetX fNewE at w
  split at w
  · generalize fComp it g cf f ρ = r at w ⊢
    cases r with
    | er e => exact (show False from w).elim
    | no => exact (show False from w).elim
    | ok d =>
      rintro H' v s ⟨p, vs, ds, rfl, rfl, hp, h1, h2⟩
      cases e2 : ρ[M.length]? with
      | none => rw [e2] at w; exact (show False from w).elim
      | some dS =>
        rw [e2] at w
        cases dS <;> first | exact (show False from w).elim | skip
        rename_i S
        have J := I.stNew (d := .list ds) s hp (by rw [h1]; intro z; cases z) e2 fun sh => .lst h1 (VqAll.of h2)
        have w : EndOk P X.T W G H0 O0 (M.set i .vr) E (.ok (.nx ((ρ.set M.length (.list (S ++ [.list ds]))).set i (refD S.length)))) := w
        exact w _ _ _ (J.setV (m := .vr) hl rfl ⟨_, rfl, .inl ⟨S.length, p, rfl, by rw [← (I.stAt e2).len, List.getElem?_append_right (Nat.le_refl _), Nat.sub_self]; rfl, rfl⟩⟩).ok
  · exact w.elim
end
end FL
end
section
/-! FL, part n: try with any clauses; what was caught stays as a datum. -/
namespace FL
open PySem L2 PySem.Spec PyProof.Rows
theorem exH_ok {P : Program} {w : World} {H : Hp} {h : Heap} {a : Addr} {cls : Value} {d : Option Addr} {ob : Obj} {us : Array Value} (e : h.get? a = some ob) (z : Zc cls d ob) (f : ob.data = .fields us) : ObjOk P w H h a (ExH cls d a) :=
  ⟨⟨ob, us, e, z, f⟩, ⟨_, e⟩, fun h1 h2 q k => by
    obtain ⟨o, xs, q1, q2, q3⟩ := q
    exact ⟨o, xs, k _ q1, q2, q3⟩⟩
section
variable {X : Cx} {pins : List (Addr × Obj)} {σ : L2.St} {H : Hp} {s t : Shared} {a : Addr} {o : HO}
/-- an object that came since is told of from here on -/
theorem told (I : Inv X pins σ H s) (J : Inv X pins σ H t) (n : s.heap.get? a = none) (na : H a = none) (ok : ObjOk X.prog X.w (upd H a o) t.heap a o) : Inv X pins σ (upd H a o) t := by
  have ne : ∀ {b : Addr} {u : Obj}, s.heap.get? b = some u → b ≠ a := fun e z => by rw [z, n] at e; cases e
  refine ⟨J.ok, J.os, J.bare, ⟨J.base.keep, J.base.slot, fun b u e q x => ?_, J.base.there, fun b xs e => ?_, fun b u v e => ?_, fun b ps e => ?_⟩, J.loc, J.cell, ?_, fun x c e => ?_, fun p hp => ?_, J.hok.laidN (fun _ _ z => z) na ok, J.len⟩
  · obtain ⟨u2, e2⟩ := I.base.there b u e x
    rw [upd_ne (ne e2)]
    exact J.base.free b u e q x
  · have q := J.base.tups b xs e
    rw [upd_ne (ne_of_none q na)]; exact q
  · have q := J.base.frzs b u v e
    rw [upd_ne (ne_of_none q na)]; exact q
  · obtain ⟨more, q⟩ := J.base.tbls b ps e
    exact ⟨more, by rw [upd_ne (ne_of_none q na)]; exact q⟩
  · obtain ⟨m, ⟨u, es, ep, ho, _⟩, _⟩ := I.loc
    rw [upd_ne (ne ho)]; exact J.free
  · obtain ⟨v, hv⟩ := I.cell x c e
    have : ∃ u, s.heap.get? c = some u := by
      first
        | exact ⟨_, hv.choose_spec⟩
        | (obtain ⟨u, hu, _⟩ := hv; exact ⟨u, hu⟩)
        | exact ⟨_, hv⟩
    obtain ⟨u, hu⟩ := this
    rw [upd_ne (ne hu)]; exact J.freeC x c e
  · obtain ⟨q1, q2, q3⟩ := J.pin p hp
    exact ⟨q1, by rw [upd_ne (ne (I.pin p hp).1)]; exact q2, q3⟩
/-- into a suite, and out -/
theorem inSuite (J : Inv X pins σ H s) (a : Addr) : Inv (X.suite a (X.pn ++ pins)) [] σ H s :=
  ⟨J.ok.suite _ _, J.os, J.bare, J.base, J.loc, J.cell, J.free, J.freeC, fun p hp => J.pin p (by rw [List.append_nil] at hp; exact hp), J.hok, J.len⟩
theorem outSuite (ok : X.Ok) (J : Inv (X.suite a (X.pn ++ pins)) [] σ H s) : Inv X pins σ H s :=
  ⟨ok, J.os, J.bare, J.base, J.loc, J.cell, J.free, J.freeC, fun p hp => J.pin p (by rw [List.append_nil]; exact hp), J.hok, J.len⟩
end
/-- in flight still, where more lies in the heap -/
theorem fly_more {B h h' : Heap} {l : List Env} {e : Addr} {Z : Obj → Prop} (x : HandSPX.FlyingZ B l e Z h) (k : ∀ b o, h.get? b = some o → h'.get? b = some o) : HandSPX.FlyingZ B l e Z h' := by
  obtain ⟨x1, x2, x3, oe, vs, T, oT, ts, y1, y2, y3, y4, y5, y6, y7, y8, y9⟩ := x
  exact ⟨fun b o q => k b o (x1 b o q), x2, x3.of_keeps fun b o q _ => ⟨o, k b o q, rfl⟩, oe, vs, T, oT, ts, k _ _ y1, y2, y3, y4, y5, y6, k _ _ y7, y8, y9⟩
/-- a clause: the classes that it names, the slot of its name, its suite -/
structure Cl where
  cs : List Value
  nm : Option Nat
  ts : Addr → TS
/-- a name goes behind a suite -/
def gone (i : Nat) (D : Ends) : Ends := { nx := fun σ H => D.nx (σ.set i none) H, rt := D.rt, bk := fun σ H => D.bk (σ.set i none) H, ct := fun σ H => D.ct (σ.set i none) H }
def Cl.run (c : Cl) (a : Addr) (D : Ends) (σ : L2.St) (H : Hp) : Prop := match c.nm with
  | none => c.ts a D σ H
  | some i => c.ts a (gone i D) (σ.set i (some (.ref a))) H
def wDo (K : PySem.W.Frag) (Wo : L2.WX) (D : Ends) : List Cl → L2.WX
  | [] => Wo
  | c :: r => fun cls d σ H => ∃ b, PySem.W.exmAny K cls c.cs = some b ∧ (b = true → ∀ a, H a = none → c.run a D σ (upd H a (ExH cls d a))) ∧ (b = false → wDo K Wo D r cls d σ H)
/-- the test of a clause: what is named, and whether the exception is of it -/
def Tst (X : Cx) (ty : Expr) (cs : List Value) : Prop :=
  ∀ (a : Addr) (pn : List (Addr × Obj)) (σ : L2.St) (H : Hp) (s : Shared) (cls : Value) (b : Bool) (Q : Bool → Shared → Prop) (E : Value → Shared → Prop), Inv (X.suite a pn) [] σ H s → PySem.W.Looks (model X.prog X.w) s.heap (typeOf (.ref a)) cls → PySem.W.exmAny X.K cls cs = some b →
    (∀ h', (∀ q o, s.heap.get? q = some o → h'.get? q = some o) → Q b { s with heap := h' }) → wpAny (model X.prog X.w) (X.A.mark (some (.ref a))) (eval ty X.env) (fun c s1 => wpAny (model X.prog X.w) (X.A.mark (some (.ref a))) (excMatches (.ref a) c) Q E s1) E s
section
variable {X : Cx} {x x2 x3 x4 : Str} {c c2 c3 c4 : Value} {p p2 p3 p4 pt : Pos} {k : Nat}
theorem tst_ld {a : Addr} {pn : List (Addr × Obj)} {σ : L2.St} {H : Hp} {s : Shared} {Q : Value → Shared → Prop} {E : Value → Shared → Prop} (n : Names X x c) (I : Inv (X.suite a pn) [] σ H s) (q : Q c s) : wpAny (model X.prog X.w) (X.A.mark (some (.ref a))) (eval (.Name x p) X.env) Q E s := by
  rcases n with ⟨g, db, z | ⟨z, v, nn⟩⟩
  · exact ld_glob (X := X.suite a pn) I g z q db
  · exact ld_blt (X := X.suite a pn) I g z v q nn db
theorem tst_name (n : Names X x c) : Tst X (.Name x p) [c] := fun a pn σ H s cls b Q E I LT he q => by
  obtain ⟨b1, d1, e1, e2, e3⟩ := PySem.W.exmAny_cons he
  have e4 : d1 = false := by
    have : PySem.W.exmAny X.K cls [] = some false := rfl
    rw [this] at e2; cases e2; rfl
  rw [e4, Bool.or_false] at e3
  rw [← e3] at e1
  exact tst_ld n I ((PySem.W.exm_one (M := model X.prog X.w) I.kIn LT e1).here (q s.heap fun _ _ z => z))
theorem tst_3 (n : Names X x c) (n2 : Names X x2 c2) (n3 : Names X x3 c3) : Tst X (.Tuple [.Name x p, .Name x2 p2, .Name x3 p3] k pt) [c, c2, c3] := fun a pn σ H s cls b Q E I LT he q => by
  refine wpAny_Tuple ?_
  refine wpAny_items_cons (tst_ld n I (wpAny_items_cons (tst_ld n2 I (wpAny_items_cons (tst_ld n3 I (wpAny_items_nil ⟨by size_fits, ?_⟩))))))
  have kp : ∀ b o, s.heap.get? b = some o → (s.heap.push { cls := .type "tuple", data := .seq [c, c2, c3].toArray }).get? b = some o := fun _ _ z => Heap.get?_push_of_some _ z
  exact (PySem.W.exm_tup3 (I.kIn.keeps kp) (LT.keeps kp) (Heap.get?_push_size s.heap rfl) he).here (q _ kp)
theorem tst_4 (n : Names X x c) (n2 : Names X x2 c2) (n3 : Names X x3 c3) (n4 : Names X x4 c4) : Tst X (.Tuple [.Name x p, .Name x2 p2, .Name x3 p3, .Name x4 p4] k pt) [c, c2, c3, c4] := fun a pn σ H s cls b Q E I LT he q => by
  refine wpAny_Tuple ?_
  refine wpAny_items_cons (tst_ld n I (wpAny_items_cons (tst_ld n2 I (wpAny_items_cons (tst_ld n3 I (wpAny_items_cons (tst_ld n4 I (wpAny_items_nil ⟨by size_fits, ?_⟩))))))))
  have kp : ∀ b o, s.heap.get? b = some o → (s.heap.push { cls := .type "tuple", data := .seq [c, c2, c3, c4].toArray }).get? b = some o := fun _ _ z => Heap.get?_push_of_some _ z
  exact (PySem.W.exm_tup4 (I.kIn.keeps kp) (LT.keeps kp) (Heap.get?_push_size s.heap rfl) he).here (q _ kp)
end
inductive Hdl (X : Cx) : List ExceptHandler → List Cl → Prop
  | nil : Hdl X [] []
  | bare {ty : Expr} {cs : List Value} {ts : Addr → TS} {b₀ : Stmt} {bs : List Stmt} {p : Pos} {hds : List ExceptHandler} {l : List Cl} (t : Tst X ty cs) (su : ∀ (a : Addr) (pn : List (Addr × Obj)), PSs (X.suite a pn) (b₀ :: bs) (ts a)) (r : Hdl X hds l) :
      Hdl X (.ExceptHandler (some ty) none (b₀ :: bs) p :: hds) (⟨cs, none, ts⟩ :: l)
  | nmd {ty : Expr} {cs : List Value} {ts : Addr → TS} {n : Str} {i : Nat} {b₀ : Stmt} {bs : List Stmt} {p : Pos} {hds : List ExceptHandler} {l : List Cl} (hN : X.N.Nodup) (hi : X.N[i]? = some n) (hl : X.env.kindOf n = some .local) (t : Tst X ty cs) (su : ∀ (a : Addr) (pn : List (Addr × Obj)), PSs (X.suite a pn) (b₀ :: bs) (ts a)) (r : Hdl X hds l) :
      Hdl X (.ExceptHandler (some ty) (some n) (b₀ :: bs) p :: hds) (⟨cs, some i, ts⟩ :: l)
section
variable {X : Cx} {body : List Stmt} {h₀ : ExceptHandler} {hds : List ExceptHandler} {l : List Cl} {pos : Pos} {tb : L2.WX → TS} {Wo : L2.WX}
theorem ps_tryX (st : X.stack = X.env :: X.outer) (fr : X.env.frame = some X.env.locals) (tk : Takes X Wo)
    (hb : ∀ (W : L2.WX) (pn : List (Addr × Obj)) (xe : Value → Shared → Prop), Takes (X.tr pn xe) W → PassesOwn (model X.prog X.w) X.A X.env xe → PSs (X.tr pn xe) body (tb W))
    (hh : Hdl X (h₀ :: hds) l) : PS X (.Try body (h₀ :: hds) [] [] pos) (fun D σ H => tb (wDo X.K Wo D l) D σ H) := by
  refine ⟨fun pins s σ H D I h => ?_⟩
  have ok := I.ok
  have af : X.A.frames = some (X.env :: X.outer) := by rw [ok.frames, st]
  refine wpAny_Try_except ?_
  refine wpAny_mono ((hb (wDo X.K Wo D l) (X.pn ++ pins) (fun e s1 => wpAny (model X.prog X.w) X.A (noteFrame e X.env) (fun _ s2 => wpAny (model X.prog X.w) X.A (setFlight e none) (fun _ s3 =>
    wpAny (model X.prog X.w) X.A (handleBy e X.env (h₀ :: hds)) (SP X pins D) X.xe s3) X.xe s2) X.xe s1) (fun u r xx => ?_) PassesOwn.looking).run [] s σ H D (I.toTry _) h) (fun f s1 q => ?_) (fun e s1 he => he)
  · obtain ⟨a, B, sI, pq, σ1, H1, cls, d, rfl, J0, nb, up, sky, na, os, ag, w⟩ := xx
    have J : Inv X pins σ1 H1 sI := J0.ofTry ok
    have sky : Sky B (X.env :: X.outer) a (Zc cls d) X.env.locals r.heap := by rw [← st]; exact sky
    show wpAny (model X.prog X.w) X.A (noteFrame (.ref a) X.env) _ _ _
    refine Sky.land Zc.steady af fr sky fun g0 f0 u0 => ?_
    have away : ∀ {g : Heap}, HandSPX.FlyingZ B (X.env :: X.outer) a (Zc cls d) g → sI.heap.get? a = none := fun {g} fl => by
      obtain ⟨ob, us, e1, _, e3⟩ := fl.there
      have nfr : a ∉ frs (X.env :: X.outer) := fun z => by
        obtain ⟨_, o2, e4, e5⟩ := fl.2.2.1.mem z
        rw [e1] at e4; cases e4
        exact e5 _ e3
      cases q : sI.heap.get? a with
      | none => rfl
      | some o =>
        have z := nb a o q (by rw [st]; exact nfr)
        rw [fl.2.1] at z; cases z
    have aw := away f0
    have go : ∀ {hs : List ExceptHandler} {m : List Cl}, Hdl X hs m → wDo X.K Wo D m cls d σ1 H1 → ∀ g : Heap, HandSPX.FlyingZ B (X.env :: X.outer) a (Zc cls d) g → sI.heap.UpToSlots g →
        wpAny (model X.prog X.w) X.A (handleBy (.ref a) X.env hs) (SP X pins D) X.xe { r with heap := g } := by
      intro hs m hk
      have tst : ∀ {ty : Expr} {cs : List Value} {b : Bool} {g : Heap} {Q : Bool → Shared → Prop} {E : Value → Shared → Prop}, Tst X ty cs → PySem.W.exmAny X.K cls cs = some b → HandSPX.FlyingZ B (X.env :: X.outer) a (Zc cls d) g → sI.heap.UpToSlots g →
          (∀ g', HandSPX.FlyingZ B (X.env :: X.outer) a (Zc cls d) g' → sI.heap.UpToSlots g' → Q b { r with heap := g' }) →
          wpAny (model X.prog X.w) (X.A.mark (some (.ref a))) (eval ty X.env) (fun c s1 => wpAny (model X.prog X.w) (X.A.mark (some (.ref a))) (excMatches (.ref a) c) Q E s1) E { r with heap := g } := fun {ty cs b g Q E} t e fl ug hq => by
        have Jg : Inv X pins σ1 H1 { r with heap := g } := J.landed nb fl.1 ug os ag
        obtain ⟨ob, us, e1, e2, e3⟩ := fl.there
        exact t a (X.pn ++ pins) σ1 H1 { r with heap := g } cls b Q E (inSuite Jg a) (fun A Q E s k q => wpAny_typeOf_ref (k _ _ e1) (by rw [e2.1]; exact q)) e fun g' k => hq g' (fly_more fl k) (ug.trans (Heap.UpToSlots.of_keeps k))
      have enter : ∀ {g : Heap}, HandSPX.FlyingZ B (X.env :: X.outer) a (Zc cls d) g → sI.heap.UpToSlots g → Inv (X.suite a (X.pn ++ pins)) [] σ1 (upd H1 a (ExH cls d a)) { r with heap := g } := fun {g} fl ug => by
        have Jg : Inv X pins σ1 H1 { r with heap := g } := J.landed nb fl.1 ug os ag
        obtain ⟨ob, us, e1, e2, e3⟩ := fl.there
        exact inSuite (told J Jg aw na (exH_ok e1 e2 e3)) a
      induction hk with
      | nil =>
        intro w g fl ug
        refine wpAny_handleBy_nil ?_
        obtain ⟨_, _, _, ob, us, T, oT, ts, e1, _, e3, e4, _⟩ := id fl
        unfold PySem.passOn
        refine wpAny_bind (wpAny_field e1 e3 e4 ?_)
        rw [if_neg (show ¬ ((Value.ref T == Value.none) = true) by simp)]
        have fin : wpAny (model X.prog X.w) X.A (setFlight (.ref a) X.env.frame) (fun _ s4 => wpAny (model X.prog X.w) X.A (throw (.ref a) : Sem Flow) (SP X pins D) X.xe s4) X.xe { r with heap := g } := by
          rw [fr]
          exact HandSPX.setFlight_upZ fl fun g2 h2 u2 => wpAny_throw (tk _ _ ⟨a, B, sI, pins, σ1, H1, cls, d, rfl, J, nb, ug.trans u2, .inr (.inr (by rw [st]; exact h2)), na, os, ag, w⟩)
        first
          | exact wpAny_bind (wpAny_pure (wpAny_bind fin))
          | exact wpAny_bind fin
      | @bare ty cs ts b₀ bs p hds m t su _ ih =>
        rintro ⟨b, hb, yes, no⟩ g fl ug
        refine wpAny_handleBy_cons (codeAny_handlers_test ?_) (by intro q; cases q)
        refine tst t hb fl ug fun g1 f1 u1 => ?_
        cases b with
        | false =>
          show wpAny _ X.A (handleBy (.ref a) X.env hds) _ _ _
          exact ih (no rfl) g1 f1 u1
        | true =>
          refine codeAny_handlers_suite ?_
          refine HandSPX.lands_againZ f1 fun g2 f2 u2 => ?_
          refine wpAny_mono ((su a (X.pn ++ pins)).run [] _ _ _ _ (enter f2 (u1.trans u2)) (yes rfl a na)) (fun f s6 q => ?_) (fun _ _ z => False.elim z)
          cases f with
          | ret u => obtain ⟨v, σ6, H6, S6, q1, q2⟩ := q; exact ⟨_, _, _, outSuite ok S6, q1, q2⟩
          | next => obtain ⟨σ6, H6, S6, q⟩ := q; exact ⟨_, _, outSuite ok S6, q⟩
          | brk => obtain ⟨σ6, H6, S6, q⟩ := q; exact ⟨_, _, outSuite ok S6, q⟩
          | cont => obtain ⟨σ6, H6, S6, q⟩ := q; exact ⟨_, _, outSuite ok S6, q⟩
      | @nmd ty cs ts n i b₀ bs p hds m hN hi hl t su _ ih =>
        rintro ⟨b, hb, yes, no⟩ g fl ug
        refine wpAny_handleBy_cons (codeAny_handlers_test ?_) (by intro q; cases q)
        refine tst t hb fl ug fun g1 f1 u1 => ?_
        cases b with
        | false =>
          show wpAny _ X.A (handleBy (.ref a) X.env hds) _ _ _
          exact ih (no rfl) g1 f1 u1
        | true =>
          refine codeAny_handlers_suite_as ?_
          refine HandSPX.lands_againZ f1 fun g2 f2 u2 => ?_
          refine store_ok (X := X.suite a (X.pn ++ pins)) (v := .ref a) (enter f2 (u1.trans u2)) hN hi (.inl hl) rfl (fun s5 S5 => ?_) (.inr hl)
          refine wpAny_mono ((su a (X.pn ++ pins)).run [] s5 _ _ _ S5 (yes rfl a na)) (fun f s6 q => ?_) (fun _ _ z => False.elim z)
          have fin : ∀ {σ6 : L2.St} {H6 : Hp} {Q : Shared → Prop}, Inv (X.suite a (X.pn ++ pins)) [] σ6 H6 s6 → (∀ s7, Inv X pins (σ6.set i none) H6 s7 → Q s7) →
              wpAny (model X.prog X.w) X.A (do bindName X.env n .none; unbindBehindTheSuite X.env n p) (fun _ s7 => Q s7) X.xe s6 := fun {_ _ _} S6 hq => gone_ok (outSuite ok S6) hN hi hl hq
          cases f with
          | ret u => obtain ⟨v, σ6, H6, S6, q1, q2⟩ := q; exact fin S6 fun s7 J7 => ⟨_, _, _, J7, q1, q2⟩
          | next => obtain ⟨σ6, H6, S6, q⟩ := q; exact fin S6 fun s7 J7 => ⟨_, _, J7, q⟩
          | brk => obtain ⟨σ6, H6, S6, q⟩ := q; exact fin S6 fun s7 J7 => ⟨_, _, J7, q⟩
          | cont => obtain ⟨σ6, H6, S6, q⟩ := q; exact fin S6 fun s7 J7 => ⟨_, _, J7, q⟩
    exact go hh w g0 f0 (up.trans u0)
  · cases f with
    | ret u => obtain ⟨v, σ6, H6, S6, q1, q2⟩ := q; exact ⟨v, σ6, H6, S6.ofTry ok, q1, q2⟩
    | next => obtain ⟨σ6, H6, S6, q⟩ := q; exact wpAny_execs_nil ⟨σ6, H6, S6.ofTry ok, q⟩
    | brk => obtain ⟨σ6, H6, S6, q⟩ := q; exact ⟨σ6, H6, S6.ofTry ok, q⟩
    | cont => obtain ⟨σ6, H6, S6, q⟩ := q; exact ⟨σ6, H6, S6.ofTry ok, q⟩
end
end FL
end
section
/-! FL, part o: errors as data: their fields, isinstance, raise, try. -/
namespace FL
open PySem L2 PySem.Spec PyProof.Rows PySem.W
section
open PySem.Calls
variable {prog : Program} {w : World} {A : Around} {E : Value → Shared → Prop} {s : Shared} {K : Frag} {x D : Addr} {ox : Obj} {od : Option Obj}
theorem find_cls {N : Str} {a g : Value} (c : (clsIn K D).isSome = true) (h : findIn K (.ref D) N = some (some a)) (hg : specialIn K a "__get__" = some (some g)) (t : takesIn K a = some true) : findObj K D od N = some (.bind g a) := by
  obtain ⟨cd, c⟩ := Option.isSome_iff_exists.mp c
  unfold findObj
  rw [c, Option.bind_some, h, Option.bind_some]
  simp [hg, t]
/-- x.__class__ of an error, with a dict or none -/
theorem ask_cls {Q : Option Value → Shared → Prop} (C : ExcC K D) (X : K.In s.heap) (I : InstAt s.heap x ox D od) (q : Q (some (.ref D)) { s with toks := s.toks + 1 }) : wpAny (model prog w) A (getAttr? (.ref x) "__class__") Q E s := by
  obtain ⟨ga, gk, sb, dc, ha, hn, ht, hm⟩ := C
  have f0 : findObj K D od "__class__" = some (.bind (.builtin "getset_descriptor.__get__") (.builtin "object.__class__")) := find_cls (by obtain ⟨cd, c, _⟩ := any_some dc; rw [c]; rfl) ha hn ht
  obtain ⟨h0, g, d, t, os⟩ := s
  have lt := I.type (M := model prog w)
  have l1 := looks_findIn (M := model prog w) X ga
  have l2 := looks_findIn (M := model prog w) X gk
  have l3 := looks_find (M := model prog w) X I f0
  have base : Looks (model prog w) h0 (isInstance (.ref x) (.type "BaseException")) true := lt.andThen (looks_subIn X sb)
  have n2 : (Value.builtin "BaseException.__getattribute__" == Value.builtin "object.__getattribute__") = false := by decide +kernel
  have n1 : (onTheHeap (Value.ref D) && Value.builtin "BaseException.__getattribute__" == Value.builtin "object.__getattribute__") = false := by rw [n2]; rfl
  have n0 : (false && onTheHeap (Value.builtin "BaseException.__getattribute__")) = false := rfl
  unfold getAttr? getAttrBy? getAttrBy
  refine wpAny_bind (wpAny_mkText (wpAny_bind (wpAny_attempt (wpAny_holding (wpAny_bind (lt.at (wpAny_bind (l1.at ?_))))))))
  show wpAny _ _ (if (onTheHeap (Value.ref D) && Value.builtin "BaseException.__getattribute__" == Value.builtin "object.__getattribute__") = true then _ else _) _ _ _
  rw [n1, if_neg Bool.false_ne_true]
  unfold getAttrByItsOwn hookBefore
  refine wpAny_bind ?_
  rw [if_pos (show onTheHeap (Value.ref D) = true from rfl)]
  refine l2.at (wpAny_bind (wpAny_attempt (wpAny_holding ?_)))
  unfold callGetattribute
  rw [n0, if_neg Bool.false_ne_true]
  unfold boundAndCalled
  rw [PySem.F.excAttr_ValueError.ga.bind (.ref x)]
  refine wpAny_bind (wpAny_pure ?_)
  show wpAny _ _ (call (.builtin "BaseException.__getattribute__") [.ref x, .str "__class__" t]) _ _ _
  refine wpAny_call (codeAny_call_builtin PySem.F.excAttr_ValueError.ga.plain PySem.F.entry_bexc_ga (@check_slot (model prog w) _ _ ⟨h0, g, d, t + 1, os⟩ "BaseException.__getattribute__" "BaseException" "__getattribute__" (.ref x) [.str "__class__" t] [] _ (by decide +kernel) (by decide +kernel) base (PySem.F.args_bexc_ga (.ref x) (.str "__class__" t)) ?_))
  unfold Builtin.«object.__getattribute__»
  refine wpAny_bind (wpAny_of_eq (a := ((Value.ref x : Value), [Value.str "__class__" t])) (by first | rfl | (simp only [slotArgs]; rfl)) (wpAny_bind (wpAny_pure (wpAny_bind (lt.at (wpAny_bind (l3.at ?_)))))))
  show wpAny _ _ (holding [Value.builtin "object.__class__"] (call (.builtin "getset_descriptor.__get__") [.builtin "object.__class__", .ref x, .ref D]) >>= ret) _ _ _
  refine wpAny_bind (wpAny_holding (wpAny_call (class_get (s := ⟨h0, g, d, t + 1, os⟩) (ox := ox) (od := od) X I hm (wpAny_pure ?_))))
  show wpAny _ _ (handedOut (.ref D)) _ _ _
  rw [handedOut_of (v := .ref D) rfl]
  first
    | exact wpAny_pure (wpAny_pure q)
    | exact wpAny_pure q
    | exact wpAny_pure (wpAny_bind (wpAny_pure (wpAny_pure q)))
theorem cls_there (C : ExcC K D) : ∃ c' d' cd' sl', K.lookup D = some ⟨c', d', .cls cd', sl'⟩ := by
  obtain ⟨cd, hc, _⟩ := any_some C.hd
  unfold clsIn at hc
  split at hc
  · exact ⟨_, _, _, _, by assumption⟩
  · cases hc
theorem kitX_exc (C : ExcC K D) : KitX K (.ref x) (.ref D) (fun h => InstAt h x ox D od) where
  ty := fun _ _ _ I => I.type
  it := fun _ _ X _ => by
    obtain ⟨_, _, _, _, o⟩ := cls_there C
    intro A' Q' E' s' k q
    unfold isType loadHead
    exact wpAny_bind (wpAny_loadPart (k _ _ (X _ _ o)) (wpAny_pure q))
  ne := fun h tp dd its n sl X z => by
    obtain ⟨_, _, _, _, o⟩ := cls_there C
    refine Bool.eq_false_iff.mpr fun q => ?_
    cases Value.ref.inj (beq_iff_eq.mp q)
    cases (X _ _ o).symm.trans z
  ca := fun X I k => ask_cls C X I k
end
/-! ### an error of the heap's picture -/
/-- its own dict stands -/
def XdAt (H : Hp) (d : Option Addr) : Prop := ∀ dd, d = some dd → ∃ fs, H dd = some (.xd fs)
theorem xdAt {H : Hp} {d : Option Addr} {fs : List (Str × V)} (h : XdOk H d fs) : XdAt H d := fun dd e => by
  subst e; exact ⟨fs, h⟩
section
variable {X : Cx} {pins : List (Addr × Obj)} {σ : L2.St} {H : Hp} {s : Shared}
theorem exH_inst {a C : Addr} {d : Option Addr} (I : Inv X pins σ H s) (h : H a = some (ExH (.ref C) d a)) (xd : XdAt H d) : ∃ ob od, InstAt s.heap a ob C od := by
  obtain ⟨⟨ob, us, e1, e2, e3⟩, _⟩ := (show ObjOk X.prog X.w H s.heap a (.ext _) from I.hok a _ h)
  have nc : notCls ob = true := by unfold notCls; rw [e3] <;> rfl
  cases d with
  | none => exact ⟨ob, none, e1, e2.1, nc, by rw [e2.2]; trivial⟩
  | some dd =>
    obtain ⟨fs, h2⟩ := xd dd rfl
    obtain ⟨m, hns, _⟩ := (show ObjOk X.prog X.w H s.heap dd (.xd fs) from I.hok dd _ h2)
    obtain ⟨od, ho, _⟩ := lookIn_ns hns
    exact ⟨ob, some od, e1, e2.1, nc, by rw [e2.2]; exact ho⟩
/-- isinstance(e, c) of an error -/
def rIsH (K : Frag) : List V → Hp → VK → Prop := fun xs H Q => ∃ (a C : Addr) (d : Option Addr) (c : V) (u : Value) (b : Bool), xs = [.ref a, c] ∧ H a = some (ExH (.ref C) d a) ∧ XdAt H d ∧ ExcC K C ∧ ClsV c u ∧ kitOne K (.ref C) u = some b ∧ Q (.bl b) H
theorem call_isH : CallR X (.builtin "isinstance") (fun xs H Q => rIsi X.K xs H Q ∨ rIsH X.K xs H Q) := by
  intro pins s σ H xs us Q I r h
  rcases h with h | ⟨a, C, d, c, u, b, rfl, ha, xd, ec, k, e, q⟩
  · exact call_isi pins s σ H xs us Q I r h
  · obtain ⟨u1, u2, rfl, r1, r2⟩ := vals2 r
    cases (show u1 = Value.ref a from r1)
    cases k.eq r2
    obtain ⟨ob, od, J⟩ := exH_inst I ha xd
    exact kia_one (kitX_exc ec) I.kIn J e (fun z => nomatch z) fun tk => ⟨.bl b, H, I.tok tk, rfl, q⟩
/-- e.f of an error -/
def tXh (K : Frag) (f : Str) (te : TE) : TE := fun σ H Q => te σ H fun x H1 => ∃ (a C dd : Addr) (fs : List (Str × V)) (v : V), x = .ref a ∧ H1 a = some (ExH (.ref C) (some dd) a) ∧ XfC K C ∧ findIn K (.ref C) f = some none ∧ H1 dd = some (.xd fs) ∧ fs.lookup f = some v ∧ Q v H1
theorem pe_xh {e : Expr} {te : TE} {n : Str} {pos : Pos} (he : PE X e te) (hb : attributeBase e n X.env (eval e X.env) = eval e X.env := by rfl) : PE X (.Attribute e n pos) (tXh X.K n te) := by
  refine ⟨fun pins s σ H Q I h => ?_⟩
  refine attr_of hb (thn (he.run pins s σ H _ I h) fun u s1 hh => ?_)
  obtain ⟨x, H1, I1, rx, a, C, dd, fs, v, rfl, ea, T, no, ed, l, q⟩ := hh
  cases (show u = Value.ref a from rx)
  obtain ⟨⟨ob, us, e1, e2, e3⟩, _⟩ := (show ObjOk X.prog X.w H1 s1.heap a (.ext _) from I1.hok a _ ea)
  obtain ⟨m, hns, hr⟩ := (show ObjOk X.prog X.w H1 s1.heap dd (.xd fs) from I1.hok dd _ ed)
  obtain ⟨od, ho, hl⟩ := lookIn_ns hns
  obtain ⟨y, hy, ry⟩ := RelO.some_of (v := v) (o := m n) (by rw [← l]; exact hr n)
  have J : InstAt s1.heap a ob C (some od) := ⟨e1, e2.1, by unfold notCls; rw [e3] <;> rfl, by rw [e2.2]; exact ho⟩
  exact HandSPX.exc_get I1.kIn J T.ga T.gg T.exC (findObj_own T.hdC no rfl (by rw [hl, hy])) (handed_of ry) ⟨v, H1, I1.tok _, ry, q⟩
/-- an error that is made is a value like others -/
def tMkV (t : L2.St → Hp → XK → Prop) : TE := fun σ H Q => t σ H fun cls d H1 => ∀ a, H1 a = none → Q (.ref a) (upd H1 a (ExH cls d a))
theorem pe_mkV {e : Expr} {t : L2.St → Hp → XK → Prop} (h : PMk X e t) : PE X e (tMkV t) := by
  refine ⟨fun pins s σ H Q I q => wpAny_mono (h pins s σ H _ I q) (fun u s' hm => ?_) fun _ _ z => z⟩
  obtain ⟨a, ob, us, sI, H1, cls, d, rfl, J, k, n, ha, hz, hd, _, na, os, ag, _, q⟩ := hm
  have up : sI.heap.UpToSlots s'.heap := Heap.UpToSlots.of_keeps k
  have J2 : Inv X pins σ H1 s' := J.landed (B := sI.heap) (fun _ _ z _ => z) k up os ag
  exact ⟨.ref a, _, told J J2 n na (exH_ok ha hz hd), rfl, q a na⟩
end
/-! ### data -/
def asExc : D → Option (Str × List (Str × D))
  | .dict ((.bool false, .str c) :: r) => (fldsOf r).map fun fs => (c, fs)
  | _ => none
theorem fldsOf_inv : ∀ {r : List (D × D)} {fs : List (Str × D)}, fldsOf r = some fs → r = fs.map fun p => (.str p.1, p.2)
  | [], fs, h => by cases h; rfl
  | (k, d) :: r, fs, h => by
    cases k <;> first | (cases h; done) | skip
    obtain ⟨gs, e1, e2⟩ := Option.map_eq_some_iff.mp (show (fldsOf r).map _ = some fs from h)
    cases e2
    rw [fldsOf_inv e1]; rfl
theorem asExc_exc {c : Str} {fs : List (Str × D)} : asExc (excD c fs) = some (c, fs) := by
  unfold excD asExc
  simp only
  rw [fldsOf_map]; rfl
theorem asExc_some {d : D} {c : Str} {fs : List (Str × D)} (h : asExc d = some (c, fs)) : d = excD c fs := by
  unfold asExc at h
  split at h
  · rename_i k r
    obtain ⟨gs, e1, e2⟩ := Option.map_eq_some_iff.mp h
    cases e2
    unfold excD
    rw [fldsOf_inv e1]
  · cases h
/-- the errors' own classes, and what is a class of what -/
def xnames : List Str := ["NoText", "TooMany", "NoPlan", "NoName", "NoRow"]
def excIs (c x : Str) : Bool := c == x || x == ("CourtError" : Str) || x == ("ValueError" : Str)
def xfld (c f : Str) : Bool := (c == ("NoText" : Str) && f == ("row" : Str)) || (c == ("TooMany" : Str) && f == ("most" : Str)) || ((c == ("NoPlan" : Str) || c == ("NoName" : Str)) && f == ("name" : Str))
/-- the value by which a class is named -/
def NmV (K : Tx) (x : Str) (v : Value) : Prop := (x ∈ ("CourtError" : Str) :: xnames ∧ K.mg x = some v) ∨ (x = ("ValueError" : Str) ∧ v = .type "ValueError")
/-- what the written part says of the errors' classes -/
structure ExcT (K : Tx) : Prop where
  ve : K.mg "ValueError" = none
  ec : ∀ c ∈ xnames, ∀ C, K.cl c = some (.ref C) → ExcC K.K C
  xf : ∀ c ∈ xnames, ∀ C, K.cl c = some (.ref C) → ∀ f, xfld c f = true → XfC K.K C ∧ findIn K.K (.ref C) f = some none
  ex : ∀ c ∈ xnames, ∀ C, K.cl c = some (.ref C) → ∀ x v, NmV K x v → exmOne K.K (.ref C) v = some (excIs c x)
  is : ∀ c ∈ xnames, ∀ C, K.cl c = some (.ref C) → ∀ x v, NmV K x v → kitOne K.K (.ref C) v = some (excIs c x)
  nn : ∀ x v, NmV K x v → kitOne K.K (.type "NoneType") v = some false
theorem Dq.excI {K : Tx} {H : Hp} {v : V} {d : D} {c : Str} {ds : List (Str × D)} (h : Dq K H v d) (e : asExc d = some (c, ds)) : ∃ a C dd fs, v = .ref a ∧ H a = some (ExH (.ref C) dd a) ∧ K.cl c = some (.ref C) ∧ XdOk H dd fs ∧ DqFs K H fs ds := by
  have e := asExc_some e
  cases h with
  | exc h1 h2 h3 h4 =>
    obtain ⟨rfl, rfl⟩ := excD_inj e
    exact ⟨_, _, _, _, rfl, h1, h2, h3, h4⟩
  | obj _ _ _ => unfold objD excD at e; injection e with e; injection e with e _; injection e with e _; cases e
  | scr _ => unfold scrD excD at e; injection e with e; injection e with e _; injection e with e _; cases e
  | _ => cases e
section
variable {Rp : RP} {X : Cx} {W : L2.WX} {M M' M2 : List Md} {e a b c : Expr} {F F1 F2 : List D → Rs D} {es : List Expr} {A : List D → Rs (List D)} {pos pos' p : Pos} {n i : Nat} {x : Str}
/-- the field of an error -/
def fXf (f : Str) (F : List D → Rs D) : List D → Rs D := fun ρ => (F ρ).bind fun d => match asExc d with
  | none => .no
  | some (c, fs) => if c ∈ xnames ∧ xfld c f = true then (match fs.lookup f with
    | some d => .ok d
    | none => .no) else .no
theorem de_xf {f : Str} (T : ExcT X.T) (h : DE X W M e F) (hb : attributeBase e f X.env (eval e X.env) = eval e X.env := by rfl) : DE X W M (.Attribute e f pos) (fXf f F) := by
  obtain ⟨t, q1, q2⟩ := h
  refine ⟨_, pe_xh q1 hb, fun G H0 O0 O H σ ρ Q I w => q2 G H0 O0 O H σ ρ _ I (Wnt.bind w fun d H1 v s1 hd w1 => ?_)⟩
  cases he : asExc d with
  | none => rw [he] at w1; exact w1.elim
  | some cf =>
    obtain ⟨c, ds⟩ := cf
    rw [he] at w1
    dsimp only at w1
    by_cases hc : c ∈ xnames ∧ xfld c f = true
    · rw [if_pos hc] at w1
      cases hl : ds.lookup f with
      | none => rw [hl] at w1; exact w1.elim
      | some d2 =>
        rw [hl] at w1
        obtain ⟨p, C, dd, fs, rfl, k1, k2, k3, k4⟩ := hd.excI he
        obtain ⟨y, l1, l2⟩ := k4.get hl
        obtain ⟨x1, x2⟩ := T.xf c hc.1 C k2 f hc.2
        cases dd with
        | none =>
          have : fs = [] := k3
          rw [this] at l1; cases l1
        | some dd => exact ⟨p, C, dd, fs, y, rfl, hide_sub _ _ k1, x1, x2, hide_sub _ _ k3, l1, w1.ok l2⟩
    · rw [if_neg hc] at w1; exact w1.elim
/-- isinstance of an error, or of None -/
def isXd (x : Str) (d : D) : Rs D := match d with
  | .none => .ok (.bool false)
  | d => match asExc d with
    | some (c, _) => if c ∈ xnames then .ok (.bool (excIs c x)) else .no
    | none => .no
def fIsX (x : Str) (F : List D → Rs D) : List D → Rs D := fun ρ => (F ρ).bind (isXd x)
theorem isX_run {v : V} {d : D} {cv : V} {u : Value} {G H0 H : Hp} {O0 : Out} {O : Addr → Prop} {σ : L2.St} {ρ : List D} {Q : VK} {H1 : Hp} (T : ExcT X.T) (k : ClsV cv u) (hn : NmV X.T x u) (hd : Dq X.T (hide O H1) v d)
    (w : Wnt (WS W X.T O σ) (shR X.T O H) H1 (isXd x d) Q) : rIsi X.K [v, cv] H1 Q ∨ rIsH X.K [v, cv] H1 Q := by
  by_cases z : d = .none
  · subst z
    cases hd
    exact .inl ⟨_, cv, .type "NoneType", u, false, rfl, k, .base .non, T.nn x u hn, w.ok (.bl _)⟩
  · have w : Wnt (WS W X.T O σ) (shR X.T O H) H1 (match asExc d with
        | some (c, _) => if c ∈ xnames then .ok (.bool (excIs c x)) else .no
        | none => .no) Q := by
      cases d <;> first | exact absurd rfl z | exact w
    cases he : asExc d with
    | none => rw [he] at w; exact w.elim
    | some cf =>
      obtain ⟨c, ds⟩ := cf
      rw [he] at w
      dsimp only at w
      by_cases hc : c ∈ xnames
      · rw [if_pos hc] at w
        obtain ⟨p, C, dd, fs, rfl, k1, k2, k3, k4⟩ := hd.excI he
        have k3' : XdOk H1 dd fs := k3.mono hide_sub
        exact .inr ⟨p, C, dd, cv, u, excIs c x, rfl, hide_sub _ _ k1, xdAt k3', T.ec c hc C k2, k, T.is c hc C k2 x u hn, w.ok (.bl _)⟩
      · rw [if_neg hc] at w; exact w.elim
/-- .. of a class of the text -/
theorem de_isX {p2 : Pos} (T : ExcT X.T) (hg : Gl X "isinstance") (hm : X.mg "isinstance" = none) (hg2 : Gl X x) (hv : ∃ C, X.mg x = some (.ref C)) (hx : x ∈ ("CourtError" : Str) :: xnames) (ha : DE X W M a F) (hd : (x == ("__debug__" : Str)) = false := by decide)
    (hs : starEach (a :: [.Name x p2]) X.env = (false, eval a X.env) :: starEach [.Name x p2] X.env := by rfl) (hs2 : starEach ((.Name x p2) :: []) X.env = (false, eval (.Name x p2) X.env) :: starEach [] X.env := by rfl) (hpl : (backTo pos (starEach [.Name x p2] X.env)).any (·.1) = false := by rfl) :
    DE X W M (.Call (.Name "isinstance" p) [a, .Name x p2] [] pos) (fIsX x F) := by
  obtain ⟨C, hv⟩ := hv
  obtain ⟨t, pt, q⟩ := ha
  refine ⟨_, pe_callB call_isH hg hm (by decide +kernel) (pa_cons pt (pa_cons (pe_glob (v := .ref C) hg2 hv rfl hd) pa_nil hs2) hs) (by decide) (by decide) hs hpl, fun G H0 O0 O H σ ρ Q I w => q G H0 O0 O H σ ρ _ I (Wnt.bind w fun d H1 v s1 hd w1 => ?_)⟩
  exact isX_run (G := G) (H0 := H0) (O0 := O0) (ρ := ρ) T (.own C) (.inl ⟨hx, hv⟩) hd w1
theorem de_isVE {p2 : Pos} (T : ExcT X.T) (hg : Gl X "isinstance") (hm : X.mg "isinstance" = none) (hg2 : Gl X "ValueError") (hm2 : X.mg "ValueError" = none) (ha : DE X W M a F)
    (hs : starEach (a :: [.Name "ValueError" p2]) X.env = (false, eval a X.env) :: starEach [.Name "ValueError" p2] X.env := by rfl) (hs2 : starEach ((.Name "ValueError" p2) :: []) X.env = (false, eval (.Name "ValueError" p2) X.env) :: starEach [] X.env := by rfl) (hpl : (backTo pos (starEach [.Name "ValueError" p2] X.env)).any (·.1) = false := by rfl) :
    DE X W M (.Call (.Name "isinstance" p) [a, .Name "ValueError" p2] [] pos) (fIsX "ValueError" F) := by
  obtain ⟨t, pt, q⟩ := ha
  refine ⟨_, pe_callB call_isH hg hm (by decide +kernel) (pa_cons pt (pa_cons (pe_bltn (v := .ty "ValueError") hg2 hm2 PyProof.Rows.Boot.«ValueError» rfl (by decide) (by decide)) pa_nil hs2) hs) (by decide) (by decide) hs hpl, fun G H0 O0 O H σ ρ Q I w => q G H0 O0 O H σ ρ _ I (Wnt.bind w fun d H1 v s1 hd w1 => ?_)⟩
  exact isX_run (G := G) (H0 := H0) (O0 := O0) (ρ := ρ) T (.ty "ValueError") (.inr ⟨rfl, rfl⟩) hd w1
/-! ### made and raised -/
/-- C's __init__(self, x): self.f = x -/
def spI (C : Addr) (f : Str) : Sp := fun vs H Q _ => ∃ a x, vs = [.ref a, x] ∧ H a = some (exo a C none) ∧ ∀ dx, H dx = none → dx ≠ a → Q .non (upd (upd H dx (exd dx [(f, x)])) a (exo a C (some dx)))
/-- a class of errors whose __init__ keeps one field -/
def XMk (P : Program) (w : World) (K : Tx) (base : Heap) (x c f : Str) (k : Nat) : Prop := ∃ (C fI : Addr) (fd : FuncData) (ps : List Str), OexC K.K C ∧ findIn K.K (.ref C) "__init__" = some (some (.ref fI)) ∧ typeIn K.K (.ref fI) = some (.type "function") ∧ FnOk P w K.K K.mg base (L2.CX P w) k fI fd ps (spI C f) ∧ Binds K.K fd ps [] ∧ K.mg x = some (.ref C) ∧ K.cl c = some (.ref C)
theorem mk_run {C : Addr} {f c : Str} {t : TA} {G H0 H : Hp} {O0 : Out} {O : Addr → Prop} {σ : L2.St} {ρ : List D} {Q : XK} (hc : X.T.cl c = some (.ref C))
    (qt : ∀ (G H0 : Hp) (O0 : Out) (O : Addr → Prop) (H : Hp) (σ : L2.St) (ρ : List D) (Q : List V → Hp → Prop), EOk X.T G H0 O0 M O H σ ρ → Wnt (WS W X.T O σ) (fun H' vs ds => DqAll X.T (hide O H') vs ds) H (A ρ) Q → t σ H Q)
    (I : EOk X.T G H0 O0 M O H σ ρ) {d : D} (hA : A ρ = .ok [d]) (q : ∀ H' dx, Same H H' → ExR X.T O H' (excD c [(f, d)]) (.ref C) (some dx) → Q (.ref C) (some dx) H') : tMkO C (spI C f) [] t σ H Q := by
  refine qt G H0 O0 O H σ ρ _ I ?_
  rw [hA]
  rintro H1 vs s1 hv
  cases hv with
  | @cons v _ _ _ hv hn =>
    cases hn
    have al := (I.mono s1).alive
    refine ⟨by show 1 ≤ 1000; omega, fun a na => ⟨a, v, rfl, upd_same, fun dx n1 n2 => ⟨rfl, dx, [(f, v)], upd_same, by rw [upd_ne n2]; exact upd_same, ?_, ?_⟩⟩⟩
    · rw [upd_ne n2] at n1; exact n1
    · have nd : H1 dx = none := by rw [upd_ne n2] at n1; exact n1
      have s2 : Same H1 (upd (del (upd (upd (upd H1 a (exo a C none)) dx (exd dx [(f, v)])) a (exo a C (some dx))) a) dx (.xd [(f, v)])) := fun b o e => by
        have b1 : b ≠ dx := fun z => by rw [z, nd] at e; cases e
        have b2 : b ≠ a := fun z => by rw [z, na] at e; cases e
        rw [upd_ne b1, del_ne b2, upd_ne b2, upd_ne b1, upd_ne b2]; exact e
      refine q _ dx (s1.trans s2) ⟨C, c, [(f, v)], [(f, d)], rfl, rfl, hc, upd_same, .cons (hv.mono (hide_same s2)) .nil, fun z e o => ?_⟩
      cases e
      exact al _ o nd
/-- raise C(e) -/
def fRaise (c f : Str) (A : List D → Rs (List D)) : List D → Rs Fl := fun ρ => match A ρ with
  | .ok [d] => .er (excD c [(f, d)])
  | _ => .no
theorem d1_raise {f k' : Str} {k : Nat} {p1 p2 : Pos} {N : List Md} (hc : X.calm = true) (tk : Takes X W) (C : XMk X.prog X.w X.T X.base x k' f k) (hr : Room (k + 1) X.A) (hg : Gl X x) (ha : DA X W M [e] A)
    (hdb : (x == ("__debug__" : Str)) = false := by decide) (he : starEach (e :: []) X.env = (false, eval e X.env) :: starEach [] X.env := by rfl) (hpl : (backTo p2 (starEach [] X.env)).any (·.1) = false := by rfl) :
    DS1 Rp X W M (.Raise (some (.Call (.Name x p1) [e] [] p2)) none pos) N (fRaise k' f A) := by
  obtain ⟨C, fI, fd, ps, oe, iC, tI, FF, hb, hm, hcl⟩ := C
  obtain ⟨t, pt, qt⟩ := ha
  refine ⟨_, ps_raise hc tk (pmk_oex (sp := spI C f) (ds := []) (dvs := []) oe iC tI FF hr hb .nil passL hg hm pt hdb he hpl), fun G H0 O0 O H σ ρ E rw I w => ?_⟩
  unfold fRaise at w
  cases hA : A ρ with
  | er z => rw [hA] at w; exact w.elim
  | no => rw [hA] at w; exact w.elim
  | ok ds =>
    rw [hA] at w
    match ds, hA, w with
    | [], _, w => exact w.elim
    | [d], hA, w => exact mk_run hcl qt I hA fun H' dx s x => w H' s _ _ x
    | _ :: _ :: _, _, w => exact w.elim
end
end FL
end
section
/-! FL, part p: try as a statement of the layer; the making of the errors' classes. -/
namespace FL
open PySem L2 PySem.Spec PyProof.Rows PySem.W
/-- a clause: the names, the slot, the suite -/
structure ClF where
  xs : List Str
  nm : Option Nat
  f : List D → Rs Fl
def noEr : Rs Fl → Rs Fl
  | .er _ => .no
  | r => r
def ClF.run (c : ClF) (e : D) (ρ : List D) : Rs Fl := noEr (match c.nm with
  | none => c.f ρ
  | some i => c.f (ρ.set i e))
def fHan (e : D) (k : Str) : List ClF → List D → Rs Fl
  | [], _ => .er e
  | c :: r, ρ => if c.xs.any (excIs k) = true then c.run e ρ else fHan e k r ρ
def fTry (body : List D → Rs Fl) (cl : List ClF) : List D → Rs Fl := fun ρ => match body ρ with
  | .er e => (match asExc e with
    | some (k, _) => if k ∈ xnames then fHan e k cl ρ else .no
    | none => .no)
  | r => r
def TstF (X : Cx) (ty : Expr) (xs : List Str) : Prop := ∃ cs, Tst X ty cs ∧ ∀ c ∈ xnames, ∀ C, X.T.cl c = some (.ref C) → exmAny X.K (.ref C) cs = some (xs.any (excIs c))
theorem exmAny_of {K : Frag} {cls : Value} {c : Str} : ∀ {cs : List Value} {xs : List Str}, Paired (fun v x => exmOne K cls v = some (excIs c x)) cs xs → exmAny K cls cs = some (xs.any (excIs c))
  | _, _, .nil => rfl
  | _, _, .cons h t => by
    unfold exmAny
    rw [h, exmAny_of t]; rfl
section
variable {X : Cx} {x x2 x3 x4 : Str} {p p2 p3 p4 pt : Pos} {k : Nat}
abbrev xall : List Str := ("CourtError" : Str) :: xnames
theorem tf_1 (T : ExcT X.T) (g : Gl X x) (d : (x == ("__debug__" : Str)) = false) (m : ∃ C, X.mg x = some (.ref C)) (h : x ∈ xall) : TstF X (.Name x p) [x] :=
  let ⟨_, m⟩ := m
  ⟨_, tst_name ⟨g, d, .inl m⟩, fun c hc D hD => exmAny_of (.cons (T.ex c hc D hD x _ (.inl ⟨h, m⟩)) .nil)⟩
theorem tf_3 (T : ExcT X.T) (g : Gl X x) (d : (x == ("__debug__" : Str)) = false) (m : ∃ C, X.mg x = some (.ref C)) (h : x ∈ xall) (g2 : Gl X x2) (d2 : (x2 == ("__debug__" : Str)) = false) (m2 : ∃ C, X.mg x2 = some (.ref C)) (h2 : x2 ∈ xall) (g3 : Gl X x3) (d3 : (x3 == ("__debug__" : Str)) = false) (m3 : ∃ C, X.mg x3 = some (.ref C)) (h3 : x3 ∈ xall) :
    TstF X (.Tuple [.Name x p, .Name x2 p2, .Name x3 p3] k pt) [x, x2, x3] :=
  let ⟨_, m⟩ := m
  let ⟨_, m2⟩ := m2
  let ⟨_, m3⟩ := m3
  ⟨_, tst_3 ⟨g, d, .inl m⟩ ⟨g2, d2, .inl m2⟩ ⟨g3, d3, .inl m3⟩, fun c hc D hD => exmAny_of (.cons (T.ex c hc D hD x _ (.inl ⟨h, m⟩)) (.cons (T.ex c hc D hD x2 _ (.inl ⟨h2, m2⟩)) (.cons (T.ex c hc D hD x3 _ (.inl ⟨h3, m3⟩)) .nil)))⟩
theorem tf_4 (T : ExcT X.T) (g : Gl X x) (d : (x == ("__debug__" : Str)) = false) (m : ∃ C, X.mg x = some (.ref C)) (h : x ∈ xall) (g2 : Gl X x2) (d2 : (x2 == ("__debug__" : Str)) = false) (m2 : ∃ C, X.mg x2 = some (.ref C)) (h2 : x2 ∈ xall) (g3 : Gl X x3) (d3 : (x3 == ("__debug__" : Str)) = false) (m3 : ∃ C, X.mg x3 = some (.ref C)) (h3 : x3 ∈ xall) (g4 : Gl X x4) (d4 : (x4 == ("__debug__" : Str)) = false) (m4 : ∃ C, X.mg x4 = some (.ref C)) (h4 : x4 ∈ xall) :
    TstF X (.Tuple [.Name x p, .Name x2 p2, .Name x3 p3, .Name x4 p4] k pt) [x, x2, x3, x4] :=
  let ⟨_, m⟩ := m
  let ⟨_, m2⟩ := m2
  let ⟨_, m3⟩ := m3
  let ⟨_, m4⟩ := m4
  ⟨_, tst_4 ⟨g, d, .inl m⟩ ⟨g2, d2, .inl m2⟩ ⟨g3, d3, .inl m3⟩ ⟨g4, d4, .inl m4⟩, fun c hc D hD => exmAny_of (.cons (T.ex c hc D hD x _ (.inl ⟨h, m⟩)) (.cons (T.ex c hc D hD x2 _ (.inl ⟨h2, m2⟩)) (.cons (T.ex c hc D hD x3 _ (.inl ⟨h3, m3⟩)) (.cons (T.ex c hc D hD x4 _ (.inl ⟨h4, m4⟩)) .nil))))⟩
end
/-- what a suite's statements wish: nothing is raised there -/
abbrev W00 : L2.WX := fun _ _ _ _ => False
section
variable {Rp : RP} {X : Cx} {W : L2.WX} {M M' : List Md} {st : Stmt} {S1 : List D → Rs Fl} {h₀ : ExceptHandler} {hds : List ExceptHandler} {cl : List ClF} {pos : Pos}
inductive HdF (Rp : RP) (X : Cx) (M M' : List Md) : List ExceptHandler → List ClF → Prop
  | nil : HdF Rp X M M' [] []
  | bare {ty : Expr} {xs : List Str} {f : List D → Rs Fl} {b₀ : Stmt} {bs : List Stmt} {p : Pos} {hds : List ExceptHandler} {l : List ClF} (t : TstF X ty xs) (su : ∀ (a : Addr) (pn : List (Addr × Obj)), DSs Rp (X.suite a pn) W00 M (b₀ :: bs) M' f) (r : HdF Rp X M M' hds l) :
      HdF Rp X M M' (.ExceptHandler (some ty) none (b₀ :: bs) p :: hds) (⟨xs, none, f⟩ :: l)
  | nmd {ty : Expr} {xs : List Str} {f : List D → Rs Fl} {n : Str} {i : Nat} {M2 : List Md} {b₀ : Stmt} {bs : List Stmt} {p : Pos} {hds : List ExceptHandler} {l : List ClF} (hN : X.N.Nodup) (hi : X.N[i]? = some n) (hl : X.env.kindOf n = some .local) (li : i < M.length) (h2 : M2.set i .no = M') (t : TstF X ty xs)
      (su : ∀ (a : Addr) (pn : List (Addr × Obj)), DSs Rp (X.suite a pn) W00 (M.set i .sh) (b₀ :: bs) M2 f) (r : HdF Rp X M M' hds l) : HdF Rp X M M' (.ExceptHandler (some ty) (some n) (b₀ :: bs) p :: hds) (⟨xs, some i, f⟩ :: l)
/-- the readings that the library's rules are given -/
def PreB (Rp : RP) (K : Tx) (M M' : List Md) (S1 : List D → Rs Fl) (W : L2.WX) : TS := fun E σ H => ∃ (G H0 : Hp) (O0 : Out) (O : Addr → Prop) (ρ : List D), (Rp.rw = true → O0.rw = true) ∧ EOk K G H0 O0 M O H σ ρ ∧ EndOk1 Rp K W G H0 O0 M' O H σ E (S1 ρ)
def PreS (Rp : RP) (K : Tx) (M M' : List Md) (f : List D → Rs Fl) : TS := fun E σ H => ∃ (G H0 : Hp) (O0 : Out) (O : Addr → Prop) (ρ : List D), (Rp.rw = true → O0.rw = true) ∧ EOk K G H0 O0 M O H σ ρ ∧ EndOk Rp K W00 G H0 O0 M' E (f ρ)
/-- what the clauses mean -/
def Sem (Rp : RP) (X : Cx) (M M' : List Md) (W : L2.WX) (l : List Cl) (cl : List ClF) : Prop :=
  ∀ (G H0 H : Hp) (O0 : Out) (O : Addr → Prop) (σ : L2.St) (ρ : List D) (E : Ends) (C : Addr) (k : Str) (dd : Option Addr) (fs : List (Str × V)) (ds : List (Str × D)), (Rp.rw = true → O0.rw = true) → EOk X.T G H0 O0 M O H σ ρ → k ∈ xnames → X.T.cl k = some (.ref C) → XdOk H dd fs → DqFs X.T (hide O H) fs ds → (∀ a, dd = some a → ¬ O a) →
    EndOk1 Rp X.T W G H0 O0 M' O H σ E (fHan (excD k ds) k cl ρ) → wDo X.K W E l (.ref C) dd σ H
theorem endOk_no {r : Rs Fl} {K : Tx} {G H0 H : Hp} {O0 : Out} {O : Addr → Prop} {σ : L2.St} {E : Ends} (w : EndOk1 Rp K W G H0 O0 M' O H σ E (noEr r)) : EndOk Rp K W00 G H0 O0 M' E r := by
  cases r with
  | er e => exact w.elim
  | no => exact w
  | ok f => cases f <;> exact w
theorem exc_at {K : Tx} {O : Addr → Prop} {H : Hp} {a C : Addr} {k : Str} {dd : Option Addr} {fs : List (Str × V)} {ds : List (Str × D)} (na : H a = none) (no : ¬ O a) (hc : K.cl k = some (.ref C)) (x : XdOk H dd fs) (q : DqFs K (hide O H) fs ds) (nd : ∀ a, dd = some a → ¬ O a) :
    Dq K (hide O (upd H a (ExH (.ref C) dd a))) (.ref a) (excD k ds) := by
  refine .exc (by rw [hide_at no]; exact upd_same) hc ?_ (DqFs.mono (hide_same (same_upd na)) q)
  cases dd with
  | none => exact x
  | some b =>
    show hide O _ b = _
    rw [hide_at (nd b rfl)]
    exact same_upd na _ _ x
theorem clauses (W : L2.WX) (h : HdF Rp X M M' hds cl) : ∃ l, Hdl X hds l ∧ Sem Rp X M M' W l cl := by
  induction h with
  | nil => exact ⟨[], .nil, fun G H0 H O0 O σ ρ E C k dd fs ds rw I hk hc x q nd w => w H (Same.refl _) _ _ ⟨C, k, fs, ds, rfl, rfl, hc, x, q, nd⟩⟩
  | @bare ty xs f b₀ bs p hds l t su _ ih =>
    obtain ⟨m, hm, sm⟩ := ih
    obtain ⟨cs, t1, t2⟩ := t
    refine ⟨⟨cs, none, fun _ => PreS Rp X.T M M' f⟩ :: m, .bare t1 (fun a pn => ?_) hm, fun G H0 H O0 O σ ρ E C k dd fs ds rw I hk hc x q nd w => ⟨_, t2 k hk C hc, fun hb a na => ?_, fun hb => ?_⟩⟩
    · obtain ⟨u, p1, p2⟩ := su a pn
      exact ⟨fun pins s σ H D J ⟨G, H0, O0, O, ρ, rw, I, w⟩ => p1.run pins s σ H D J (p2 G H0 O0 O H σ ρ D rw I w)⟩
    · unfold fHan at w
      rw [if_pos hb] at w
      exact ⟨G, H0, O0, O, ρ, rw, I.mono (same_upd na), endOk_no w⟩
    · unfold fHan at w
      rw [if_neg (by rw [hb]; exact Bool.false_ne_true)] at w
      exact sm G H0 H O0 O σ ρ E C k dd fs ds rw I hk hc x q nd w
  | @nmd ty xs f n i M2 b₀ bs p hds l hN hi hl li h2 t su _ ih =>
    obtain ⟨m, hm, sm⟩ := ih
    obtain ⟨cs, t1, t2⟩ := t
    refine ⟨⟨cs, some i, fun _ => PreS Rp X.T (M.set i .sh) M2 f⟩ :: m, .nmd hN hi hl t1 (fun a pn => ?_) hm, fun G H0 H O0 O σ ρ E C k dd fs ds rw I hk hc x q nd w => ⟨_, t2 k hk C hc, fun hb a na => ?_, fun hb => ?_⟩⟩
    · obtain ⟨u, p1, p2⟩ := su a pn
      exact ⟨fun pins s σ H D J ⟨G, H0, O0, O, ρ, rw, I, w⟩ => p1.run pins s σ H D J (p2 G H0 O0 O H σ ρ D rw I w)⟩
    · unfold fHan at w
      rw [if_pos hb] at w
      have w : EndOk Rp X.T W00 G H0 O0 M' E (f (ρ.set i (excD k ds))) := endOk_no w
      refine ⟨G, H0, O0, O, ρ.set i (excD k ds), rw, (I.mono (same_upd na)).setSh li (exc_at na (I.ne na) hc x q nd), ?_⟩
      generalize f (ρ.set i (excD k ds)) = r at w ⊢
      cases r with
      | er e => exact w
      | no => exact w
      | ok z =>
        cases z with
        | ret d => exact w
        | nx ρ' => exact fun O' H' σ' J => w O' H' (σ'.set i none) (by rw [← h2]; exact J.wipe1 i)
    · unfold fHan at w
      rw [if_neg (by rw [hb]; exact Bool.false_ne_true)] at w
      exact sm G H0 H O0 O σ ρ E C k dd fs ds rw I hk hc x q nd w
theorem d1_try (hs : X.stack = X.env :: X.outer) (hf : X.env.frame = some X.env.locals) (tk : Takes X W)
    (hb : ∀ (Wb : L2.WX) (pn : List (Addr × Obj)) (xe : Value → Shared → Prop), Takes (X.tr pn xe) Wb → PassesOwn (model X.prog X.w) X.A X.env xe → DS1 Rp (X.tr pn xe) Wb M st M' S1)
    (hh : HdF Rp X M M' (h₀ :: hds) cl) : DS1 Rp X W M (.Try [st] (h₀ :: hds) [] [] pos) M' (fTry S1 cl) := by
  obtain ⟨l, hl, sm⟩ := clauses W hh
  refine ⟨_, ps_tryX (tb := PreB Rp X.T M M' S1) hs hf tk (fun Wb pn xe tk' po => ?_) hl, fun G H0 O0 O H σ ρ E rw I w => ⟨G, H0, O0, O, ρ, rw, I, ?_⟩⟩
  · obtain ⟨t, p1, p2⟩ := hb Wb pn xe tk' po
    exact pss_one ⟨fun pins s σ H D J ⟨G, H0, O0, O, ρ, rw, I, w⟩ => p1.run pins s σ H D J (p2 G H0 O0 O H σ ρ D rw I w)⟩
  · unfold fTry at w
    generalize S1 ρ = r at w ⊢
    cases r with
    | no => exact w
    | ok f => cases f <;> exact w
    | er e =>
      rintro H' s cls dd ⟨C, c, fs, ds, rfl, rfl, hc, x, q, nd⟩
      have w : EndOk1 Rp X.T W G H0 O0 M' O H σ E (match asExc (excD c ds) with
        | some (k, _) => if k ∈ xnames then fHan (excD c ds) k cl ρ else .no
        | none => .no) := w
      rw [asExc_exc] at w
      dsimp only at w
      by_cases hk : c ∈ xnames
      · rw [if_pos hk] at w
        refine sm G H0 H' O0 O σ ρ E C c dd fs ds rw (I.mono s) hk hc x q nd ?_
        generalize fHan (excD c ds) c cl ρ = r at w ⊢
        cases r with
        | no => exact w
        | er e => exact fun H2 s2 => w H2 (s.trans s2)
        | ok f => cases f <;> exact w
      · rw [if_neg hk] at w; exact w.elim
end
/-! ### the classes' __init__ -/
section
variable {P : Program} {w : World} {K : Tx} {base : Heap}
theorem fn_xinit {st : Stmt} {fI : Addr} {fd : FuncData} {qual q f : Str} {C : Addr} {p1 p2 p3 p4 : Pos} (F : Fun K.K "__init__" qual st fI fd) (S : FnScope ["self", q] ["self", q] (defScope st)) (hb : defBody st = [.Assign [.Attribute (.Name "self" p1) f p2] (.Name q p3) p4])
    (dq : (q == ("__debug__" : Str)) = false) (cq : (q == ("__classdict__" : Str)) = false) (v0 : Vis (defScope st) "self") (v1 : Vis (defScope st) q) (oe : OexC K.K C) (no : findIn K.K (.ref C) f = some none)
    (hs : ∀ (env : Env), swapsWith (.Name q p3) (some (.Attribute (.Name "self" p1) f p2)) p4.line env = pure false) :
    FnOk P w K.K K.mg base (L2.CX P w) 1 fI fd ["self", q] (spI C f) := by
  refine F.okX S (fun vs H Q E h => ?_) (fun cdv A outer s H vs Q E hr h => ?_)
  · obtain ⟨a, x, rfl, _⟩ := h; rfl
  · obtain ⟨a, x, rfl, ha, q1⟩ := h
    rw [hb]
    refine ⟨_, pss_one (ps_ost (pe_var (i := 0) rfl v0 (by decide) (by decide)) (pe_var (i := 1) rfl v1 dq cq) (hs _)), ?_⟩
    refine ⟨x, rfl, .ref a, rfl, a, C, rfl, oe, no, .inl ⟨ha, fun dx n1 n2 => q1 dx n1 n2⟩⟩
end
/-- the errors' classes that the text names; those whose __init__ keeps a field -/
def XIn (K : Tx) (l : List Str) : Prop := ∀ x ∈ l, ∃ C, K.mg x = some (.ref C)
def XMs (P : Program) (w : World) (K : Tx) (base : Heap) (l : List (Str × Str)) : Prop := ∀ p ∈ l, XMk P w K base p.1 p.1 p.2 1
theorem xms_nil {P : Program} {w : World} {K : Tx} {base : Heap} : XMs P w K base [] := fun _ h => nomatch h
theorem xms_cons {P : Program} {w : World} {K : Tx} {base : Heap} {x f : Str} {l : List (Str × Str)} (h : XMk P w K base x x f 1) (t : XMs P w K base l) : XMs P w K base ((x, f) :: l) := fun p hp => by
  rcases List.mem_cons.mp hp with rfl | hp
  · exact h
  · exact t p hp
theorem xin_nil {K : Tx} : XIn K [] := fun _ h => nomatch h
theorem xin_cons {K : Tx} {x : Str} {C : Addr} {l : List Str} (h : K.mg x = some (.ref C)) (t : XIn K l) : XIn K (x :: l) := fun p hp => by
  rcases List.mem_cons.mp hp with rfl | hp
  · exact ⟨C, h⟩
  · exact t p hp
/-- all that is to be known of one class of errors, decided at one go -/
def excB (K : Frag) (C : Addr) (f : Str) (vs : List (Value × Bool)) : Bool :=
  decide (findIn K (.ref C) "__getattribute__" = some (some (.builtin "BaseException.__getattribute__"))) && (decide (findIn K (.ref C) "__getattr__" = some none) && (decide (subIn K (.ref C) (.type "BaseException") = some true) && (hasDictIn K C &&
    (decide (findIn K (.ref C) "__class__" = some (some (.builtin "object.__class__"))) && (decide (mroIn K C (.type "object") = some true) && (decide (findIn K (.ref C) f = some none) &&
      vs.all fun p => decide (exmOne K (.ref C) p.1 = some p.2) && (decide (kitOne K (.ref C) p.1 = some p.2) && decide (kitOne K (.type "NoneType") p.1 = some false))))))))
theorem excB_at {K : Frag} {C : Addr} {f : Str} {vs : List (Value × Bool)} (h : excB K C f vs = true) : findIn K (.ref C) "__getattribute__" = some (some (.builtin "BaseException.__getattribute__")) ∧ findIn K (.ref C) "__getattr__" = some none ∧ subIn K (.ref C) (.type "BaseException") = some true ∧ hasDictIn K C = true ∧
    findIn K (.ref C) "__class__" = some (some (.builtin "object.__class__")) ∧ mroIn K C (.type "object") = some true ∧ findIn K (.ref C) f = some none ∧ ∀ v b, (v, b) ∈ vs → exmOne K (.ref C) v = some b ∧ kitOne K (.ref C) v = some b ∧ kitOne K (.type "NoneType") v = some false := by
  unfold excB at h
  simp only [Bool.and_eq_true, decide_eq_true_eq, List.all_eq_true] at h
  obtain ⟨h1, h2, h3, h4, h5, h6, h7, h8⟩ := h
  exact ⟨h1, h2, h3, h4, h5, h6, h7, fun v b m => h8 _ m⟩
theorem excT_of {K : Tx} {c0 : Str} {C0 : Addr} (ve : K.mg "ValueError" = none) (sp : specialIn K.K (.builtin "object.__class__") "__get__" = some (some (.builtin "getset_descriptor.__get__"))) (tk : takesIn K.K (.builtin "object.__class__") = some true)
    (H : ∀ c ∈ xnames, ∀ C, K.cl c = some (.ref C) → ∃ f vs, excB K.K C f vs = true ∧ (∀ g, xfld c g = true → g = f) ∧ ∀ x v, NmV K x v → (v, excIs c x) ∈ vs) (h0 : c0 ∈ xnames) (hc : K.cl c0 = some (.ref C0)) : ExcT K where
  ve := ve
  ec := fun c h C hC => by
    obtain ⟨f, vs, b, _, _⟩ := H c h C hC
    obtain ⟨h1, h2, h3, h4, h5, h6, _, _⟩ := excB_at b
    exact ⟨h1, h2, h3, h4, h5, sp, tk, h6⟩
  xf := fun c h C hC g hg => by
    obtain ⟨f, vs, b, e, _⟩ := H c h C hC
    obtain ⟨h1, h2, h3, h4, h5, h6, h7, _⟩ := excB_at b
    rw [e g hg]
    exact ⟨⟨h1, h2, h3, h4⟩, h7⟩
  ex := fun c h C hC x v n => by
    obtain ⟨f, vs, b, _, m⟩ := H c h C hC
    obtain ⟨_, _, _, _, _, _, _, h8⟩ := excB_at b
    exact (h8 _ _ (m x v n)).1
  is := fun c h C hC x v n => by
    obtain ⟨f, vs, b, _, m⟩ := H c h C hC
    obtain ⟨_, _, _, _, _, _, _, h8⟩ := excB_at b
    exact (h8 _ _ (m x v n)).2.1
  nn := fun x v n => by
    obtain ⟨f, vs, b, _, m⟩ := H c0 h0 C0 hc
    obtain ⟨_, _, _, _, _, _, _, h8⟩ := excB_at b
    exact (h8 _ _ (m x v n)).2.2
theorem xf_NoText {g : Str} (h : xfld "NoText" g = true) : g = "row" := by
  rw [show xfld "NoText" g = (g == ("row" : Str)) by unfold xfld; rw [show (("NoText" : Str) == ("NoText" : Str)) = true by decide +kernel, show (("NoText" : Str) == ("TooMany" : Str)) = false by decide +kernel, show (("NoText" : Str) == ("NoPlan" : Str)) = false by decide +kernel, show (("NoText" : Str) == ("NoName" : Str)) = false by decide +kernel]; simp] at h
  exact eq_of_beq h
theorem xf_TooMany {g : Str} (h : xfld "TooMany" g = true) : g = "most" := by
  rw [show xfld "TooMany" g = (g == ("most" : Str)) by unfold xfld; rw [show (("TooMany" : Str) == ("NoText" : Str)) = false by decide +kernel, show (("TooMany" : Str) == ("TooMany" : Str)) = true by decide +kernel, show (("TooMany" : Str) == ("NoPlan" : Str)) = false by decide +kernel, show (("TooMany" : Str) == ("NoName" : Str)) = false by decide +kernel]; simp] at h
  exact eq_of_beq h
theorem xf_NoPlan {g : Str} (h : xfld "NoPlan" g = true) : g = "name" := by
  rw [show xfld "NoPlan" g = (g == ("name" : Str)) by unfold xfld; rw [show (("NoPlan" : Str) == ("NoText" : Str)) = false by decide +kernel, show (("NoPlan" : Str) == ("TooMany" : Str)) = false by decide +kernel, show (("NoPlan" : Str) == ("NoPlan" : Str)) = true by decide +kernel]; simp] at h
  exact eq_of_beq h
theorem xf_NoName {g : Str} (h : xfld "NoName" g = true) : g = "name" := by
  rw [show xfld "NoName" g = (g == ("name" : Str)) by unfold xfld; rw [show (("NoName" : Str) == ("NoText" : Str)) = false by decide +kernel, show (("NoName" : Str) == ("TooMany" : Str)) = false by decide +kernel, show (("NoName" : Str) == ("NoPlan" : Str)) = false by decide +kernel, show (("NoName" : Str) == ("NoName" : Str)) = true by decide +kernel]; simp] at h
  exact eq_of_beq h
theorem xf_NoRow {g f : Str} (h : xfld "NoRow" g = true) : g = f := by
  rw [show xfld "NoRow" g = false by unfold xfld; rw [show (("NoRow" : Str) == ("NoText" : Str)) = false by decide +kernel, show (("NoRow" : Str) == ("TooMany" : Str)) = false by decide +kernel, show (("NoRow" : Str) == ("NoPlan" : Str)) = false by decide +kernel, show (("NoRow" : Str) == ("NoName" : Str)) = false by decide +kernel]; simp] at h
  cases h
theorem mem_b {v : Value} {b b' : Bool} {vs : List (Value × Bool)} (i : Nat) (e : b' = b) (h : vs[i]? = some (v, b)) : (v, b') ∈ vs := by
  rw [e]; exact List.mem_of_getElem? h
end FL
end
section
/-! FL, part s: a told result's inner list is changed at once, and the result is not looked at again. -/
namespace FL
open PySem L2 PySem.Spec PyProof.Rows
mutual
/-- data of no objects, whose lists do not begin with an int -/
def okM : D → Bool
  | .list ds => (match ds with
    | .int _ :: _ => false
    | _ => true) && okMs ds
  | .tuple ds => okMs ds
  | .dict _ => false
  | .none => true
  | .bool _ => true
  | .int _ => true
  | .str _ => true
def okMs : List D → Bool
  | [] => true
  | d :: ds => okM d && okMs ds
end
/-- what a value reaches -/
inductive Rch (H : Hp) : V → Addr → Prop
  | here {a : Addr} : Rch H (.ref a) a
  | lst {a b : Addr} {xs : List V} {x : V} (h : H a = some (.lst xs)) (m : x ∈ xs) (r : Rch H x b) : Rch H (.ref a) b
  | tup {a b : Addr} {xs : List V} {x : V} (h : H a = some (.tup xs)) (m : x ∈ xs) (r : Rch H x b) : Rch H (.ref a) b
/-- all that is alive is hidden, but S -/
def but (O S : Addr → Prop) (H : Hp) : Addr → Prop := fun p => O p ∨ (H p ≠ none ∧ ¬ S p)
theorem but_at {O S : Addr → Prop} {H : Hp} {a : Addr} {o : HO} (h : hide O H a = some o) (s : S a) : hide (but O S H) H a = some o := by
  obtain ⟨n, e⟩ := hide_some h
  rw [hide_at fun z => z.elim n fun z => z.2 s]; exact e
section
variable {K : Tx} {H : Hp} {O S : Addr → Prop}
mutual
theorem Dq.only : ∀ {v : V} {d : D}, Dq K (hide O H) v d → okM d = true → (∀ b, Rch H v b → S b) → Dq K (hide (but O S H) H) v d
  | _, _, .non, _, _ => .non
  | _, _, .bl b, _, _ => .bl b
  | _, _, .int i, _, _ => .int i
  | _, _, .str x, _, _ => .str x
  | _, _, .lst h a, k, s => by
    unfold okM at k
    rw [Bool.and_eq_true] at k
    exact .lst (but_at h (s _ .here)) (DqAll.only a k.2 fun x hx b r => s b (.lst (hide_some h).2 hx r))
  | _, _, .tup h a, k, s => by
    unfold okM at k
    exact .tup (but_at h (s _ .here)) (DqAll.only a k fun x hx b r => s b (.tup (hide_some h).2 hx r))
  | _, _, .scr _, k, _ => by unfold scrD okM at k; cases k
  | _, _, .obj _ _ _, k, _ => by unfold objD okM at k; cases k
  | _, _, .exc _ _ _ _, k, _ => by unfold excD okM at k; cases k
theorem DqAll.only : ∀ {vs : List V} {ds : List D}, DqAll K (hide O H) vs ds → okMs ds = true → (∀ x ∈ vs, ∀ b, Rch H x b → S b) → DqAll K (hide (but O S H) H) vs ds
  | _, _, .nil, _, _ => .nil
  | _, _, .cons h t, k, s => by
    unfold okMs at k
    rw [Bool.and_eq_true] at k
    exact .cons (Dq.only h k.1 (s _ List.mem_cons_self)) (DqAll.only t k.2 fun x hx => s x (List.mem_cons_of_mem _ hx))
end
theorem okMs_mem : ∀ {vs : List V} {ds : List D} {x : V}, DqAll K (hide O H) vs ds → okMs ds = true → x ∈ vs → ∃ d, Dq K (hide O H) x d ∧ okM d = true
  | _, _, x, .cons h t, k, m => by
    unfold okMs at k
    rw [Bool.and_eq_true] at k
    rcases List.mem_cons.mp m with rfl | m
    · exact ⟨_, h, k.1⟩
    · exact okMs_mem t k.2 m
theorem rch_list {v : V} {a : Addr} (r : Rch H v a) : ∀ {d : D}, Dq K (hide O H) v d → okM d = true → ∀ (xs ys : List V) (i : Int), H a = some (.lst xs) → xs ≠ V.int i :: ys := by
  induction r with
  | @here a =>
    intro d hd k xs ys i e z
    subst z
    cases hd with
    | lst h ax =>
      have h := (hide_some h).2
      rw [e] at h
      cases h
      cases ax with
      | cons hi _ => cases hi; unfold okM at k; cases k
    | tup h ax => have h := (hide_some h).2; rw [e] at h; cases h
    | scr _ => unfold scrD okM at k; cases k
    | obj _ _ _ => unfold objD okM at k; cases k
    | exc _ _ _ _ => unfold excD okM at k; cases k
  | @lst a b xs x h m r ih =>
    intro d hd k
    cases hd with
    | lst h2 ax =>
      have h2 := (hide_some h2).2
      rw [h] at h2
      cases h2
      unfold okM at k
      rw [Bool.and_eq_true] at k
      obtain ⟨d2, q1, q2⟩ := okMs_mem ax k.2 m
      exact ih q1 q2
    | tup h2 ax => have h2 := (hide_some h2).2; rw [h] at h2; cases h2
    | scr _ => unfold scrD okM at k; cases k
    | obj _ _ _ => unfold objD okM at k; cases k
    | exc _ _ _ _ => unfold excD okM at k; cases k
  | @tup a b xs x h m r ih =>
    intro d hd k
    cases hd with
    | lst h2 ax => have h2 := (hide_some h2).2; rw [h] at h2; cases h2
    | tup h2 ax =>
      have h2 := (hide_some h2).2
      rw [h] at h2
      cases h2
      unfold okM at k
      obtain ⟨d2, q1, q2⟩ := okMs_mem ax k m
      exact ih q1 q2
    | scr _ => unfold scrD okM at k; cases k
    | obj _ _ _ => unfold objD okM at k; cases k
    | exc _ _ _ _ => unfold excD okM at k; cases k
theorem rchs_list : ∀ {vs : List V} {ds : List D} {x : V} {a : Addr}, DqAll K (hide O H) vs ds → okMs ds = true → x ∈ vs → Rch H x a → ∀ (xs ys : List V) (i : Int), H a = some (.lst xs) → xs ≠ V.int i :: ys := fun h k m r => by
  obtain ⟨d, q1, q2⟩ := okMs_mem h k m
  exact rch_list r q1 q2
end
/-- x = f(..); x[0].append(c): x is not held behind it -/
def fMut (i n : Nat) (G : List D → Rs D) (A : List D → Rs (List D)) : List D → Rs Fl := fun ρ => match A ρ with
  | .ok ds => if ds.length = n ∧ okMs ds = true then (match G ds with
    | .ok (.list (.list (.int j :: es) :: r)) => if es.length ≤ 10000 then .ok (.nx (ρ.set i (.list (.list (.int j :: es) :: r)))) else .no
    | _ => .no) else .no
  | _ => .no
section
variable {Rp : RP} {X : Cx} {W : L2.WX} {M M2 : List Md} {e : Expr} {es : List Expr} {A : List D → Rs (List D)} {G : List D → Rs D} {S2 : List D → Rs Fl} {rest : List Stmt} {x f : Str} {k n : Nat} {p1 p2 p3 p4 q1 q2 q4 q5 q6 q8 q9 : Pos} {j2 j6 : Nat} {c : Int}
theorem dss_mut (i : Nat) (hN : X.N.Nodup) (tk : Takes X W) (C : Cal shR X.prog X.w X.T X.base f k n G) (hr : Room k X.A) (hg : Gl X f) (ha : DA X W M (e :: es) A) (hrest : DSs Rp X W (M.set i .no) rest M2 S2)
    (hdb : (f == ("__debug__" : Str)) = false := by decide) (he : starEach (e :: es) X.env = (false, eval e X.env) :: starEach es X.env := by rfl) (hpl : (backTo p3 (starEach es X.env)).any (·.1) = false := by rfl)
    (hi : X.N[i]? = some x := by rfl) (hl : i < M.length := by decide) (hx : Loc X.env.scope x := by first | exact .inl rfl | exact .inr rfl) (hs : swapsWith (.Call (.Name f p2) (e :: es) [] p3) (some (.Name x p1)) p4.line X.env = pure false := by rfl) (hf : X.fn x = true ∨ X.env.scope.names.lookup x = some .local := by first | exact .inl rfl | exact .inr rfl | assumption)
    (hv : Vis X.env.scope x := by first | exact Or.inl rfl | exact Or.inr (Or.inl rfl) | exact Or.inr (Or.inr rfl)) (hd : (x == ("__debug__" : Str)) = false := by decide) (hcd : (x == ("__classdict__" : Str)) = false := by decide)
    (hbase : attributeBase (.Subscript (.Name x q1) (.Constant (.int 0) j2 q2) q4) "append" X.env (eval (.Subscript (.Name x q1) (.Constant (.int 0) j2 q2) q4) X.env) = eval (.Subscript (.Name x q1) (.Constant (.int 0) j2 q2) q4) X.env := by rfl)
    (hfew : ((backTo q8 (starEach (.Constant (.int c) j6 q6 :: []) X.env)).all (fun x => !x.1) && (backToKw q8 (keywordEach [] X.env)).all (fun x => x.1.isSome) && decide (([.Constant (.int c) j6 q6] : List Expr).length + ([] : List Keyword).length + (if ([] : List Keyword).isEmpty then 0 else 1) < 30)) = true := by rfl)
    (hline : (q5.endLine == q8.line) = true := by rfl) (hse : starEach (.Constant (.int c) j6 q6 :: []) X.env = (false, eval (.Constant (.int c) j6 q6) X.env) :: starEach [] X.env := by rfl)
    (hs2 : swapsWith (.Call (.Attribute (.Subscript (.Name x q1) (.Constant (.int 0) j2 q2) q4) "append" q5) [.Constant (.int c) j6 q6] [] q8) none q9.line X.env = pure false := by rfl) (hix : PlainIx (.Constant (.int 0) j2 q2) := by intro _ _; rfl) :
    DSs Rp X W M (.Assign [.Name x p1] (.Call (.Name f p2) (e :: es) [] p3) p4 :: .Expr (.Call (.Attribute (.Subscript (.Name x q1) (.Constant (.int 0) j2 q2) q4) "append" q5) [.Constant (.int c) j6 q6] [] q8) q9 :: rest) M2 (fSeq (fMut i n G A) S2) := by
  obtain ⟨fa, fd, ps, FF, hm, hk, hb⟩ := C
  obtain ⟨t, pt, qt⟩ := ha
  obtain ⟨t2, pr, qr⟩ := hrest
  refine ⟨_, pss_cons (ps_set hN hi hx (pe_callS FF hr hg hm hk hb (fun σ => passAt tk σ) pt hdb he hpl) hs hf) (pss_cons (ps_expr (pe_bm PySem.F.plainAttrs_list PySem.F.slot_list_append PySem.F.type_list_append mt_append (pe_ix ix_seq (pe_var hi hv hd hcd) pe_int hix) (pa_cons pe_int pa_nil hse) hbase hfew hline hse) hs2) pr), fun G' H0 O0 O H σ ρ E rw I w => qt G' H0 O0 O H σ ρ _ I ?_⟩
  unfold fSeq fMut at w
  cases hA : A ρ with
  | er z => rw [hA] at w; exact w.elim
  | no => rw [hA] at w; exact w.elim
  | ok ds =>
    rw [hA] at w
    dsimp only at w
    by_cases hds : ds.length = n ∧ okMs ds = true
    · rw [if_pos hds] at w
      cases hG : G ds with
      | er z => rw [hG] at w; exact w.elim
      | no => rw [hG] at w; exact w.elim
      | ok d =>
        rw [hG] at w
        intro H1 vs s1 hvs
        have I1 := I.mono s1
        refine ⟨but O (fun b => ∃ x ∈ vs, Rch H1 x b) H1, ds, by rw [DqAll.length hvs, hds.1], fun p hp => hp.elim (I1.alive p) (·.1), DqAll.only hvs hds.2 (fun x hx b r => ⟨x, hx, r⟩), ?_⟩
        rw [hG]
        intro H2 v sv hv2
        split at w
        · rename_i j es' rs hd'
          injection hd' with hd'
          subst hd'
          split at w
          · rename_i hlen
            have hv2 : Dq X.T (hide (but O (fun b => ∃ x ∈ vs, Rch H1 x b) H1) H2) v (.list (.list (.int j :: es') :: rs)) := hv2
            cases hv2 with
            | @lst r xs _ hr2 ax =>
              cases ax with
              | @cons x0 xs' _ _ h0 t0 =>
                cases h0 with
                | @lst a ys _ ha2 ay =>
                  cases ay with
                  | @cons y0 ys' _ _ h1 t1 =>
                    cases h1
                    obtain ⟨nb, hb2⟩ := hide_some ha2
                    have hr3 := (hide_some hr2).2
                    have na : H1 a = none := by
                      cases q : H1 a with
                      | none => rfl
                      | some u =>
                        exfalso
                        have e := sv a u q
                        rw [hb2] at e
                        cases e
                        by_cases hS : ∃ x ∈ vs, Rch H1 x a
                        · obtain ⟨x, hx, r⟩ := hS
                          exact rchs_list hvs hds.2 hx r _ _ _ q rfl
                        · exact nb (.inr ⟨(by rw [q]; exact (fun z => nomatch z)), hS⟩)
                    have il : i < σ.length := by rw [I.ls]; exact hl
                    have sH : Same H1 (upd H2 a (.lst (V.int j :: ys' ++ [V.int c]))) := fun b o e => by
                      rw [upd_ne (ne_of_none e na)]; exact sv b o e
                    refine ⟨.ref r, List.getElem?_set_self il, .inl ⟨r, V.ref a :: xs', 0, .ref a, rfl, rfl, SqL.of hr3, (by simp [L2.atI, L2.ixN]), ?_⟩⟩
                    have w : EndOk Rp X.T W G' H0 O0 M2 E (S2 (ρ.set i (.list (.list (.int j :: es') :: rs)))) := w
                    have le : ys'.length ≤ 10000 := by rw [DqAll.length t1]; exact hlen
                    have J : EOk X.T G' H0 O0 (M.set i .no) O (upd H2 a (.lst (V.int j :: ys' ++ [V.int c]))) (σ.set i (some (.ref r))) (ρ.set i (.list (.list (.int j :: es') :: rs))) := by
                      obtain ⟨φ, J⟩ := I1.mono sH
                      exact ⟨φ, J.setV (m := .no) hl rfl trivial⟩
                    refine ⟨.inl ⟨rfl, _, SqL.of hb2⟩, a, _, .int c, rfl, rfl, hb2, line_lt (by rw [List.length_cons]; omega), ?_⟩
                    exact qr G' H0 O0 O _ _ _ E rw J w
          · exact w.elim
        · exact w.elim
    · rw [if_neg hds] at w; exact w.elim
end
end FL
end
section
/-! FL, part t: data within data, compared by <. -/
namespace FL
open PySem L2
def nonB : D → Bool
  | .none => true
  | _ => false
def dLtA (d e : D) : Rs D := if (PySem.W.alike d e && !nonB d) = true ∧ SeqAt.shaped d = true ∧ SeqAt.shaped e = true then .ok (.bool (PySem.W.dataLt d e)) else .no
def rLtA (K : PySem.W.Frag) : R2 := fun x y H Q => ∃ d e, Dp K H x d ∧ Dp K H y e ∧ PySem.W.alike d e = true ∧ d ≠ .none ∧ SeqAt.shaped d = true ∧ Q (.bl (PySem.W.dataLt d e)) H
theorem op_ltA {X : Cx} (hu : X.A.units + 64 < cLine) : OpR X (compareOp .Lt) (rLtA X.K) := by
  intro pins s σ H x y v u Q I rx ry h
  obtain ⟨d, e, hd, he, al, nn, sd, q⟩ := h
  obtain ⟨as, r1⟩ := Dp.reads I d x v hd rx
  obtain ⟨bs, r2⟩ := Dp.reads I e y u he ry
  exact PySem.W.lt_data r1 r2 al nn (SeqAt.room_of_shaped sd hu) ⟨.bl _, H, I, rfl, q⟩
theorem opd_ltA {X : Cx} (hu : X.A.units + 64 < cLine) : OpD X (compareOp .Lt) dLtA := by
  refine ⟨_, op_ltA hu, fun W O H x y d e Q al hx hy w => ?_⟩
  unfold dLtA at w
  by_cases c : (PySem.W.alike d e && !nonB d) = true ∧ SeqAt.shaped d = true ∧ SeqAt.shaped e = true
  · rw [if_pos c] at w
    obtain ⟨c1, c2, c3⟩ := c
    rw [Bool.and_eq_true] at c1
    exact ⟨d, e, hx.dp (SeqAt.canLay_of_shaped c2), hy.dp (SeqAt.canLay_of_shaped c3), c1.1, (fun z => by rw [z] at c1; exact absurd c1.2 (by decide)), c2, w.ok (.bl _)⟩
  · rw [if_neg c] at w; exact w.elim
end FL
end
section
namespace Ck42
open PySem L2 FL
noncomputable def B_is_leaf : List D → Rs Fl :=
  (fRet (vOr (fB dEq (fB dIx (fVar 0) (fC (.int 0))) (fC (.str "from"))) (fB dEq (fB dIx (fVar 0) (fC (.int 0))) (fC (.str "of")))))
noncomputable def F_is_leaf : List D → Rs D := fDef 1 B_is_leaf

noncomputable def B_rules_of : List D → Rs Fl :=
  (fRet (fB dIx (fVar 0) (fNeg (fC (.int 1)))))
noncomputable def F_rules_of : List D → Rs D := fDef 1 B_rules_of

noncomputable def B_count_rule_2 (n_ : List D → Rs D) : List D → Rs Fl :=
  (fSet 5 (fB dAdd (fLst (aCons (fC (.int 1)) aNil)) (fComp (fItR2 (fC (.int 1)) (fB dAdd (fVar 4) (fC (.int 1)))) (gN 7) fYes (fB dAdd (fB dIx (fVar 5) (fVar 7)) (fB dMul (fB dIx (fVar 5) (fB dSub (fVar 7) (fC (.int 1)))) (fVar 3))))))
noncomputable def B_count_rule_1 (n_ : List D → Rs D) : List D → Rs Fl :=
  (fSet 2 (fB dMul (fVar 2) (fVar 3)))
noncomputable def B_count_rule (n_ : List D → Rs D) : List D → Rs Fl :=
  (fSeq (fIfS (tT (fCall 1 F_is_leaf (aCons (fVar 0) aNil))) (fRet (fC (.int 1))) fNext)
    (fSeq (fSet 1 (fComp (fItL (fCall 1 F_rules_of (aCons (fVar 0) aNil))) (gN 6) fYes (fCall 1 n_ (aCons (fVar 6) aNil))))
    (fSeq (fIfS (tT (fB dEq (fB dIx (fVar 0) (fC (.int 0))) (fC (.str "all")))) (fSeq (fSet 2 (fC (.int 1)))
    (fSeq (fFor (fItL (fVar 1)) (gN 3) (B_count_rule_1 n_))
    (fRet (fVar 2)))) fNext)
    (fSeq (fSet 4 (fB dIx (fVar 0) (fC (.int 1))))
    (fSeq (fSet 5 (fB dAdd (fLst (aCons (fC (.int 1)) aNil)) (fB dMul (fLst (aCons (fC (.int 0)) aNil)) (fVar 4))))
    (fSeq (fFor (fItL (fVar 1)) (gN 3) (B_count_rule_2 n_))
    (fRet (fB dIx (fVar 5) (fVar 4)))))))))
noncomputable def F_count_rule : Nat → List D → Rs D
  | 0 => fun _ => .no
  | n + 1 => fDef 8 (B_count_rule (F_count_rule n))

noncomputable def B_count_choices : List D → Rs Fl :=
  (fRet (fCall 1 (F_count_rule 8) (aCons (fB dIx (fVar 0) (fC (.int 1))) aNil)))
noncomputable def F_count_choices : List D → Rs D := fDef 1 B_count_choices

noncomputable def B_takes_2 (n_ : List D → Rs D) : List D → Rs Fl :=
  (fApp 3 (fB dAdd (fLst (aCons (fVar 4) aNil)) (fVar 5)))
noncomputable def B_takes_1 (n_ : List D → Rs D) : List D → Rs Fl :=
  (fFor (fItL (fCall 3 n_ (aCons (fB dSub (fVar 0) (fC (.int 1))) (aCons (fB dAdd (fVar 4) (fC (.int 1))) (aCons (fVar 2) aNil))))) (gN 5) (B_takes_2 n_))
noncomputable def B_takes (n_ : List D → Rs D) : List D → Rs Fl :=
  (fSeq (fIfS (tT (fB dEq (fVar 0) (fC (.int 0)))) (fRet (fLst (aCons (fLst aNil) aNil))) fNext)
    (fSeq (fSet 3 (fLst aNil))
    (fSeq (fFor (fItR2 (fVar 1) (fB dAdd (fB dSub (fVar 2) (fVar 0)) (fC (.int 1)))) (gN 4) (B_takes_1 n_))
    (fRet (fVar 3)))))
noncomputable def F_takes : Nat → List D → Rs D
  | 0 => fun _ => .no
  | n + 1 => fDef 6 (B_takes (F_takes n))

noncomputable def B_together_3 : List D → Rs Fl :=
  (fApp 3 (fB dAdd (fVar 4) (fVar 5)))
noncomputable def B_together_2 : List D → Rs Fl :=
  (fFor (fItL (fVar 2)) (gN 5) B_together_3)
noncomputable def B_together_1 : List D → Rs Fl :=
  (fSeq (fSet 3 (fLst aNil))
    (fSeq (fFor (fItL (fVar 1)) (gN 4) B_together_2)
    (fSet 1 (fVar 3))))
noncomputable def B_together : List D → Rs Fl :=
  (fSeq (fSet 1 (fLst (aCons (fLst aNil) aNil)))
    (fSeq (fFor (fItL (fVar 0)) (gN 2) B_together_1)
    (fRet (fVar 1))))
noncomputable def F_together : List D → Rs D := fDef 6 B_together

noncomputable def B_leaf_count (n_ : List D → Rs D) : List D → Rs Fl :=
  (fSeq (fIfS (tT (fCall 1 F_is_leaf (aCons (fVar 0) aNil))) (fRet (fC (.int 1))) fNext)
    (fRet (fCB dSum (aCons (fComp (fItL (fCall 1 F_rules_of (aCons (fVar 0) aNil))) (gN 1) fYes (fCall 1 n_ (aCons (fVar 1) aNil))) aNil))))
noncomputable def F_leaf_count : Nat → List D → Rs D
  | 0 => fun _ => .no
  | n + 1 => fDef 2 (B_leaf_count (F_leaf_count n))

noncomputable def B_listed_2 (n_ : List D → Rs D) : List D → Rs Fl :=
  (fExt 5 (fCall 1 F_together (aCons (fComp (fItL (fVar 6)) (gN 7) fYes (fB dIx (fVar 2) (fVar 7))) aNil)))
noncomputable def B_listed_1 (n_ : List D → Rs D) : List D → Rs Fl :=
  (fSeq (fApp 2 (fCall 2 n_ (aCons (fVar 4) (aCons (fVar 3) aNil))))
    (fSet 3 (fB dAdd (fVar 3) (fCall 1 (F_leaf_count 8) (aCons (fVar 4) aNil)))))
noncomputable def B_listed (n_ : List D → Rs D) : List D → Rs Fl :=
  (fSeq (fIfS (tT (fCall 1 F_is_leaf (aCons (fVar 0) aNil))) (fRet (fLst (aCons (fLst (aCons (fVar 1) aNil)) aNil))) fNext)
    (fSeq (fSet 2 (fLst aNil))
    (fSeq (fSet 3 (fVar 1))
    (fSeq (fFor (fItL (fCall 1 F_rules_of (aCons (fVar 0) aNil))) (gN 4) (B_listed_1 n_))
    (fSeq (fIfS (tT (fB dEq (fB dIx (fVar 0) (fC (.int 0))) (fC (.str "all")))) (fRet (fCall 1 F_together (aCons (fVar 2) aNil))) fNext)
    (fSeq (fSet 5 (fLst aNil))
    (fSeq (fFor (fItL (fCall 3 (F_takes 18) (aCons (fB dIx (fVar 0) (fC (.int 1))) (aCons (fC (.int 0)) (aCons (fCB dLen (aCons (fVar 2) aNil)) aNil))))) (gN 6) (B_listed_2 n_))
    (fRet (fVar 5)))))))))
noncomputable def F_listed : Nat → List D → Rs D
  | 0 => fun _ => .no
  | n + 1 => fDef 8 (B_listed (F_listed n))

noncomputable def B_choices : List D → Rs Fl :=
  (fSeq (fIfS (tT (fB dGt (fCall 1 F_count_choices (aCons (fVar 0) aNil)) (fC (.int 32)))) (fRaise "TooMany" "most" (aCons (fC (.int 32)) aNil)) fNext)
    (fRet (fCall 2 (F_listed 8) (aCons (fB dIx (fVar 0) (fC (.int 1))) (aCons (fC (.int 0)) aNil)))))
noncomputable def F_choices : List D → Rs D := fDef 1 B_choices

noncomputable def B__law_cell_at : List D → Rs Fl :=
  (fSeq (fIfS (tT (fB dLt (fVar 1) (fCB dLen (aCons (fVar 0) aNil)))) (fRet (fB dIx (fVar 0) (fVar 1))) fNext)
    (fRet (fC (.int 0))))
noncomputable def F__law_cell_at : List D → Rs D := fDef 2 B__law_cell_at

noncomputable def B__law_mixed : List D → Rs Fl :=
  (fSeq (fSet 2 (fB dMod (fVar 0) (fC (.int 2147483647))))
    (fRet (fB dMod (fB dMul (fB dMul (fB dAdd (fB dAdd (fVar 2) (fB dMul (fC (.int 31)) (fVar 1))) (fC (.int 1))) (fC (.int 48271))) (fB dAdd (fB dAdd (fVar 2) (fB dMul (fC (.int 3)) (fVar 1))) (fC (.int 7)))) (fC (.int 2147483629)))))
noncomputable def F__law_mixed : List D → Rs D := fDef 3 B__law_mixed

noncomputable def B__law_leaf : List D → Rs Fl :=
  (fSeq (fSet 1 (fB dMod (fCall 2 F__law_mixed (aCons (fVar 0) (aCons (fC (.int 1)) aNil))) (fC (.int 5))))
    (fSeq (fSet 2 (fB dAdd (fB dIx (fC (.str "xqz")) (fB dMod (fB dDiv (fVar 0) (fC (.int 7))) (fC (.int 3)))) (fB dIx (fC (.str "abcdefg")) (fB dMod (fB dDiv (fVar 0) (fC (.int 21))) (fC (.int 7))))))
    (fSeq (fIfS (tT (fB dEq (fB dMod (fB dDiv (fCall 2 F__law_mixed (aCons (fVar 0) (aCons (fC (.int 2)) aNil))) (fC (.int 5))) (fC (.int 3))) (fC (.int 0)))) (fRet (fTup (aCons (fC (.str "of")) (aCons (fVar 1) (aCons (fSl dSl (fLst (aCons (fVar 2) (aCons (fB dAdd (fVar 2) (fC (.str "x"))) aNil))) fNoP (fP (fB dAdd (fC (.int 1)) (fB dMod (fB dDiv (fVar 0) (fC (.int 147))) (fC (.int 2)))))) (aCons (fB dMod (fVar 0) (fB dPow (fC (.int 10)) (fC (.int 60)))) (aCons (fB dAdd (fC (.int 1)) (fB dMod (fB dDiv (fVar 0) (fC (.int 7))) (fC (.int 9)))) aNil))))))) fNext)
    (fSeq (fSet 3 (fSl dSl (fLst (aCons (fVar 2) (aCons (fB dAdd (fVar 2) (fC (.str "x"))) aNil))) fNoP (fP (fB dMod (fB dDiv (fVar 0) (fC (.int 147))) (fC (.int 3))))))
    (fRet (fTup (aCons (fC (.str "from")) (aCons (fVar 1) (aCons (fVar 3) (aCons (fB dMod (fB dDiv (fVar 0) (fC (.int 7))) (fB dPow (fC (.int 10)) (fC (.int 60)))) (aCons (fB dMod (fVar 0) (fB dPow (fC (.int 10)) (fC (.int 60)))) (aCons (fB dAdd (fC (.int 1)) (fB dMod (fB dDiv (fVar 0) (fC (.int 7))) (fC (.int 9)))) aNil))))))))))))
noncomputable def F__law_leaf : List D → Rs D := fDef 4 B__law_leaf

noncomputable def B__law_group : List D → Rs Fl :=
  (fSeq (fIfS (tT (fB dEq (fB dMod (fB dDiv (fVar 0) (fC (.int 7))) (fC (.int 2))) (fC (.int 0)))) (fRet (fTup (aCons (fC (.str "all")) (aCons (fVar 1) aNil)))) fNext)
    (fRet (fTup (aCons (fC (.str "some")) (aCons (fB dAdd (fC (.int 1)) (fB dMod (fB dDiv (fVar 0) (fC (.int 14))) (fCB dLen (aCons (fVar 1) aNil)))) (aCons (fVar 1) aNil))))))
noncomputable def F__law_group : List D → Rs D := fDef 2 B__law_group

noncomputable def B__law_tree_1 : List D → Rs Fl :=
  (fSeq (fSet 5 (fB dAdd (fC (.int 1)) (fB dMod (fB dDiv (fCall 2 F__law_mixed (aCons (fVar 4) (aCons (fC (.int 3)) aNil))) (fC (.int 7))) (fC (.int 4)))))
    (fSeq (fSet 6 (fC (.int 6)))
    (fSeq (fIfS (bAnd (tT (fB dGe (fB dMod (fVar 4) (fC (.int 7))) (fC (.int 4)))) (tT (fB dLe (fVar 5) (fCB dLen (aCons (fVar 2) aNil))))) (fSet 6 (fB dAdd (fC (.int 1)) (fCB dMax (aCons (fComp (fItL (fSl dSl (fVar 2) (fP (fB dSub (fCB dLen (aCons (fVar 2) aNil)) (fVar 5))) fNoP)) (gN 8) fYes (fB dIx (fVar 8) (fC (.int 1)))) aNil)))) fNext)
    (fIfS (tT (fB dLt (fVar 6) (fC (.int 6)))) (fSeq (fSet 7 (fComp (fItL (fSl dSl (fVar 2) (fP (fB dSub (fCB dLen (aCons (fVar 2) aNil)) (fVar 5))) fNoP)) (gN 8) fYes (fB dIx (fVar 8) (fC (.int 0)))))
    (fSet 2 (fB dCatL (fSl dSl (fVar 2) fNoP (fP (fB dSub (fCB dLen (aCons (fVar 2) aNil)) (fVar 5)))) (fLst (aCons (fTup (aCons (fCall 2 F__law_group (aCons (fVar 4) (aCons (fVar 7) aNil))) (aCons (fVar 6) aNil))) aNil))))) (fIfS (tT (fB dLt (fVar 3) (fC (.int 16)))) (fSeq (fSet 3 (fB dAdd (fVar 3) (fC (.int 1))))
    (fApp 2 (fTup (aCons (fCall 1 F__law_leaf (aCons (fVar 4) aNil)) (aCons (fC (.int 0)) aNil))))) fNext)))))
noncomputable def B__law_tree : List D → Rs Fl :=
  (fSeq (fSet 2 (fLst aNil))
    (fSeq (fSet 3 (fC (.int 0)))
    (fSeq (fFor (fItL (fVar 0)) (gN 4) B__law_tree_1)
    (fSeq (fIfS (tT (fB dEq (fVar 2) (fLst aNil))) (fApp 2 (fTup (aCons (fCall 1 F__law_leaf (aCons (fVar 1) aNil)) (aCons (fC (.int 0)) aNil)))) fNext)
    (fSeq (fIfS (tT (fB dEq (fCB dLen (aCons (fVar 2) aNil)) (fC (.int 1)))) (fRet (fB dIx (fB dIx (fVar 2) (fC (.int 0))) (fC (.int 0)))) fNext)
    (fRet (fCall 2 F__law_group (aCons (fVar 1) (aCons (fComp (fItL (fVar 2)) (gN 8) fYes (fB dIx (fVar 8) (fC (.int 0)))) aNil)))))))))
noncomputable def F__law_tree : List D → Rs D := fDef 9 B__law_tree

noncomputable def B__law_count_1 (n_ : List D → Rs D) : List D → Rs Fl :=
  (fSeq (fSet 3 (fCall 1 n_ (aCons (fVar 2) aNil)))
    (fSet 1 (fB dAdd (fB dAdd (fLst (aCons (fC (.int 1)) aNil)) (fComp (fItR2 (fC (.int 1)) (fCB dLen (aCons (fVar 1) aNil))) (gN 4) fYes (fB dAdd (fB dIx (fVar 1) (fVar 4)) (fB dMul (fB dIx (fVar 1) (fB dSub (fVar 4) (fC (.int 1)))) (fVar 3))))) (fLst (aCons (fB dMul (fB dIx (fVar 1) (fNeg (fC (.int 1)))) (fVar 3)) aNil)))))
noncomputable def B__law_count (n_ : List D → Rs D) : List D → Rs Fl :=
  (fSeq (fIfS (bOr (tT (fB dEq (fB dIx (fVar 0) (fC (.int 0))) (fC (.str "from")))) (tT (fB dEq (fB dIx (fVar 0) (fC (.int 0))) (fC (.str "of"))))) (fRet (fC (.int 1))) fNext)
    (fSeq (fSet 1 (fLst (aCons (fC (.int 1)) aNil)))
    (fSeq (fFor (fItL (fB dIx (fVar 0) (fNeg (fC (.int 1))))) (gN 2) (B__law_count_1 n_))
    (fSeq (fIfS (tT (fB dEq (fB dIx (fVar 0) (fC (.int 0))) (fC (.str "all")))) (fRet (fB dIx (fVar 1) (fNeg (fC (.int 1))))) fNext)
    (fRet (fB dIx (fVar 1) (fB dIx (fVar 0) (fC (.int 1)))))))))
noncomputable def F__law_count : Nat → List D → Rs D
  | 0 => fun _ => .no
  | n + 1 => fDef 5 (B__law_count (F__law_count n))

noncomputable def B__law_size (n_ : List D → Rs D) : List D → Rs Fl :=
  (fSeq (fIfS (bOr (tT (fB dEq (fB dIx (fVar 0) (fC (.int 0))) (fC (.str "from")))) (tT (fB dEq (fB dIx (fVar 0) (fC (.int 0))) (fC (.str "of"))))) (fRet (fC (.int 1))) fNext)
    (fRet (fCB dSum (aCons (fComp (fItL (fB dIx (fVar 0) (fNeg (fC (.int 1))))) (gN 1) fYes (fCall 1 n_ (aCons (fVar 1) aNil))) aNil))))
noncomputable def F__law_size : Nat → List D → Rs D
  | 0 => fun _ => .no
  | n + 1 => fDef 2 (B__law_size (F__law_size n))

noncomputable def B__law_key_1 (n_ : List D → Rs D) : List D → Rs Fl :=
  (fSeq (fSet 7 (fB dIx (fB dIx (fVar 0) (fNeg (fC (.int 1)))) (fVar 6)))
    (fSeq (fSet 8 (fCall 1 (F__law_size 8) (aCons (fVar 7) aNil)))
    (fSeq (fSet 9 (fComp (fItL (fVar 2)) (gN 11) (tT (fCh dLe dLt (fVar 5) (fVar 11) (fB dAdd (fVar 5) (fVar 8)))) (fVar 11)))
    (fSeq (fIfS (bAnd (tT (fB dEq (fB dIx (fVar 0) (fC (.int 0))) (fC (.str "all")))) (tT (fB dEq (fVar 9) (fLst aNil)))) (fRet (fC .none)) fNext)
    (fSeq (fIfS (tT (fB dNe (fVar 9) (fLst aNil))) (fSeq (fSet 10 (fCall 3 n_ (aCons (fVar 7) (aCons (fVar 5) (aCons (fVar 9) aNil)))))
    (fSeq (fIfS (tT (fB dIs (fVar 10) (fC .none))) (fRet (fC .none)) fNext)
    (fSeq (fApp 4 (fVar 6))
    (fApp 3 (fVar 10))))) fNext)
    (fSet 5 (fB dAdd (fVar 5) (fVar 8))))))))
noncomputable def B__law_key (n_ : List D → Rs D) : List D → Rs Fl :=
  (fSeq (fIfS (bOr (tT (fB dEq (fB dIx (fVar 0) (fC (.int 0))) (fC (.str "from")))) (tT (fB dEq (fB dIx (fVar 0) (fC (.int 0))) (fC (.str "of"))))) (fRet (fLst aNil)) fNext)
    (fSeq (fSet 3 (fLst aNil))
    (fSeq (fSet 4 (fLst aNil))
    (fSeq (fSet 5 (fVar 1))
    (fSeq (fFor (fItR1 (fCB dLen (aCons (fB dIx (fVar 0) (fNeg (fC (.int 1)))) aNil))) (gN 6) (B__law_key_1 n_))
    (fSeq (fIfS (bAnd (tT (fB dEq (fB dIx (fVar 0) (fC (.int 0))) (fC (.str "some")))) (tT (fB dNe (fCB dLen (aCons (fVar 4) aNil)) (fB dIx (fVar 0) (fC (.int 1)))))) (fRet (fC .none)) fNext)
    (fRet (fB dAdd (fLst (aCons (fVar 4) aNil)) (fVar 3)))))))))
noncomputable def F__law_key : Nat → List D → Rs D
  | 0 => fun _ => .no
  | n + 1 => fDef 12 (B__law_key (F__law_key n))

noncomputable def B__law_rising_1 : List D → Rs Fl :=
  (fSeq (fIfS (bOr (bNot (tT (fIsa "int" (fB dIx (fVar 0) (fVar 2))))) (bOr (tT (fIsa "bool" (fB dIx (fVar 0) (fVar 2)))) (bNot (tT (fCh dLe dLt (fC (.int 0)) (fB dIx (fVar 0) (fVar 2)) (fVar 1)))))) (fRet (fC (.bool false))) fNext)
    (fIfS (bAnd (tT (fB dGt (fVar 2) (fC (.int 0)))) (tT (fB dGe (fB dIx (fVar 0) (fB dSub (fVar 2) (fC (.int 1)))) (fB dIx (fVar 0) (fVar 2))))) (fRet (fC (.bool false))) fNext))
noncomputable def B__law_rising : List D → Rs Fl :=
  (fSeq (fIfS (bNot (tT (fIsa "list" (fVar 0)))) (fRet (fC (.bool false))) fNext)
    (fSeq (fFor (fItR1 (fCB dLen (aCons (fVar 0) aNil))) (gN 2) B__law_rising_1)
    (fRet (fB dNe (fVar 0) (fLst aNil)))))
noncomputable def F__law_rising : List D → Rs D := fDef 3 B__law_rising

noncomputable def B__law_asked : List D → Rs Fl :=
  (fSeq (fSet 1 (fC .none))
    (fSeq (fTry (fSet 1 (fCall 1 F_choices (aCons (fVar 0) aNil))) [⟨["TooMany"], some 2, (fSet 1 (fXf "most" (fVar 2)))⟩])
    (fRet (fVar 1))))
noncomputable def F__law_asked : List D → Rs D := fDef 3 B__law_asked

noncomputable def B_law_1 : List D → Rs Fl :=
  (fSeq (fIfS (bNot (tT (fCall 2 F__law_rising (aCons (fVar 5) (aCons (fCall 1 (F__law_size 8) (aCons (fVar 1) aNil)) aNil))))) (fRet (fC (.bool false))) fNext)
    (fSeq (fSet 6 (fCall 3 (F__law_key 8) (aCons (fVar 1) (aCons (fC (.int 0)) (aCons (fVar 5) aNil)))))
    (fSeq (fIfS (bOr (tT (fB dIs (fVar 6) (fC .none))) (bAnd (tT (fB dIsNot (fVar 4) (fC .none))) (bNot (tT (fB dLtA (fVar 4) (fVar 6)))))) (fRet (fC (.bool false))) fNext)
    (fSet 4 (fVar 6)))))
noncomputable def B_law : List D → Rs Fl :=
  (fSeq (fSet 1 (fCall 2 F__law_tree (aCons (fSl dSl (fVar 0) (fP (fC (.int 1))) fNoP) (aCons (fCall 2 F__law_cell_at (aCons (fVar 0) (aCons (fC (.int 0)) aNil))) aNil))))
    (fSeq (fSet 2 (fCall 1 F__law_asked (aCons (fTup (aCons (fLst aNil) (aCons (fVar 1) aNil))) aNil)))
    (fSeq (fSet 3 (fCall 1 (F__law_count 8) (aCons (fVar 1) aNil)))
    (fSeq (fIfS (tT (fB dGt (fVar 3) (fC (.int 32)))) (fRet (vAnd (fIsa "int" (fVar 2)) (fB dEq (fVar 2) (fC (.int 32))))) fNext)
    (fSeq (fIfS (bOr (bNot (tT (fIsa "list" (fVar 2)))) (tT (fB dNe (fCB dLen (aCons (fVar 2) aNil)) (fVar 3)))) (fRet (fC (.bool false))) fNext)
    (fSeq (fSet 4 (fC .none))
    (fSeq (fFor (fItL (fVar 2)) (gN 5) B_law_1)
    (fSeq (fSet 7 (fComp (fItL (fVar 2)) (gN 5) fYes (fCB dList (aCons (fVar 5) aNil))))
    (fSeq (fMut 8 1 F_choices (aCons (fTup (aCons (fLst aNil) (aCons (fVar 1) aNil))) aNil))
    (fRet (vAnd (fB dEq (fVar 2) (fVar 7)) (fB dEq (fVar 1) (fCall 2 F__law_tree (aCons (fSl dSl (fVar 0) (fP (fC (.int 1))) fNoP) (aCons (fCall 2 F__law_cell_at (aCons (fVar 0) (aCons (fC (.int 0)) aNil))) aNil)))))))))))))))
noncomputable def F_law : List D → Rs D := fDef 9 B_law

end Ck42

end
section
namespace Ck42
open PySem FL
local macro_rules
  | `(tactic| walk_at "ev") => `(tactic| simp (disch := first | omega | (simp only [List.length_map, List.length_append, List.length_set, List.length_replicate, List.length_cons, List.length_nil, List.length_range, List.length_take, List.length_drop]; omega)) only [fSeq_eq, sq_sq, sq_nx, sq_ret, fApp, fExp, fSl, fP, fNoP, dMod_ok, dDiv_ok, dMul_s, if_le, dLen_l, dLen_scr, dMin_2, dMax_2, dInt_b, dInt_i, dList_l, dSum_ints, isa_ii, isa_ib, dSl_scr, dSl_ints, dSl_l, dPow60, dCatL_l, dAdd_l, fIsa, List.getElem?_cons_zero, List.getElem?_cons_succ, Int.zero_add, map_app1, map_setI, Int.toNat_natCast, List.length_map, List.length_append, dIx_ints, dRep_z, dIx_c0, dIx_c1, dIx_c2, dIx_c3, dIx_t0, dIx_t1, dIx_t2, dIx_t3, fSetT, gT, gSeq, fSet, fB, fC, fVar_z, fVar_s, fRet, fNext, fCB, fCall, aCons, aNil, fNeg, fTup, fLst, Rs.bind_ok, Rs.nx, List.set_cons_zero, List.set_cons_succ, List.length_cons, List.length_nil, tB, tT, vOr, bAnd, bOr, bNot, dAdd, dSub, dEq_int, dNe_int, dLt, dGt, dLe, dGe, List.append_nil, List.cons_append, List.nil_append, if_true, if_false, Bool.false_eq_true, ite_true, ite_false, reduceIte, Nat.reduceLeDiff, Nat.reduceAdd, Nat.reduceEqDiff, Nat.reduceSub, List.replicate_succ, List.replicate_zero])
theorem okM_l {d : D} {ds : List D} (h : ∀ i, d ≠ .int i) (h1 : okM d = true) (h2 : okMs ds = true) : okM (.list (d :: ds)) = true := by
  have e : okMs (d :: ds) = true := by rw [okMs, h1, h2]; rfl
  unfold okM
  rw [e]
  cases d with
  | int i => exact absurd rfl (h i)
  | _ => rfl
theorem okM_n : okM (.list []) = true := by decide +kernel
theorem okMs_all {ds : List D} (h : ∀ d ∈ ds, okM d = true) : okMs ds = true := by
  induction ds with
  | nil => rw [okMs]
  | cons d ds ih => rw [okMs, h d List.mem_cons_self, ih fun e he => h e (List.mem_cons_of_mem _ he)]; rfl
theorem okM_t {ds : List D} (h : okMs ds = true) : okM (.tuple ds) = true := by rw [okM]; exact h
theorem okM_str {s : Str} : okM (.str s) = true := by rw [okM]
theorem okM_int {i : Int} : okM (.int i) = true := by rw [okM]
theorem okM_lst {ds : List D} (h : ∀ d ∈ ds, okM d = true ∧ ∀ i, d ≠ .int i) : okM (.list ds) = true := by
  cases ds with
  | nil => exact okM_n
  | cons d ds => exact okM_l (h d List.mem_cons_self).2 (h d List.mem_cons_self).1 (okMs_all fun e he => (h e (List.mem_cons_of_mem _ he)).1)
theorem okM_strs {ds : List D} (h : ∀ d ∈ ds, ∃ s, d = .str s) : okM (.list ds) = true := okM_lst fun d hd => by
  obtain ⟨s, rfl⟩ := h d hd
  exact ⟨okM_str, fun i z => nomatch z⟩
theorem okM_t5 {s : Str} {a b c : Int} {d : D} (h : okM d = true) : okM (.tuple [.str s, .int a, d, .int b, .int c]) = true := okM_t (okMs_all (all_cons okM_str (all_cons okM_int (all_cons h (all_cons okM_int (all_cons okM_int all_nil))))))
theorem okM_t6 {s : Str} {a b c e : Int} {d : D} (h : okM d = true) : okM (.tuple [.str s, .int a, d, .int b, .int c, .int e]) = true := okM_t (okMs_all (all_cons okM_str (all_cons okM_int (all_cons h (all_cons okM_int (all_cons okM_int (all_cons okM_int all_nil)))))))
def mixV (c k : Int) : Int := (c % 2147483647 + 31 * k + 1) * 48271 * (c % 2147483647 + 3 * k + 7) % 2147483629
theorem r_cell {ns : List Int} {k : Int} (h : 0 ≤ k) : F__law_cell_at [scrD ns, .int k] = .ok (.int (ns.getD k.toNat 0)) := by
  unfold F__law_cell_at
  refine Post.eq (post_def ?_)
  unfold B__law_cell_at
  walk_at "ev"
  refine sq_iff (b := decide (k < ns.length)) (by walk_at "ev") (fun c => ?_) fun c => ?_
  · have c := of_decide_eq_true c
    walk_at "ev"
    rw [dIx_scr h (by omega)]
    exact ⟨_, rfl, rfl⟩
  · have c := of_decide_eq_false c
    walk_at "ev"
    refine ⟨_, rfl, ?_⟩
    show PyData.int 0 = _
    rw [List.getD_eq_getElem?_getD, List.getElem?_eq_none (by omega)]; rfl
theorem r_mixed {c k : Int} (h : 0 ≤ k) (hk : k < 1000000000) : F__law_mixed [.int c, .int k] = .ok (.int (mixV c k)) := by
  have h0 : 0 ≤ c % 2147483647 := Int.emod_nonneg _ (by decide)
  have h1 : c % 2147483647 < 2147483647 := Int.emod_lt_of_pos _ (by decide)
  unfold F__law_mixed fDef B__law_mixed
  walk_at "ev"
  rfl
theorem r_leaf {c : Int} : Post (F__law_leaf [.int c]) fun d => ∃ (s : Str) (ds : List D), d = .tuple (.str s :: ds) ∧ (s = "from" ∨ s = "of") ∧ Fit 3 d ∧ okM d = true := by
  unfold F__law_leaf
  refine post_def ?_
  unfold B__law_leaf
  walk_at "ev"
  rw [r_mixed (by decide) (by decide)]
  walk_at "ev"
  obtain ⟨a, ea, oa, la⟩ := dIx_sE (z := "xqz") (i := c / 7 % 3) (by omega) (by show _ < ((3 : Nat) : Int); omega) (by decide +kernel) (by decide +kernel)
  obtain ⟨b, eb, ob, lb⟩ := dIx_sE (z := "abcdefg") (i := c / 21 % 7) (by omega) (by show _ < ((7 : Nat) : Int); omega) (by decide +kernel) (by decide +kernel)
  rw [ea, eb]
  have ex : (("x" : Str)).length = 1 := rfl
  have ox : okS ("x" : Str) := by decide +kernel
  have lab : (a ++ b).length = 2 := by rw [len_app]; omega
  walk_at "ev"
  have oab := okS_app oa ob
  have ecat : a.length + b.length ≤ 1000000 := by omega
  have hm : ∀ lo hi, okM (.list (cutD [PyData.str (a ++ b), PyData.str (a ++ b ++ ("x" : Str))] lo hi)) = true := fun lo hi => okM_strs fun d h => by
    have h := cutD_mem h
    simp only [List.mem_cons, List.not_mem_nil, or_false] at h
    rcases h with rfl | rfl <;> exact ⟨_, rfl⟩
  have hw : ∀ lo hi, Fit 2 (.list (cutD [PyData.str (a ++ b), PyData.str (a ++ b ++ ("x" : Str))] lo hi)) := fun lo hi => fit_list (n := 1) fun d h => by
    have h := cutD_mem h
    simp only [List.mem_cons, List.not_mem_nil, or_false] at h
    rcases h with rfl | rfl
    · exact fit_str oab
    · exact fit_str (okS_app oab ox)
  refine sq_iff (b := _) (by walk_at "ev"; rw [r_mixed (by decide) (by decide)]; walk_at "ev"; rfl) (fun _ => ?_) fun _ => ?_
  · walk_at "ev"
    refine ⟨_, rfl, "of", _, rfl, .inr rfl, fit_tuple (all_cons (fit_str (by decide +kernel)) (all_cons fit_int (all_cons (hw _ _) (all_cons fit_int (all_cons fit_int all_nil))))), okM_t5 (hm _ _)⟩
  · walk_at "ev"
    refine ⟨_, rfl, "from", _, rfl, .inl rfl, fit_tuple (all_cons (fit_str (by decide +kernel)) (all_cons fit_int (all_cons (hw _ _) (all_cons fit_int (all_cons fit_int (all_cons fit_int all_nil)))))), okM_t6 (hm _ _)⟩
/-! ### sums of products -/
def step (f : Nat → Int) (c : Int) : Nat → Int
  | 0 => 1
  | n + 1 => f (n + 1) + f n * c
def E' : List Int → Nat → Int
  | [] => fun n => if n = 0 then 1 else 0
  | c :: cs => step (E' cs) c
def PP : List Int → Int
  | [] => 1
  | c :: cs => PP cs * (1 + c)
def E (cs : List Int) : Nat → Int := E' cs.reverse
theorem E_snoc {cs : List Int} {c : Int} : E (cs ++ [c]) = step (E cs) c := by
  unfold E; rw [List.reverse_append]; rfl
theorem PP_pos : ∀ {cs : List Int}, (∀ c ∈ cs, (1 : Int) ≤ c) → 1 ≤ PP cs
  | [], _ => Int.le_refl _
  | c :: cs, h => by
    have h1 := PP_pos (cs := cs) fun c hc => h c (List.mem_cons_of_mem _ hc)
    have h2 := h c List.mem_cons_self
    have := Int.mul_le_mul_of_nonneg_left (show (1 : Int) ≤ 1 + c by omega) (show 0 ≤ PP cs by omega)
    show 1 ≤ PP cs * (1 + c)
    omega
theorem E'_lo : ∀ {cs : List Int}, (∀ c ∈ cs, (1 : Int) ≤ c) → ∀ n, 0 ≤ E' cs n ∧ (n ≤ cs.length → 1 ≤ E' cs n) ∧ (cs.length < n → E' cs n = 0) ∧ E' cs n ≤ PP cs ∧ (1 ≤ n → E' cs n + 1 ≤ PP cs)
  | [], _, n => by
    show 0 ≤ (if n = 0 then (1 : Int) else 0) ∧ (n ≤ 0 → 1 ≤ (if n = 0 then (1 : Int) else 0)) ∧ (0 < n → (if n = 0 then (1 : Int) else 0) = 0) ∧ (if n = 0 then (1 : Int) else 0) ≤ 1 ∧ (1 ≤ n → (if n = 0 then (1 : Int) else 0) + 1 ≤ 1)
    split <;> refine ⟨?_, ?_, ?_, ?_, ?_⟩ <;> omega
  | c :: cs, h, n => by
    have hc := h c List.mem_cons_self
    have hs := fun c hc => h c (List.mem_cons_of_mem _ hc)
    have hP := PP_pos hs
    have hm := Int.mul_le_mul_of_nonneg_left (show (1 : Int) ≤ c by omega) (show 0 ≤ PP cs by omega)
    have hP2 : PP (c :: cs) = PP cs + PP cs * c := by show PP cs * (1 + c) = _; rw [Int.mul_add, Int.mul_one]
    cases n with
    | zero =>
      show 0 ≤ (1 : Int) ∧ (0 ≤ cs.length + 1 → (1 : Int) ≤ 1) ∧ (cs.length + 1 < 0 → (1 : Int) = 0) ∧ 1 ≤ PP (c :: cs) ∧ _
      rw [hP2]
      refine ⟨?_, ?_, ?_, ?_, ?_⟩ <;> omega
    | succ n =>
      obtain ⟨a1, a2, a3, a4, a5⟩ := E'_lo hs (n + 1)
      obtain ⟨b1, b2, b3, b4, b5⟩ := E'_lo hs n
      have e : E' (c :: cs) (n + 1) = E' cs (n + 1) + E' cs n * c := rfl
      have m1 := Int.mul_le_mul_of_nonneg_right b4 (show 0 ≤ c by omega)
      have m0 := Int.mul_nonneg b1 (show 0 ≤ c by omega)
      have hl : (c :: cs).length = cs.length + 1 := rfl
      rw [e, hP2, hl]
      refine ⟨by omega, fun l => ?_, fun l => ?_, by omega, fun _ => by have := a5 (by omega); omega⟩
      · have b2 := b2 (by omega)
        have := Int.mul_le_mul_of_nonneg_left hc (show 0 ≤ E' cs n by omega)
        omega
      · rw [a3 (by omega), b3 (by omega)]; omega
/-- a rule: how deep, of how many leaves, as data, its choices -/
abbrev RR := D × Nat × Int
inductive Rule : Nat → Nat → D → Int → Prop
  | leaf {k : Nat} {d : D} {s : Str} {ds : List D} (e : d = .tuple (.str s :: ds)) (h : s = "from" ∨ s = "of") (f : Fit 3 d ∧ okM d = true) : Rule k 1 d 1
  | all {k : Nat} {rs : List RR} (h0 : rs ≠ []) (h : ∀ r ∈ rs, Rule k r.2.1 r.1 r.2.2) : Rule (k + 1) (rs.map (·.2.1)).sum (.tuple [.str "all", .list (rs.map (·.1))]) (E (rs.map (·.2.2)) rs.length)
  | some {k n : Nat} {rs : List RR} (h0 : 1 ≤ n) (hn : n ≤ rs.length) (h : ∀ r ∈ rs, Rule k r.2.1 r.1 r.2.2) : Rule (k + 1) (rs.map (·.2.1)).sum (.tuple [.str "some", .int n, .list (rs.map (·.1))]) (E (rs.map (·.2.2)) n)
theorem Rule.up {k l : Nat} {d : D} {c : Int} (h : Rule k l d c) : Rule (k + 1) l d c := by
  induction h with
  | leaf e h f => exact .leaf e h f
  | all h0 h ih => exact .all h0 ih
  | some h0 hn h ih => exact .some h0 hn ih
theorem Rule.mono {k k' l : Nat} {d : D} {c : Int} (h : Rule k l d c) (le : k ≤ k') : Rule k' l d c := by
  induction le with
  | refl => exact h
  | step _ ih => exact ih.up
theorem Rule.fit {k l : Nat} {d : D} {c : Int} (h : Rule k l d c) : Fit (2 * k + 3) d := by
  induction h with
  | leaf e h f => exact f.1.mono (by omega)
  | @all k rs h0 h ih =>
    refine (fit_tuple (n := 2 * k + 4) (all_cons (fit_str (by decide +kernel)) (all_cons (fit_list (n := 2 * k + 3) fun d hd => ?_) all_nil)))
    obtain ⟨r, hr, rfl⟩ := List.mem_map.mp hd
    exact ih r hr
  | @some k n rs h0 hn h ih =>
    refine (fit_tuple (n := 2 * k + 4) (all_cons (fit_str (by decide +kernel)) (all_cons fit_int (all_cons (fit_list (n := 2 * k + 3) fun d hd => ?_) all_nil))))
    obtain ⟨r, hr, rfl⟩ := List.mem_map.mp hd
    exact ih r hr
theorem PP_le : ∀ {rs : List RR}, (∀ r ∈ rs, (1 : Int) ≤ r.2.2 ∧ r.2.2 + 1 ≤ 2 ^ r.2.1) → PP (rs.map (·.2.2)) ≤ 2 ^ (rs.map (·.2.1)).sum
  | [], _ => by decide
  | r :: rs, h => by
    have ih := PP_le (rs := rs) fun r hr => h r (List.mem_cons_of_mem _ hr)
    have h1 := h r List.mem_cons_self
    have hp := PP_pos (cs := rs.map (·.2.2)) fun c hc => by
      obtain ⟨r, hr, rfl⟩ := List.mem_map.mp hc
      exact (h r (List.mem_cons_of_mem _ hr)).1
    show PP (rs.map (·.2.2)) * (1 + r.2.2) ≤ 2 ^ (r.2.1 + (rs.map (·.2.1)).sum)
    rw [Int.pow_add, Int.mul_comm (2 ^ r.2.1)]
    exact Int.mul_le_mul ih (by omega) (by omega) (Int.le_of_lt (Int.pow_pos (by decide)))
theorem sum_rev : ∀ xs : List Nat, xs.reverse.sum = xs.sum
  | [] => rfl
  | x :: xs => by rw [List.reverse_cons, List.sum_append, sum_rev xs]; simp [Nat.add_comm]
theorem sum_take : ∀ (xs : List Nat) (j : Nat), (xs.take j).sum ≤ xs.sum
  | [], j => by cases j <;> exact Nat.le_refl _
  | x :: xs, 0 => Nat.zero_le _
  | x :: xs, j + 1 => by have := sum_take xs j; rw [List.take_succ_cons, List.sum_cons, List.sum_cons]; omega
theorem E_lo {rs : List RR} (h : ∀ r ∈ rs, (1 : Int) ≤ r.2.2 ∧ r.2.2 + 1 ≤ 2 ^ r.2.1) (n : Nat) :
    0 ≤ E (rs.map (·.2.2)) n ∧ (n ≤ rs.length → 1 ≤ E (rs.map (·.2.2)) n) ∧ (rs.length < n → E (rs.map (·.2.2)) n = 0) ∧ E (rs.map (·.2.2)) n ≤ 2 ^ (rs.map (·.2.1)).sum ∧ (1 ≤ n → E (rs.map (·.2.2)) n + 1 ≤ 2 ^ (rs.map (·.2.1)).sum) := by
  have hr : ∀ r ∈ rs.reverse, (1 : Int) ≤ r.2.2 ∧ r.2.2 + 1 ≤ 2 ^ r.2.1 := fun r hr => h r (List.mem_reverse.mp hr)
  have e1 : E (rs.map (·.2.2)) = E' (rs.reverse.map (·.2.2)) := by unfold E; rw [List.map_reverse]
  have e2 : (rs.map (·.2.1)).sum = (rs.reverse.map (·.2.1)).sum := by rw [List.map_reverse, sum_rev]
  have hP := PP_le hr
  obtain ⟨a, b, c, d, e⟩ := E'_lo (cs := rs.reverse.map (·.2.2)) (fun c hc => by
      obtain ⟨r, hr', rfl⟩ := List.mem_map.mp hc
      exact (hr r hr').1) n
  rw [List.length_map, List.length_reverse] at b c
  rw [e1, e2]
  exact ⟨a, b, c, Int.le_trans d hP, fun h => Int.le_trans (e h) hP⟩
theorem Rule.lo {k l : Nat} {d : D} {c : Int} (h : Rule k l d c) : 1 ≤ c ∧ c + 1 ≤ 2 ^ l := by
  induction h with
  | leaf e h f => exact ⟨by decide, by decide⟩
  | @all k rs h0 h ih =>
    obtain ⟨a, b, c, d, e⟩ := E_lo ih rs.length
    exact ⟨b (Nat.le_refl _), e (List.length_pos_iff.mpr h0)⟩
  | @some k n rs h0 hn h ih =>
    obtain ⟨a, b, c, d, e⟩ := E_lo ih n
    exact ⟨b hn, e h0⟩
theorem Rule.l1 {k l : Nat} {d : D} {c : Int} (h : Rule k l d c) : 1 ≤ l := by
  rcases Nat.eq_zero_or_pos l with e | e
  · have := h.lo
    rw [e] at this
    have h2 : (2 : Int) ^ 0 = 1 := rfl
    omega
  · exact e
theorem dIx_map {f : Nat → D} {n : Nat} {i : Int} (h : 0 ≤ i) (hl : i < n) : dIx (.list ((List.range n).map f)) (.int i) = .ok (f i.toNat) := by
  rw [dIx_l h (by rw [List.length_map, List.length_range]; omega), List.getElem_map, List.getElem_range]
theorem dIx_last {f : Nat → D} {n : Nat} : dIx (.list ((List.range (n + 1)).map f)) (.int (-1)) = .ok (f n) := by
  rw [List.range_succ, List.map_append]; exact dIx_neg1
theorem len_sum {rs : List RR} (h : ∀ r ∈ rs, 1 ≤ r.2.1) : rs.length ≤ (rs.map (·.2.1)).sum := by
  induction rs with
  | nil => exact Nat.le_refl _
  | cons r rs ih =>
    have := ih fun r hr => h r (List.mem_cons_of_mem _ hr)
    have := h r List.mem_cons_self
    rw [List.map_cons, List.sum_cons, List.length_cons]; omega
theorem p16 {l : Nat} (h : l ≤ 16) : (2 : Int) ^ l ≤ 65536 := by
  have h1 : 2 ^ l ≤ 2 ^ 16 := Nat.pow_le_pow_right (by decide) h
  have h2 : ((2 ^ l : Nat) : Int) = (2 : Int) ^ l := Int.natCast_pow 2 l
  have h3 : 2 ^ 16 = 65536 := by decide
  omega
theorem r_isleaf {s : Str} {ds : List D} (h : okS s) : F_is_leaf [.tuple (.str s :: ds)] = .ok (.bool (s == ("from" : Str) || s == ("of" : Str))) := by
  unfold F_is_leaf
  refine Post.eq (post_def ?_)
  unfold B_is_leaf
  walk_at "ev"
  rw [dEq_str h (by decide +kernel), dEq_str h (by decide +kernel)]
  walk_at "ev"
  cases (s == ("from" : Str)) <;> exact ⟨_, rfl, rfl⟩
theorem r_rules2 {a : D} {b : D} : F_rules_of [.tuple [a, b]] = .ok b := rfl
theorem r_rules3 {a c : D} {b : D} : F_rules_of [.tuple [a, c, b]] = .ok b := rfl
def ED (cs : List Int) (k : Nat) : D := .int (E cs k)
theorem ED_next {cs : List Int} {c : Int} {m : Nat} : PyData.int 1 :: (List.range m).map (fun k => PyData.int (E cs (k + 1) + E cs k * c)) = (List.range (m + 1)).map (ED (cs ++ [c])) := by
  rw [List.range_succ_eq_map, List.map_cons, List.map_map]
  refine List.cons_eq_cons.mpr ⟨?_, List.map_congr_left fun k _ => ?_⟩
  · show _ = PyData.int _; rw [E_snoc]; rfl
  · show _ = PyData.int _; rw [E_snoc]; rfl
theorem take_map {rs : List RR} {j : Nat} (h : j < rs.length) : (rs.take (j + 1)).map (·.2.2) = (rs.take j).map (·.2.2) ++ [rs[j].2.2] := by
  rw [take_snoc h, List.map_append]; rfl
theorem take_lo {rs : List RR} (h : ∀ r ∈ rs, (1 : Int) ≤ r.2.2 ∧ r.2.2 + 1 ≤ 2 ^ r.2.1) (hl : (rs.map (·.2.1)).sum ≤ 16) (j n : Nat) :
    0 ≤ E ((rs.take j).map (·.2.2)) n ∧ E ((rs.take j).map (·.2.2)) n ≤ 65536 ∧ ((rs.take j).length < n → E ((rs.take j).map (·.2.2)) n = 0) := by
  obtain ⟨a, b, c, d, e⟩ := E_lo (rs := rs.take j) (fun r hr => h r (List.mem_of_mem_take hr)) n
  refine ⟨a, Int.le_trans d (p16 ?_), c⟩
  rw [List.map_take]
  exact Nat.le_trans (sum_take _ _) hl
theorem le_sum : ∀ {xs : List Nat} {x : Nat}, x ∈ xs → x ≤ xs.sum
  | y :: xs, x, h => by
    rw [List.sum_cons]
    cases h with
    | head => omega
    | tail _ h => have := le_sum h; omega
theorem one_le {rs : List RR} (h : ∀ r ∈ rs, (1 : Int) ≤ r.2.2 ∧ r.2.2 + 1 ≤ 2 ^ r.2.1) (h1 : ∀ r ∈ rs, 1 ≤ r.2.1) (hl : (rs.map (·.2.1)).sum ≤ 16) (r : RR) (hr : r ∈ rs) : 1 ≤ r.2.2 ∧ r.2.2 ≤ 65536 := by
  have : r.2.1 ≤ (rs.map (·.2.1)).sum := le_sum (List.mem_map.mpr ⟨r, hr, rfl⟩)
  have := p16 (l := r.2.1) (by omega)
  have := h r hr
  omega
structure Kids (m : Nat) (rs : List RR) : Prop where
  c : ∀ r ∈ rs, F_count_rule m [r.1] = .ok (.int r.2.2) ∧ F__law_count m [r.1] = .ok (.int r.2.2)
  lo : ∀ r ∈ rs, (1 : Int) ≤ r.2.2 ∧ r.2.2 + 1 ≤ 2 ^ r.2.1
  l1 : ∀ r ∈ rs, 1 ≤ r.2.1
  l : (rs.map (·.2.1)).sum ≤ 16
theorem Kids.len {m : Nat} {rs : List RR} (h : Kids m rs) : rs.length ≤ 16 := Nat.le_trans (len_sum h.l1) h.l
theorem ints_of {rs : List RR} : rs.map (fun r => PyData.int r.2.2) = (rs.map (·.2.2)).map .int := (List.map_map ..).symm
theorem r_all {m : Nat} {rs : List RR} (h0 : rs ≠ []) (K : Kids m rs) : F_count_rule (m + 1) [.tuple [.str "all", .list (rs.map (·.1))]] = .ok (.int (E (rs.map (·.2.2)) rs.length)) := by
  have hl := K.len
  unfold F_count_rule
  refine Post.eq (post_def ?_)
  unfold B_count_rule
  walk_at "ev"
  refine sq_iff (b := false) (by walk_at "ev"; rw [r_isleaf (by decide +kernel)]; rfl) (fun c => by cases c) fun _ => ?_
  walk_at "ev"
  rw [comp_all (·.1) (fun r : RR => .int r.2.2) rs (it_l (by walk_at "ev"; rw [r_rules2])) (by omega) (fun r hr => by walk_at "ev"; rw [(K.c r hr).1])]
  walk_at "ev"
  refine sq_iff (b := true) (by walk_at "ev"; rw [dEq_self (fit_str (n := 0) (by decide +kernel))]; walk_at "ev") (fun _ => ?_) fun c => by cases c
  walk_at "ev"
  refine sq_in (fun r : RR => .int r.2.2) rs (fun j ρ => ∃ g3 g4 g5 g6 g7 a b : D, ρ = [a, b, .int (E ((rs.take j).map (·.2.2)) (rs.take j).length), g3, g4, g5, g6, g7]) (it_l rfl) ⟨_, _, _, _, _, _, _, rfl⟩ ?_ ?_
  · rintro j hj ρ ⟨g3, g4, g5, g6, g7, a, b, rfl⟩
    unfold B_count_rule_1
    obtain ⟨e0, e1, _⟩ := take_lo K.lo K.l j (rs.take j).length
    have ec := one_le K.lo K.l1 K.l rs[j] (List.getElem_mem hj)
    walk_at "ev"
    refine ⟨_, rfl, .int rs[j].2.2, g4, g5, g6, g7, a, b, ?_⟩
    have q : (rs.take (j + 1)).length = (rs.take j).length + 1 := by rw [take_snoc hj, List.length_append]; rfl
    rw [take_map hj, q, E_snoc]
    have e3 := (take_lo K.lo K.l j ((rs.take j).length + 1)).2.2 (by omega)
    show _ = [_, _, PyData.int (E _ ((rs.take j).length + 1) + E _ (rs.take j).length * _), _, _, _, _, _]
    rw [e3, Int.zero_add]
  · rintro ρ ⟨g3, g4, g5, g6, g7, a, b, rfl⟩
    walk_at "ev"
    rw [List.take_length]
    exact ⟨_, rfl, rfl⟩
theorem rep_1 {n : Nat} {rs : List RR} : PyData.int 1 :: (List.replicate n (0 : Int)).map PyData.int = (List.range (n + 1)).map (ED ((rs.take 0).map (·.2.2))) := by
  rw [List.take_zero, List.map_nil]
  rw [List.range_succ_eq_map, List.map_cons, List.map_map]
  refine List.cons_eq_cons.mpr ⟨rfl, ?_⟩
  rw [List.map_replicate]
  refine (List.eq_replicate_iff.mpr ⟨by rw [List.length_map, List.length_range], fun d hd => ?_⟩).symm
  obtain ⟨k, _, rfl⟩ := List.mem_map.mp hd
  rfl
theorem r_some {m n : Nat} {rs : List RR} (h0 : 1 ≤ n) (hn : n ≤ rs.length) (K : Kids m rs) : F_count_rule (m + 1) [.tuple [.str "some", .int n, .list (rs.map (·.1))]] = .ok (.int (E (rs.map (·.2.2)) n)) := by
  have hl := K.len
  unfold F_count_rule
  refine Post.eq (post_def ?_)
  unfold B_count_rule
  walk_at "ev"
  refine sq_iff (b := false) (by walk_at "ev"; rw [r_isleaf (by decide +kernel)]; rfl) (fun c => by cases c) fun _ => ?_
  walk_at "ev"
  rw [comp_all (·.1) (fun r : RR => .int r.2.2) rs (it_l (by walk_at "ev"; rw [r_rules3])) (by omega) (fun r hr => by walk_at "ev"; rw [(K.c r hr).1])]
  walk_at "ev"
  refine sq_iff (b := false) (by walk_at "ev"; rw [dEq_str (by decide +kernel) (by decide +kernel)]; rfl) (fun c => by cases c) fun _ => ?_
  walk_at "ev"
  have hd : dMul (.list [.int 0]) (.int n) = .ok (.list ((List.replicate n (0 : Int)).map .int)) := dMul_z (by omega)
  rw [hd]
  walk_at "ev"
  rw [rep_1 (rs := rs)]
  refine sq_in (fun r : RR => .int r.2.2) rs (fun j ρ => ∃ g2 g3 g6 g7 a b : D, ρ = [a, b, g2, g3, .int n, .list ((List.range (n + 1)).map (ED ((rs.take j).map (·.2.2)))), g6, g7]) (it_l rfl) ⟨_, _, _, _, _, _, rfl⟩ ?_ ?_
  · rintro j hj ρ ⟨g2, g3, g6, g7, a, b, rfl⟩
    unfold B_count_rule_2
    have ec := one_le K.lo K.l1 K.l rs[j] (List.getElem_mem hj)
    simp only [fSet, fB, fLst, aCons, aNil, fC, Rs.bind_ok, List.set_cons_zero, List.set_cons_succ]
    rw [comp_all (fun k : Nat => .int (1 + (k : Int))) (fun k : Nat => .int (E ((rs.take j).map (·.2.2)) (k + 1) + E ((rs.take j).map (·.2.2)) k * rs[j].2.2)) (List.range n) (by
      rw [it_r2 (l := 1) (n := n + 1) rfl (by walk_at "ev") (by omega), show ((n : Int) + 1 - 1).toNat = n by omega]; rfl) (by rw [List.length_range]; omega) (fun k hk => by
        have hk := List.mem_range.mp hk
        obtain ⟨e0, e1, _⟩ := take_lo K.lo K.l j k
        walk_at "ev"
        rw [dIx_map (by omega) (by omega), dIx_map (by omega) (by omega), show (1 + (k : Int)).toNat = k + 1 by omega, show (1 + (k : Int) - 1).toNat = k by omega]
        unfold ED
        walk_at "ev")]
    walk_at "ev"
    refine ⟨_, rfl, g2, .int rs[j].2.2, g6, g7, a, b, ?_⟩
    rw [take_map hj, ED_next]
  · rintro ρ ⟨g2, g3, g6, g7, a, b, rfl⟩
    walk_at "ev"
    rw [List.take_length, dIx_map (by omega) (by omega)]
    exact ⟨_, rfl, rfl⟩
theorem ED_next2 {cs : List Int} {c : Int} {m : Nat} (h : E cs (m + 1) = 0) : PyData.int 1 :: ((List.range m).map (fun k => PyData.int (E cs (k + 1) + E cs k * c)) ++ [PyData.int (E cs m * c)]) = (List.range (m + 1 + 1)).map (ED (cs ++ [c])) := by
  rw [← ED_next, List.range_succ, List.map_append]
  refine congrArg (List.cons _) (congrArg (_ ++ ·) ?_)
  show _ = [PyData.int _]
  rw [h, Int.zero_add]
theorem r_lcount {m : Nat} {d : D} {rs : List RR} (K : Kids m rs) (hd : dIx d (.int (-1)) = .ok (.list (rs.map (·.1)))) (s : Str) (hs : dIx d (.int 0) = .ok (.str s)) (n : Nat) (hn : n ≤ rs.length) (he : (s = "all" ∧ n = rs.length) ∨ (s = "some" ∧ dIx d (.int 1) = .ok (.int n))) :
    F__law_count (m + 1) [d] = .ok (.int (E (rs.map (·.2.2)) n)) := by
  have hl := K.len
  have ok : okS s := by rcases he with ⟨rfl, _⟩ | ⟨rfl, _⟩ <;> decide +kernel
  have hf : (s == ("from" : Str)) = false := by rcases he with ⟨rfl, _⟩ | ⟨rfl, _⟩ <;> decide +kernel
  have ho : (s == ("of" : Str)) = false := by rcases he with ⟨rfl, _⟩ | ⟨rfl, _⟩ <;> decide +kernel
  unfold F__law_count
  refine Post.eq (post_def ?_)
  unfold B__law_count
  walk_at "ev"
  refine sq_iff (b := false || false) (bOr_ok (by walk_at "ev"; rw [hs]; walk_at "ev"; rw [dEq_str ok (by decide +kernel), hf]; walk_at "ev") (by walk_at "ev"; rw [hs]; walk_at "ev"; rw [dEq_str ok (by decide +kernel), ho]; walk_at "ev")) (fun c => by cases c) fun _ => ?_
  walk_at "ev"
  refine sq_in (fun r : RR => r.1) rs (fun j ρ => ∃ g2 g3 g4 : D, ρ = [d, .list ((List.range (j + 1)).map (ED ((rs.take j).map (·.2.2)))), g2, g3, g4]) (it_l (by walk_at "ev"; rw [show (-1 : Int) = -1 from rfl, hd])) ⟨_, _, _, rfl⟩ ?_ ?_
  · rintro j hj ρ ⟨g2, g3, g4, rfl⟩
    unfold B__law_count_1
    have ec := one_le K.lo K.l1 K.l rs[j] (List.getElem_mem hj)
    obtain ⟨f0, f1, _⟩ := take_lo K.lo K.l j j
    walk_at "ev"
    rw [(K.c _ (List.getElem_mem hj)).2]
    walk_at "ev"
    rw [comp_all (fun k : Nat => .int (1 + (k : Int))) (fun k : Nat => .int (E ((rs.take j).map (·.2.2)) (k + 1) + E ((rs.take j).map (·.2.2)) k * rs[j].2.2)) (List.range j) (by
      rw [it_r2 (l := 1) (n := j + 1) rfl (by walk_at "ev"; rw [List.length_range]; rfl) (by omega), show ((j : Int) + 1 - 1).toNat = j by omega]; rfl) (by rw [List.length_range]; omega) (fun k hk => by
        have hk := List.mem_range.mp hk
        obtain ⟨e0, e1, _⟩ := take_lo K.lo K.l j k
        walk_at "ev"
        rw [dIx_map (by omega) (by omega), dIx_map (by omega) (by omega), show (1 + (k : Int)).toNat = k + 1 by omega, show (1 + (k : Int) - 1).toNat = k by omega]
        unfold ED
        walk_at "ev")]
    walk_at "ev"
    rw [dIx_last]
    simp only [ED]
    walk_at "ev"
    refine ⟨_, rfl, rs[j].1, .int rs[j].2.2, g4, ?_⟩
    rw [take_map hj]
    have hj' : (rs.take j).length = j := by rw [List.length_take]; omega
    exact congrArg (fun x => [d, PyData.list x, rs[j].1, .int rs[j].2.2, g4]) (ED_next2 ((take_lo K.lo K.l j (j + 1)).2.2 (by omega)))
  · rintro ρ ⟨g2, g3, g4, rfl⟩
    rw [List.take_length]
    rcases he with ⟨rfl, rfl⟩ | ⟨rfl, hi⟩
    · refine sq_iff (b := true) (by walk_at "ev"; rw [hs]; walk_at "ev"; rw [dEq_self (fit_str (n := 0) (by decide +kernel))]; walk_at "ev") (fun _ => ?_) fun c => by cases c
      walk_at "ev"
      rw [dIx_last]
      exact ⟨_, rfl, rfl⟩
    · refine sq_iff (b := false) (by walk_at "ev"; rw [hs]; walk_at "ev"; rw [dEq_str (by decide +kernel) (by decide +kernel)]; rfl) (fun c => by cases c) fun _ => ?_
      walk_at "ev"
      rw [hi]
      walk_at "ev"
      rw [dIx_map (by omega) (by omega)]
      exact ⟨_, rfl, rfl⟩
theorem r_counts {k l : Nat} {d : D} {c : Int} (h : Rule k l d c) : l ≤ 16 → ∀ m, k < m → F_count_rule m [d] = .ok (.int c) ∧ F__law_count m [d] = .ok (.int c) := by
  induction h with
  | @leaf k d s ds e h f =>
    rintro - m hm
    obtain ⟨m, rfl⟩ : ∃ m', m = m' + 1 := ⟨m - 1, by omega⟩
    subst e
    have ok : okS s := by rcases h with rfl | rfl <;> decide +kernel
    have hb : (s == ("from" : Str) || s == ("of" : Str)) = true := by rcases h with rfl | rfl <;> decide +kernel
    constructor
    · unfold F_count_rule
      refine Post.eq (post_def ?_)
      unfold B_count_rule
      walk_at "ev"
      refine sq_iff (b := true) (by walk_at "ev"; rw [r_isleaf ok, hb]; walk_at "ev") (fun _ => ?_) fun c => by cases c
      walk_at "ev"
      exact ⟨_, rfl, rfl⟩
    · unfold F__law_count
      refine Post.eq (post_def ?_)
      unfold B__law_count
      walk_at "ev"
      refine sq_iff (b := true) (by rw [← hb]; refine bOr_ok ?_ ?_ <;> (walk_at "ev"; rw [dEq_str ok (by decide +kernel)]; walk_at "ev")) (fun _ => ?_) fun c => by cases c
      walk_at "ev"
      exact ⟨_, rfl, rfl⟩
  | @all k rs h0 h ih =>
    rintro hl m hm
    obtain ⟨m, rfl⟩ : ∃ m', m = m' + 1 := ⟨m - 1, by omega⟩
    have K : Kids m rs := ⟨fun r hr => ih r hr (Nat.le_trans (le_sum (List.mem_map.mpr ⟨r, hr, rfl⟩)) hl) m (by omega), fun r hr => (h r hr).lo, fun r hr => (h r hr).l1, hl⟩
    exact ⟨r_all h0 K, r_lcount K rfl "all" rfl _ (Nat.le_refl _) (.inl ⟨rfl, rfl⟩)⟩
  | @some k n rs h0 hn h ih =>
    rintro hl m hm
    obtain ⟨m, rfl⟩ : ∃ m', m = m' + 1 := ⟨m - 1, by omega⟩
    have K : Kids m rs := ⟨fun r hr => ih r hr (Nat.le_trans (le_sum (List.mem_map.mpr ⟨r, hr, rfl⟩)) hl) m (by omega), fun r hr => (h r hr).lo, fun r hr => (h r hr).l1, hl⟩
    exact ⟨r_some h0 hn K, r_lcount K rfl "some" rfl _ hn (.inr ⟨rfl, rfl⟩)⟩
/-! ### the tree -/
structure En where
  d : D
  l : Nat
  c : Int
  h : Nat
def En.e (s : En) : D := .tuple [s.d, .int s.h]
def En.ok (s : En) : Prop := Rule s.h s.l s.d s.c ∧ s.h ≤ 5
theorem r_group {c : Int} {ds : List D} (h : ds ≠ []) : ∃ d, F__law_group [.int c, .list ds] = .ok d ∧ (d = .tuple [.str "all", .list ds] ∨ ∃ n : Nat, 1 ≤ n ∧ n ≤ ds.length ∧ d = .tuple [.str "some", .int n, .list ds]) := by
  have hl : 0 < ds.length := List.length_pos_iff.mpr h
  suffices h : Post (F__law_group [.int c, .list ds]) fun d => (d = .tuple [.str "all", .list ds] ∨ ∃ n : Nat, 1 ≤ n ∧ n ≤ ds.length ∧ d = .tuple [.str "some", .int n, .list ds]) from h
  unfold F__law_group
  refine post_def ?_
  unfold B__law_group
  walk_at "ev"
  refine sq_iff (b := _) (by walk_at "ev"; rfl) (fun _ => ?_) fun _ => ?_
  · walk_at "ev"
    exact ⟨_, rfl, .inl rfl⟩
  · walk_at "ev"
    have hm : 0 ≤ c / 14 % (ds.length : Int) := Int.emod_nonneg _ (by omega)
    have hm2 : c / 14 % (ds.length : Int) < ds.length := Int.emod_lt_of_pos _ (by omega)
    refine ⟨_, rfl, .inr ⟨(1 + c / 14 % (ds.length : Int)).toNat, by omega, by omega, ?_⟩⟩
    rw [Int.toNat_of_nonneg (by omega)]
theorem g_rule {c : Int} {k : Nat} {ss : List En} (h : ss ≠ []) (hr : ∀ s ∈ ss, Rule k s.l s.d s.c) : ∃ d c', F__law_group [.int c, .list (ss.map (·.d))] = .ok d ∧ Rule (k + 1) (ss.map (·.l)).sum d c' := by
  let rs : List RR := ss.map fun s => (s.d, s.l, s.c)
  have e1 : ss.map (·.d) = rs.map (·.1) := by rw [List.map_map]; rfl
  have e2 : ss.map (·.l) = rs.map (·.2.1) := by rw [List.map_map]; rfl
  have h0 : rs ≠ [] := fun e => h (List.map_eq_nil_iff.mp e)
  have hk : ∀ r ∈ rs, Rule k r.2.1 r.1 r.2.2 := fun r hr' => by
    obtain ⟨s, hs, rfl⟩ := List.mem_map.mp hr'
    exact hr s hs
  obtain ⟨d, e, hd⟩ := r_group (c := c) (ds := rs.map (·.1)) (fun e => h0 (List.map_eq_nil_iff.mp e))
  rw [e1, e2]
  rcases hd with rfl | ⟨n, n1, n2, rfl⟩
  · exact ⟨_, _, e, .all h0 hk⟩
  · rw [List.length_map] at n2
    exact ⟨_, _, e, .some n1 n2 hk⟩
theorem leaf_rule {c : Int} : ∃ d, F__law_leaf [.int c] = .ok d ∧ Rule 0 1 d 1 := by
  obtain ⟨d, e, s, ds, e2, h, f⟩ := r_leaf (c := c)
  exact ⟨d, e, .leaf e2 h f⟩
structure Stk (st : List En) (l : Nat) : Prop where
  ok : ∀ s ∈ st, s.ok
  sl : (st.map (·.l)).sum = l
  l16 : l ≤ 16
theorem len_sumE {st : List En} (h : ∀ s ∈ st, s.ok) : st.length ≤ (st.map (·.l)).sum := by
  induction st with
  | nil => exact Nat.le_refl _
  | cons s st ih =>
    have := ih fun s hs => h s (List.mem_cons_of_mem _ hs)
    have := (h s List.mem_cons_self).1.l1
    rw [List.map_cons, List.sum_cons, List.length_cons]; omega
theorem Stk.len {st : List En} {l : Nat} (h : Stk st l) : st.length ≤ 16 := by have := len_sumE h.ok; have := h.sl; have := h.l16; omega
theorem stk0 : Stk [] 0 := ⟨(fun _ h => by cases h), rfl, by decide⟩
theorem Stk.push {st : List En} {l : Nat} (h : Stk st l) (h2 : l < 16) {d : D} (hd : Rule 0 1 d 1) : Stk (st ++ [⟨d, 1, 1, 0⟩]) (l + 1) :=
  ⟨fun s hs => by
    rcases List.mem_append.mp hs with hs | hs
    · exact h.ok s hs
    · rw [List.mem_singleton.mp hs]; exact ⟨hd, Nat.zero_le _⟩, by rw [List.map_append, List.sum_append, h.sl]; rfl, by omega⟩
theorem cutE {st : List En} (lo hi : Option Int) : cutD (st.map En.e) lo hi = (cutL st lo hi).map En.e := cutD_map _ _ _ _
theorem comp_col {it : List D → Rs (List D)} {ρ : List D} {st : List En} (i : Nat) (k : Int) (q : En → D) (hi : i < ρ.length) (hit : it ρ = .ok (st.map En.e)) (hl : st.length ≤ 16) (hq : ∀ s : En, dIx s.e (.int k) = .ok (q s)) :
    fComp it (gN i) fYes (fB dIx (fVar i) (fC (.int k))) ρ = .ok (.list (st.map q)) :=
  comp_all En.e q st hit (by omega) fun s _ => by
    have e : fVar i (ρ.set i s.e) = .ok s.e := by unfold fVar; rw [List.getElem?_set_self hi]
    unfold fB
    rw [e]
    exact hq s
theorem dEq_nil {n : Nat} {ds : List D} (h : Fit n (.list ds)) (l : n ≤ 64 := by decide) : dEq (.list ds) (.list []) = .ok (.bool ds.isEmpty) := by
  unfold dEq
  rw [if_pos ⟨h.sh l, (fit_list (n := 0) all_nil).sh⟩]
  cases ds <;> rfl
theorem Stk.fit {st : List En} {l : Nat} (h : Stk st l) : Fit 20 (.list (st.map En.e)) := (fit_list (n := 14) fun d hd => by
    obtain ⟨s, hs, rfl⟩ := List.mem_map.mp hd
    exact fit_tuple (n := 13) (all_cons ((h.ok s hs).1.fit.mono (by have := (h.ok s hs).2; omega)) (all_cons fit_int all_nil))).mono (by decide)
theorem r_tree {cs : List Int} {c : Int} : Post (F__law_tree [.list (cs.map .int), .int c]) fun d => ∃ l c', Rule 6 l d c' ∧ l ≤ 16 := by
  unfold F__law_tree
  refine post_def ?_
  unfold B__law_tree
  walk_at "ev"
  refine sq_in (.int) cs (fun j ρ => ∃ (st : List En) (l : Nat) (g4 g5 g6 g7 g8 : D), ρ = [.list (cs.map .int), .int c, .list (st.map En.e), .int l, g4, g5, g6, g7, g8] ∧ Stk st l) (it_l rfl) ⟨[], 0, _, _, _, _, _, rfl, stk0⟩ ?_ ?_
  · rintro j hj ρ ⟨st, l, g4, g5, g6, g7, g8, rfl, S⟩
    generalize cs[j] = x
    have hlen := S.len
    unfold B__law_tree_1
    walk_at "ev"
    rw [r_mixed (by decide) (by decide)]
    walk_at "ev"
    obtain ⟨m, em, m1, m4⟩ : ∃ m : Nat, 1 + mixV x 3 / 7 % 4 = (m : Int) ∧ 1 ≤ m ∧ m ≤ 4 := ⟨(1 + mixV x 3 / 7 % 4).toNat, by omega, by omega, by omega⟩
    rw [em]
    have low : Post (fIfS (fun ρ => (fB dLt (fVar 3) (fC (.int 16)) ρ).bind fun d => match d with | .bool b => .ok b | _ => .no) (fSeq (fSet 3 (fB dAdd (fVar 3) (fC (.int 1)))) (fApp 2 (fTup (aCons (fCall 1 F__law_leaf (aCons (fVar 4) aNil)) (aCons (fC (.int 0)) aNil))))) fNext [.list (cs.map .int), .int c, .list (st.map En.e), .int l, .int x, .int m, .int 6, g7, g8]) (Nx (fun ρ => ∃ (st : List En) (l : Nat) (g4 g5 g6 g7 g8 : D), ρ = [.list (cs.map .int), .int c, .list (st.map En.e), .int l, g4, g5, g6, g7, g8] ∧ Stk st l) fun d => ∃ l c', Rule 6 l d c' ∧ l ≤ 16) := by
      refine post_iff (b := decide ((l : Int) < 16)) (by walk_at "ev") (fun b => ?_) fun _ => ?_
      · have b := of_decide_eq_true b
        walk_at "ev"
        obtain ⟨d, e, hd⟩ := leaf_rule (c := x)
        rw [e]
        walk_at "ev"
        rw [show List.map En.e st ++ [.tuple [d, .int 0]] = (st ++ [(⟨d, 1, 1, 0⟩ : En)]).map En.e by rw [List.map_append]; rfl]
        exact ⟨_, rfl, st ++ [⟨d, 1, 1, 0⟩], l + 1, _, _, _, _, _, rfl, S.push (by omega) hd⟩
      · exact ⟨_, rfl, st, l, _, _, _, _, _, rfl, S⟩
    refine sq_iff (b := _) (bAnd_ok (by walk_at "ev"; rfl) (by walk_at "ev"; rfl)) (fun b => ?_) fun _ => ?_
    · rw [Bool.and_eq_true] at b
      have b2 := of_decide_eq_true b.2
      walk_at "ev"
      have ecut : ∀ hi, (hi = (st.length : Int) - m) → cutL st (some hi) none = st.drop (st.length - m) := fun hi e => by
        have := cutL_from (xs := st) (k := st.length - m) (by omega)
        rw [← this]; congr 2; omega
      have ecut2 : ∀ hi, (hi = (st.length : Int) - m) → cutL st none (some hi) = st.take (st.length - m) := fun hi e => by
        have := cutL_to (xs := st) (k := st.length - m) (by omega)
        rw [← this]; congr 2; omega
      have hdl : (st.drop (st.length - m)).length = m := by rw [List.length_drop]; omega
      rw [comp_col 8 1 (fun s => .int s.h) (by show 8 < 9; decide) (it_l (by walk_at "ev"; rw [cutE, ecut _ rfl])) (by omega) (fun s => rfl)]
      walk_at "ev"
      obtain ⟨a, as, ea⟩ : ∃ a as, st.drop (st.length - m) = a :: as := by
        cases h : st.drop (st.length - m) with
        | nil => rw [h] at hdl; simp at hdl; omega
        | cons a as => exact ⟨a, as, rfl⟩
      rw [ea, show (a :: as).map (fun s : En => PyData.int s.h) = (((a.h : Nat) : Int) :: as.map fun s : En => ((s.h : Nat) : Int)).map PyData.int by rw [List.map_cons, List.map_cons, List.map_map]; rfl, dMax_ints]
      walk_at "ev"
      obtain ⟨h1, h2⟩ := foldl_imax (as.map fun s : En => ((s.h : Nat) : Int)) (a.h : Int)
      generalize (as.map fun s : En => ((s.h : Nat) : Int)).foldl imax (a.h : Int) = q at *
      have hq : ∃ k : Nat, q = k ∧ k ≤ 5 ∧ ∀ s ∈ a :: as, s.h ≤ k := by
        have hall : ∀ s ∈ a :: as, ((s.h : Nat) : Int) ≤ q := fun s hs => h2 _ (by
          cases hs with
          | head => exact List.mem_cons_self
          | tail _ hs => exact List.mem_cons_of_mem _ (List.mem_map.mpr ⟨s, hs, rfl⟩))
        have hst : ∀ s ∈ a :: as, s.h ≤ 5 := fun s hs => (S.ok s (List.mem_of_mem_drop (by rw [ea]; exact hs))).2
        obtain ⟨s, hs, es⟩ : ∃ s ∈ a :: as, q = ((s.h : Nat) : Int) := by
          cases h1 with
          | head => exact ⟨a, List.mem_cons_self, rfl⟩
          | tail _ h1 => obtain ⟨s, hs, rfl⟩ := List.mem_map.mp h1; exact ⟨s, List.mem_cons_of_mem _ hs, rfl⟩
        exact ⟨s.h, es, hst s hs, fun t ht => by have := hall t ht; omega⟩
      obtain ⟨k, rfl, k5, hk⟩ := hq
      refine post_iff (b := decide (1 + (k : Int) < 6)) (by walk_at "ev") (fun b => ?_) fun b => ?_
      · have b := of_decide_eq_true b
        walk_at "ev"
        rw [comp_col 8 0 (fun s => s.d) (by show 8 < 9; decide) (it_l (by walk_at "ev"; rw [cutE, ecut _ rfl])) (by omega) (fun s => rfl)]
        walk_at "ev"
        obtain ⟨d, c', e, hd⟩ := g_rule (c := x) (k := k) (ss := st.drop (st.length - m)) (by rw [ea]; exact List.cons_ne_nil _ _) fun s hs => by
          have := hk s (by rw [← ea]; exact hs)
          exact (S.ok s (List.mem_of_mem_drop hs)).1.mono this
        rw [cutE, ecut2 _ rfl, e]
        walk_at "ev"
        rw [show (1 : Int) + (k : Int) = ((k + 1 : Nat) : Int) by omega, show List.map En.e (st.take (st.length - m)) ++ [.tuple [d, .int ((k + 1 : Nat) : Int)]] = (st.take (st.length - m) ++ [(⟨d, ((st.drop (st.length - m)).map (·.l)).sum, c', k + 1⟩ : En)]).map En.e by rw [List.map_append]; rfl]
        refine ⟨_, rfl, st.take (st.length - m) ++ [⟨d, ((st.drop (st.length - m)).map (·.l)).sum, c', k + 1⟩], l, _, _, _, _, _, rfl, ?_⟩
        · refine ⟨fun s hs => ?_, ?_, S.l16⟩
          · rcases List.mem_append.mp hs with hs | hs
            · exact S.ok s (List.mem_of_mem_take hs)
            · rw [List.mem_singleton.mp hs]; exact ⟨hd, by show k + 1 ≤ 5; omega⟩
          · rw [List.map_append, List.sum_append]
            show _ + (_ + 0) = l
            rw [Nat.add_zero, ← List.sum_append, ← List.map_append, List.take_append_drop, S.sl]
      · have b := of_decide_eq_false b
        have : k = 5 := by omega
        subst this
        exact low
    · walk_at "ev"
      refine post_iff (b := false) (by walk_at "ev"; rfl) (fun c => by cases c) fun _ => ?_
      exact low
  rintro ρ ⟨st, l, g4, g5, g6, g7, g8, rfl, S⟩
  have hlen := S.len
  have rest : ∀ (st : List En) (l' : Nat), Stk st l' → st ≠ [] → Post (sq (fIfS (tT (fB dEq (fCB dLen (aCons (fVar 2) aNil)) (fC (.int 1)))) (fRet (fB dIx (fB dIx (fVar 2) (fC (.int 0))) (fC (.int 0)))) fNext [.list (cs.map .int), .int c, .list (st.map En.e), .int l, g4, g5, g6, g7, g8])
      (fRet (fCall 2 F__law_group (aCons (fVar 1) (aCons (fComp (fItL (fVar 2)) (gN 8) fYes (fB dIx (fVar 8) (fC (.int 0)))) aNil))))) (Nx (fun _ => ∃ l c', Rule 6 l .none c' ∧ l ≤ 16) fun d => ∃ l c', Rule 6 l d c' ∧ l ≤ 16) := by
    intro st l' S h0
    have hlen := S.len
    refine sq_iff (b := _) (by walk_at "ev"; rfl) (fun b => ?_) fun _ => ?_
    · have b := of_decide_eq_true b
      cases st with
      | nil => exact (h0 rfl).elim
      | cons s st =>
        have hs := S.ok s List.mem_cons_self
        walk_at "ev"
        rw [List.map_cons]
        walk_at "ev"
        unfold En.e
        walk_at "ev"
        have : st = [] := by
          simp only [List.length_cons] at b
          exact List.length_eq_zero_iff.mp (by omega)
        subst this
        have h16 := S.l16
        have hl := S.sl
        refine ⟨_, rfl, s.l, s.c, hs.1.mono (by have := hs.2; omega), by simp at hl; omega⟩
    · walk_at "ev"
      rw [comp_col 8 0 (fun s => s.d) (by show 8 < 9; decide) (it_l rfl) hlen (fun s => rfl)]
      walk_at "ev"
      obtain ⟨d, c', e, hd⟩ := g_rule (c := c) (k := 5) h0 fun s hs => (S.ok s hs).1.mono (S.ok s hs).2
      rw [e]
      exact ⟨_, rfl, _, c', hd, by rw [S.sl]; exact S.l16⟩
  walk_at "ev"
  refine sq_iff (b := (st.map En.e).isEmpty) (by walk_at "ev"; rw [dEq_nil S.fit]; walk_at "ev") (fun b => ?_) fun b => ?_
  · cases st with
    | cons s st => cases b
    | nil =>
      walk_at "ev"
      obtain ⟨d, e, hd⟩ := leaf_rule (c := c)
      rw [e]
      rw [List.map_nil]
      walk_at "ev"
      exact rest [⟨d, 1, 1, 0⟩] 1 ⟨fun s hs => by rw [List.mem_singleton.mp hs]; exact ⟨hd, Nat.zero_le _⟩, rfl, by decide⟩ (List.cons_ne_nil _ _)
  · walk_at "ev"
    exact rest st l S (fun e => by rw [e] at b; cases b)
/-! ### the choices of a rule -/
abbrev LS := List (List Nat)
def LLN (xs : LS) : D := .list (xs.map LN)
def cross (f cs : LS) : LS := f.flatMap fun a => cs.map fun o => a ++ o
def tog (xs : List LS) : LS := xs.foldl cross [[]]
def tks : Nat → Nat → Nat → LS
  | 0, _, _ => [[]]
  | m + 1, f, c => (List.range' f (c - m - f)).flatMap fun a => (tks m (a + 1) c).map (a :: ·)
def sel {α : Type} : Nat → List α → List (List α)
  | 0, _ => [[]]
  | _ + 1, [] => []
  | m + 1, x :: xs => (sel m xs).map (x :: ·) ++ sel (m + 1) xs
theorem tks_few : ∀ {m f c : Nat}, c < f + (m + 1) → tks (m + 1) f c = []
  | m, f, c, h => by
    show (List.range' f (c - m - f)).flatMap _ = []
    rw [show c - m - f = 0 by omega]; rfl
theorem tks_next {m f c : Nat} (h : f < c) : tks (m + 1) f c = (tks m (f + 1) c).map (f :: ·) ++ tks (m + 1) (f + 1) c := by
  show (List.range' f (c - m - f)).flatMap _ = _
  by_cases h2 : f < c - m
  · rw [show c - m - f = (c - m - (f + 1)) + 1 by omega, List.range'_succ, List.flatMap_cons]; rfl
  · rw [show c - m - f = 0 by omega, tks_few (m := m) (f := f + 1) (by omega)]
    cases m with
    | zero => omega
    | succ m => rw [tks_few (m := m) (f := f + 1) (by omega)]; rfl
theorem tks_sel {α : Type} [Inhabited α] : ∀ {xs : List α} {m f : Nat} {ys : List α}, (∀ i, ys.getD (f + i) default = xs.getD i default) → (tks m f (f + xs.length)).map (fun ps => ps.map fun p => ys.getD p default) = sel m xs
  | xs, 0, _, _, _ => by cases xs <;> rfl
  | [], m + 1, f, ys, _ => by rw [tks_few (by simp only [List.length_nil]; omega)]; rfl
  | x :: xs, m + 1, f, ys, h => by
    have hs : ∀ i, ys.getD (f + 1 + i) default = xs.getD i default := fun i => by
      have := h (i + 1)
      rw [show f + 1 + i = f + (i + 1) by omega, this]; rfl
    have e : f + (x :: xs).length = f + 1 + xs.length := by rw [List.length_cons]; omega
    rw [tks_next (by rw [List.length_cons]; omega), List.map_append, List.map_map, e]
    show _ = (sel m xs).map (x :: ·) ++ sel (m + 1) xs
    rw [← tks_sel (m := m + 1) hs, ← tks_sel (m := m) hs, List.map_map]
    congr 1
    refine List.map_congr_left fun ps _ => ?_
    show ys.getD f default :: _ = x :: _
    have := h 0
    rw [Nat.add_zero] at this
    rw [this]; rfl
theorem tks_lt : ∀ {m f c : Nat} {ps : List Nat}, ps ∈ tks m f c → ps.length = m ∧ ∀ p ∈ ps, f ≤ p ∧ p < c
  | 0, f, c, ps, h => by
    rw [List.mem_singleton.mp h]
    exact ⟨rfl, fun p hp => nomatch hp⟩
  | m + 1, f, c, ps, h => by
    obtain ⟨a, ha, h⟩ := List.mem_flatMap.mp h
    obtain ⟨qs, hq, rfl⟩ := List.mem_map.mp h
    obtain ⟨h1, h2⟩ := tks_lt hq
    have ha := List.mem_range'_1.mp ha
    refine ⟨by rw [List.length_cons, h1], fun p hp => ?_⟩
    rcases List.mem_cons.mp hp with rfl | hp
    · omega
    · have := h2 p hp; omega
/-! lengths -/
theorem cross_len {f cs : LS} : (cross f cs).length = f.length * cs.length := by
  unfold cross
  induction f with
  | nil => simp
  | cons a f ih => rw [List.flatMap_cons, List.length_append, ih, List.length_map, List.length_cons, Nat.add_mul, Nat.one_mul, Nat.add_comm]
def prd (ns : List Nat) : Nat := ns.foldl (· * ·) 1
theorem foldl_prd : ∀ {ns : List Nat} {a : Nat}, ns.foldl (· * ·) a = a * prd ns
  | [], a => by show a = a * 1; rw [Nat.mul_one]
  | n :: ns, a => by
    unfold prd
    rw [List.foldl_cons, List.foldl_cons, foldl_prd, foldl_prd (a := 1 * n), Nat.one_mul, Nat.mul_assoc]
theorem prd_cons {n : Nat} {ns : List Nat} : prd (n :: ns) = n * prd ns := by
  unfold prd
  rw [List.foldl_cons, foldl_prd (a := 1 * n), Nat.one_mul]; rfl
theorem tog_fold : ∀ {xs : List LS} {f : LS}, (xs.foldl cross f).length = f.length * prd (xs.map (·.length))
  | [], f => by show f.length = _ * 1; rw [Nat.mul_one]
  | x :: xs, f => by rw [List.foldl_cons, tog_fold, cross_len, List.map_cons, prd_cons, Nat.mul_assoc]
theorem tog_len {xs : List LS} : (tog xs).length = prd (xs.map (·.length)) := by
  unfold tog; rw [tog_fold, List.length_singleton, Nat.one_mul]
theorem prd_pos : ∀ {ns : List Nat}, (∀ n ∈ ns, 1 ≤ n) → 1 ≤ prd ns
  | [], _ => Nat.le_refl _
  | n :: ns, h => by
    rw [prd_cons]
    exact Nat.mul_le_mul (h n List.mem_cons_self) (prd_pos fun m hm => h m (List.mem_cons_of_mem _ hm))
theorem prd_take : ∀ {ns : List Nat}, (∀ n ∈ ns, 1 ≤ n) → ∀ j, prd (ns.take j) ≤ prd ns
  | ns, h, 0 => by rw [List.take_zero]; exact prd_pos h
  | [], _, j + 1 => Nat.le_refl _
  | n :: ns, h, j + 1 => by
    rw [List.take_succ_cons, prd_cons, prd_cons]
    exact Nat.mul_le_mul_left _ (prd_take (fun m hm => h m (List.mem_cons_of_mem _ hm)) j)
/-! the choices put together -/
theorem dAdd_LN {a b : List Nat} (h : a.length + b.length ≤ 100000) : dAdd (LN a) (LN b) = .ok (LN (a ++ b)) := by
  unfold LN
  rw [List.map_append]
  exact if_pos (by rw [List.length_map, List.length_map]; exact h)
theorem take_flat {α β : Type} {xs : List α} {f : α → List β} {j : Nat} (h : j < xs.length) : (xs.take (j + 1)).flatMap f = (xs.take j).flatMap f ++ f xs[j] := by
  rw [take_snoc h, List.flatMap_append, List.flatMap_cons, List.flatMap_nil, List.append_nil]
theorem flat_take_le {f : LS} {cs : LS} (j : Nat) : ((f.take j).flatMap fun a => cs.map fun o => a ++ o).length ≤ f.length * cs.length := by
  have := cross_len (f := f.take j) (cs := cs)
  unfold cross at this
  rw [this, List.length_take]
  exact Nat.mul_le_mul_right _ (Nat.min_le_right _ _)
def Short (B : Nat) (xs : LS) : Prop := ∀ x ∈ xs, x.length ≤ B
theorem cross_short {f cs : LS} {A B : Nat} (h1 : Short A f) (h2 : Short B cs) : Short (A + B) (cross f cs) := fun x hx => by
  obtain ⟨a, ha, hx⟩ := List.mem_flatMap.mp hx
  obtain ⟨o, ho, rfl⟩ := List.mem_map.mp hx
  have := h1 a ha
  have := h2 o ho
  rw [List.length_append]; omega
theorem r_together {xs : List LS} (h1 : ∀ x ∈ xs, 1 ≤ x.length) (hp : prd (xs.map (·.length)) ≤ 70000) (hs : ∀ x ∈ xs, Short 16 x) (hl : xs.length ≤ 100) : F_together [.list (xs.map LLN)] = .ok (LLN (tog xs)) := by
  unfold F_together
  refine run_def_eq ?_
  unfold B_together
  have hL1 : ∀ n ∈ xs.map (·.length), 1 ≤ n := fun n hn => by
    obtain ⟨x, hx, rfl⟩ := List.mem_map.mp hn
    exact h1 x hx
  refine run_set (d := LLN [[]]) rfl rfl ?_
  refine run_in (i := 2) LLN xs (fun j ρ => ∃ x2 x3 x4 x5, ρ = [.list (xs.map LLN), LLN (tog (xs.take j)), x2, x3, x4, x5] ∧ Short (16 * j) (tog (xs.take j))) (it_l rfl) ⟨_, _, _, _, rfl, fun x hx => by rw [List.take_zero] at hx; rw [List.mem_singleton.mp hx]; exact Nat.zero_le _⟩ ?_ ?_
  · rintro j hj ρ ⟨x2, x3, x4, x5, rfl, hsh⟩
    have hx1 := hs _ (List.getElem_mem hj)
    have hlen : (tog (xs.take j)).length * xs[j].length ≤ 70000 := by
      rw [← cross_len]
      have e : cross (tog (xs.take j)) xs[j] = tog (xs.take (j + 1)) := by unfold tog; rw [take_snoc hj, List.foldl_append]; rfl
      rw [e, tog_len, List.map_take]
      exact Nat.le_trans (prd_take hL1 _) hp
    have e : tog (xs.take (j + 1)) = cross (tog (xs.take j)) xs[j] := by unfold tog; rw [take_snoc hj, List.foldl_append]; rfl
    rw [e]
    have hsh2 := cross_short hsh hx1
    generalize tog (xs.take j) = f at *
    generalize xs[j] = cs at *
    unfold B_together_1
    refine run_set (d := LLN []) rfl rfl ?_
    refine run_in (i := 4) LN f (fun i ρ => ∃ x4 x5, ρ = [.list (xs.map LLN), LLN f, LLN cs, LLN ((f.take i).flatMap fun a => cs.map fun o => a ++ o), x4, x5]) (it_l rfl) ⟨_, _, rfl⟩ ?_ ?_
    · rintro i hi ρ ⟨x4, x5, rfl⟩
      have ha := hsh _ (List.getElem_mem hi)
      rw [take_flat hi]
      have hb := flat_take_le (f := f) (cs := cs) (i + 1)
      rw [take_flat hi] at hb
      generalize (f.take i).flatMap (fun a => cs.map fun o => a ++ o) = g at *
      generalize f[i] = a at *
      unfold B_together_2
      refine run_last (run_in (i := 5) LN cs (fun t ρ => ∃ x5, ρ = [.list (xs.map LLN), LLN f, LLN cs, LLN (g ++ (cs.take t).map fun o => a ++ o), LN a, x5]) (it_l rfl) ⟨_, by rw [List.take_zero, List.map_nil, List.append_nil]; rfl⟩ ?_ ?_)
      · rintro t ht ρ ⟨x5, rfl⟩
        have ho := hx1 _ (List.getElem_mem ht)
        unfold B_together_3
        rw [List.length_append, List.length_map] at hb
        have e : (g ++ (cs.take t).map fun o => a ++ o).map LN ++ [LN (a ++ cs[t])] = (g ++ (cs.take (t + 1)).map fun o => a ++ o).map LN := by
          rw [take_snoc ht, List.map_append (l₁ := cs.take t), ← List.append_assoc, List.map_append (l₁ := g ++ _)]; rfl
        exact run_last (run_app (ρ' := [.list (xs.map LLN), LLN f, LLN cs, LLN (g ++ (cs.take (t + 1)).map fun o => a ++ o), LN a, LN cs[t]]) (d := LN (a ++ cs[t])) (ev_B rfl rfl (dAdd_LN (by omega))) rfl (by rw [List.length_map, List.length_append, List.length_map, List.length_take]; omega) (by rw [e]; rfl) (run_nil ⟨LN cs[t], rfl⟩))
      · rintro ρ ⟨x5, rfl⟩
        rw [List.take_length]
        exact run_nil ⟨_, _, rfl⟩
    · rintro ρ ⟨x4, x5, rfl⟩
      rw [List.take_length]
      refine run_last (run_set (d := LLN (cross f cs)) rfl rfl (run_nil ⟨_, _, _, _, rfl, ?_⟩))
      rw [show 16 * (j + 1) = 16 * j + 16 by omega]; exact hsh2
  · rintro ρ ⟨x2, x3, x4, x5, rfl, _⟩
    rw [List.take_length]
    exact run_ret1 rfl rfl
/-! ### all rising lists of places -/
theorem tks_len_le : ∀ {m f c : Nat}, (tks m f c).length ≤ 2 ^ (c - f)
  | 0, f, c => Nat.two_pow_pos _
  | m + 1, f, c => by
    by_cases h : f < c
    · have e : c - f = c - (f + 1) + 1 := by omega
      rw [tks_next h, List.length_append, List.length_map, e, Nat.pow_succ]
      have h1 := tks_len_le (m := m) (f := f + 1) (c := c)
      have h2 : (tks (m + 1) (f + 1) c).length ≤ 2 ^ (c - (f + 1)) := tks_len_le (m := m + 1) (f := f + 1) (c := c)
      omega
    · rw [tks_few (by omega)]; exact Nat.zero_le _
termination_by m f c => (c - f, m)
theorem p16n {k : Nat} (h : k ≤ 16) : 2 ^ k ≤ 65536 := Nat.pow_le_pow_right (n := 2) (by decide) h
theorem flat_take {α β : Type} {xs : List α} {g : α → List β} (j : Nat) : ((xs.take j).flatMap g).length ≤ (xs.flatMap g).length := by
  have e : xs.flatMap g = (xs.take j).flatMap g ++ (xs.drop j).flatMap g := by rw [← List.flatMap_append, List.take_append_drop]
  rw [e, List.length_append]; omega
theorem r_takes {c : Nat} (hc : c ≤ 16) : ∀ {m f : Nat}, f ≤ 100 → m ≤ 100 → ∀ n, m < n → F_takes n [.int m, .int f, .int c] = .ok (LLN (tks m f c))
  | 0, f, _, _, n, hn => by
    obtain ⟨n, rfl⟩ : ∃ n', n = n' + 1 := ⟨n - 1, by omega⟩
    unfold F_takes
    refine run_def_eq ?_
    unfold B_takes
    exact run_ifT (ev_T (ev_B (d1 := .int 0) (d2 := .int 0) rfl rfl (dEq_int.trans (by rw [decide_eq_true rfl])))) (run_ret rfl rfl)
  | m + 1, f, hf, hm, n, hn => by
    obtain ⟨n, rfl⟩ : ∃ n', n = n' + 1 := ⟨n - 1, by omega⟩
    unfold F_takes
    refine run_def_eq ?_
    unfold B_takes
    refine run_guard (ev_T (ev_B (d1 := .int ((m + 1 : Nat) : Int)) (d2 := .int 0) rfl rfl (dEq_int.trans (by rw [decide_eq_false (by omega)])))) ?_
    refine run_set (d := LLN []) rfl rfl ?_
    have hbig : (tks (m + 1) f c).length ≤ 65536 := Nat.le_trans tks_len_le (p16n (by omega))
    have et : tks (m + 1) f c = (List.range' f (c - m - f)).flatMap fun a => (tks m (a + 1) c).map (a :: ·) := rfl
    rw [et] at hbig ⊢
    have hbd : ∀ a ∈ List.range' f (c - m - f), a < 17 := fun a ha => by have := List.mem_range'_1.mp ha; omega
    have hxl : (List.range' f (c - m - f)).length = c - m - f := List.length_range'
    have hit : ∀ (x3 x4 x5 : D), fItR2 (fVar 1) (fB dAdd (fB dSub (fVar 2) (fVar 0)) (fC (.int 1))) [.int ((m + 1 : Nat) : Int), .int f, .int c, x3, x4, x5] = .ok ((List.range' f (c - m - f)).map fun a : Nat => PyData.int (a : Int)) := fun x3 x4 x5 => by
      refine (it_r2 (l := f) (n := (c : Int) - ((m + 1 : Nat) : Int) + 1) rfl (ev_B (ev_B rfl rfl rfl) rfl rfl) (by omega)).trans ?_
      rw [show ((c : Int) - ((m + 1 : Nat) : Int) + 1 - f).toNat = c - m - f by omega, List.range'_eq_map_range, List.map_map]
      unfold rngD
      congr 1
    generalize List.range' f (c - m - f) = xs at *
    refine run_in (i := 4) (fun a : Nat => PyData.int (a : Int)) xs (fun j ρ => ∃ x4 x5, ρ = [.int ((m + 1 : Nat) : Int), .int f, .int c, LLN ((xs.take j).flatMap fun a => (tks m (a + 1) c).map (a :: ·)), x4, x5]) (hit _ _ _) ⟨_, _, rfl⟩ ?_ ?_
    · rintro j hj ρ ⟨x4, x5, rfl⟩
      have ha := hbd _ (List.getElem_mem hj)
      have hp := flat_take (xs := xs) (g := fun a => (tks m (a + 1) c).map (a :: ·)) (j + 1)
      rw [take_flat hj] at hp ⊢
      generalize (xs.take j).flatMap (fun a => (tks m (a + 1) c).map (a :: ·)) = g at *
      generalize xs[j] = a at *
      unfold B_takes_1
      have ih := r_takes hc (m := m) (f := a + 1) (by omega) (by omega) n (by omega)
      rw [List.length_append, List.length_map] at hp
      have hpl : ∀ p ∈ tks m (a + 1) c, p.length ≤ 100 := fun p hp => by have := (tks_lt hp).1; omega
      generalize tks m (a + 1) c = ps at *
      refine run_last (run_in (i := 5) LN ps (fun t ρ => ∃ x5, ρ = [.int ((m + 1 : Nat) : Int), .int f, .int c, LLN (g ++ (ps.take t).map (a :: ·)), .int a, x5]) (it_l (ev_call (ds := [.int m, .int ((a + 1 : Nat) : Int), .int c]) (ev_cons (ev_B rfl rfl (show Rs.ok (PyData.int (((m + 1 : Nat) : Int) - 1)) = _ by congr 2; omega)) (ev_cons (ev_B rfl rfl rfl) (ev_cons rfl ev_nil))) rfl ih)) ⟨_, by rw [List.take_zero, List.map_nil, List.append_nil]; rfl⟩ ?_ ?_)
      · rintro t ht ρ ⟨x5, rfl⟩
        unfold B_takes_2
        have e : (g ++ (ps.take t).map (a :: ·)).map LN ++ [LN (a :: ps[t])] = (g ++ (ps.take (t + 1)).map (a :: ·)).map LN := by
          rw [take_snoc ht, List.map_append (l₁ := ps.take t), ← List.append_assoc, List.map_append (l₁ := g ++ _)]; rfl
        refine run_last (run_app (ρ' := [.int ((m + 1 : Nat) : Int), .int f, .int c, LLN (g ++ (ps.take (t + 1)).map (a :: ·)), .int a, LN ps[t]]) (d := LN (a :: ps[t])) (ev_B (d1 := .list [.int (a : Int)]) (d2 := LN ps[t]) rfl rfl (dAdd_LN (a := [a]) ?_)) rfl (by rw [List.length_map, List.length_append, List.length_map, List.length_take]; omega) (by rw [e]; rfl) (run_nil ⟨LN ps[t], rfl⟩))
        have := hpl ps[t] (List.getElem_mem ht)
        rw [List.length_singleton]; omega
      · rintro ρ ⟨x5, rfl⟩
        rw [List.take_length]
        exact run_nil ⟨_, _, rfl⟩
    · rintro ρ ⟨x4, x5, rfl⟩
      rw [List.take_length]
      exact run_ret1 rfl rfl
/-! ### rules with their choices -/
theorem cross_one {x : LS} : cross [[]] x = x := by
  unfold cross
  rw [List.flatMap_cons, List.flatMap_nil, List.append_nil]
  exact (List.map_congr_left fun o _ => List.nil_append o).trans (List.map_id' x)
theorem flat_congr {α β : Type} {f g : α → List β} : ∀ {xs : List α}, (∀ x ∈ xs, f x = g x) → xs.flatMap f = xs.flatMap g
  | [], _ => rfl
  | x :: xs, h => by rw [List.flatMap_cons, List.flatMap_cons, h x List.mem_cons_self, flat_congr fun y hy => h y (List.mem_cons_of_mem _ hy)]
theorem cross_assoc {a b c : LS} : cross (cross a b) c = cross a (cross b c) := by
  unfold cross
  rw [List.flatMap_assoc]
  refine flat_congr fun x _ => ?_
  rw [List.flatMap_map, List.map_flatMap]
  refine flat_congr fun y _ => ?_
  rw [List.map_map]
  exact List.map_congr_left fun o _ => List.append_assoc ..
theorem tog_from : ∀ {xs : List LS} {f : LS}, xs.foldl cross f = cross f (tog xs)
  | [], f => by
    show f = cross f [[]]
    unfold cross
    have : (fun a : List Nat => ([[]] : LS).map fun o => a ++ o) = fun a => [a] := by funext a; simp
    rw [this]
    induction f with
    | nil => rfl
    | cons a f ih => rw [List.flatMap_cons, ← ih]; rfl
  | x :: xs, f => by
    rw [List.foldl_cons, tog_from]
    have : tog (x :: xs) = cross x (tog xs) := by
      show xs.foldl cross (cross [[]] x) = _
      rw [tog_from, cross_one]
    rw [this, cross_assoc]
theorem tog_cons {x : LS} {xs : List LS} : tog (x :: xs) = cross x (tog xs) := by
  show xs.foldl cross (cross [[]] x) = _
  rw [tog_from, cross_one]
theorem tog_nil : tog [] = [[]] := rfl
theorem tog_single {x : LS} : tog [x] = x := by
  show cross [[]] x = x
  exact cross_one
abbrev R4 := D × Nat × Int × (Nat → LS)
def r3 (r : R4) : RR := (r.1, r.2.1, r.2.2.1)
def inn : List R4 → Nat → List LS
  | [], _ => []
  | r :: rs, f => r.2.2.2 f :: inn rs (f + r.2.1)
inductive RuL : Nat → Nat → D → Int → (Nat → LS) → Prop
  | leaf {k : Nat} {d : D} {s : Str} {ds : List D} (e : d = .tuple (.str s :: ds)) (h : s = "from" ∨ s = "of") (f : Fit 3 d ∧ okM d = true) : RuL k 1 d 1 (fun f => [[f]])
  | all {k : Nat} {rs : List R4} (h0 : rs ≠ []) (h : ∀ r ∈ rs, RuL k r.2.1 r.1 r.2.2.1 r.2.2.2) : RuL (k + 1) (rs.map (·.2.1)).sum (.tuple [.str "all", .list (rs.map (·.1))]) (E (rs.map (·.2.2.1)) rs.length) (fun f => tog (inn rs f))
  | some {k n : Nat} {rs : List R4} (h0 : 1 ≤ n) (hn : n ≤ rs.length) (h : ∀ r ∈ rs, RuL k r.2.1 r.1 r.2.2.1 r.2.2.2) : RuL (k + 1) (rs.map (·.2.1)).sum (.tuple [.str "some", .int n, .list (rs.map (·.1))]) (E (rs.map (·.2.2.1)) n) (fun f => (sel n (inn rs f)).flatMap tog)
theorem r3_maps {rs : List R4} : (rs.map r3).map (·.1) = rs.map (·.1) ∧ (rs.map r3).map (·.2.1) = rs.map (·.2.1) ∧ (rs.map r3).map (·.2.2) = rs.map (·.2.2.1) := ⟨by rw [List.map_map]; rfl, by rw [List.map_map]; rfl, by rw [List.map_map]; rfl⟩
theorem RuL.rule {k l : Nat} {d : D} {c : Int} {L : Nat → LS} (h : RuL k l d c L) : Rule k l d c := by
  induction h with
  | leaf e h f => exact .leaf e h f
  | @all k rs h0 h ih =>
    obtain ⟨e1, e2, e3⟩ := r3_maps (rs := rs)
    have := Rule.all (k := k) (rs := rs.map r3) (fun z => h0 (List.map_eq_nil_iff.mp z)) fun r hr => by
      obtain ⟨q, hq, rfl⟩ := List.mem_map.mp hr
      exact ih q hq
    rw [e1, e2, e3, List.length_map] at this
    exact this
  | @some k n rs h0 hn h ih =>
    obtain ⟨e1, e2, e3⟩ := r3_maps (rs := rs)
    have := Rule.some (k := k) (n := n) (rs := rs.map r3) h0 (by rw [List.length_map]; exact hn) fun r hr => by
      obtain ⟨q, hq, rfl⟩ := List.mem_map.mp hr
      exact ih q hq
    rw [e1, e2, e3] at this
    exact this
theorem lift4 {k : Nat} : ∀ {rs : List RR}, (∀ r ∈ rs, ∃ L, RuL k r.2.1 r.1 r.2.2 L) → ∃ qs : List R4, qs.map r3 = rs ∧ ∀ r ∈ qs, RuL k r.2.1 r.1 r.2.2.1 r.2.2.2
  | [], _ => ⟨[], rfl, fun _ h => nomatch h⟩
  | r :: rs, h => by
    obtain ⟨L, hL⟩ := h r List.mem_cons_self
    obtain ⟨qs, e, hq⟩ := lift4 fun r hr => h r (List.mem_cons_of_mem _ hr)
    exact ⟨(r.1, r.2.1, r.2.2, L) :: qs, by rw [List.map_cons, e]; rfl, fun q hq' => by
      rcases List.mem_cons.mp hq' with rfl | hq'
      · exact hL
      · exact hq q hq'⟩
theorem Rule.withL {k l : Nat} {d : D} {c : Int} (h : Rule k l d c) : ∃ L, RuL k l d c L := by
  induction h with
  | leaf e h f => exact ⟨_, .leaf e h f⟩
  | @all k rs h0 h ih =>
    obtain ⟨qs, e, hq⟩ := lift4 ih
    obtain ⟨e1, e2, e3⟩ := r3_maps (rs := qs)
    have := RuL.all (k := k) (rs := qs) (fun z => h0 (by rw [← e, z]; rfl)) hq
    rw [← e1, ← e2, ← e3, e, show qs.length = rs.length by rw [← e, List.length_map]] at this
    exact ⟨_, this⟩
  | @some k n rs h0 hn h ih =>
    obtain ⟨qs, e, hq⟩ := lift4 ih
    obtain ⟨e1, e2, e3⟩ := r3_maps (rs := qs)
    have := RuL.some (k := k) (n := n) (rs := qs) h0 (by rw [← List.length_map (f := r3), e]; exact hn) hq
    rw [← e1, ← e2, ← e3, e] at this
    exact ⟨_, this⟩
/-! sums of products by the first one -/
theorem E'_big : ∀ {cs : List Int} {n : Nat}, cs.length < n → E' cs n = 0
  | [], n, h => by show (if n = 0 then (1 : Int) else 0) = 0; rw [if_neg (by simp only [List.length_nil] at h; omega)]
  | c :: cs, 0, h => by simp at h
  | c :: cs, n + 1, h => by
    rw [List.length_cons] at h
    show E' cs (n + 1) + E' cs n * c = 0
    rw [E'_big (by omega), E'_big (by omega), Int.zero_mul]; rfl
theorem E_big {cs : List Int} {n : Nat} (h : cs.length < n) : E cs n = 0 := E'_big (by rw [List.length_reverse]; exact h)
theorem E_0 {cs : List Int} : E cs 0 = 1 := by
  unfold E
  cases cs.reverse <;> rfl
theorem E'_snoc : ∀ {cs : List Int} {c : Int} {n : Nat}, E' (cs ++ [c]) (n + 1) = E' cs (n + 1) + E' cs n * c
  | [], c, 0 => by show (0 : Int) + 1 * c = 0 + 1 * c; rfl
  | [], c, n + 1 => by show (0 : Int) + 0 * c = 0 + 0 * c; rfl
  | a :: cs, c, 0 => by
    show E' (cs ++ [c]) (0 + 1) + E' (cs ++ [c]) 0 * a = (E' cs (0 + 1) + E' cs 0 * a) + 1 * c
    have e : ∀ l : List Int, E' l 0 = 1 := fun l => by cases l <;> rfl
    rw [E'_snoc, e, e]
    omega
  | a :: cs, c, n + 1 => by
    show E' (cs ++ [c]) (n + 1 + 1) + E' (cs ++ [c]) (n + 1) * a = (E' cs (n + 1 + 1) + E' cs (n + 1) * a) + (E' cs (n + 1) + E' cs n * a) * c
    rw [E'_snoc, E'_snoc, Int.add_mul, Int.add_mul, Int.mul_assoc (E' cs n) c a, Int.mul_comm c a, ← Int.mul_assoc]
    omega
theorem E_cons {c : Int} {cs : List Int} {n : Nat} : E (c :: cs) (n + 1) = E cs (n + 1) + E cs n * c := by
  unfold E
  rw [List.reverse_cons, E'_snoc]
theorem E_prd : ∀ ns : List Nat, E (ns.map fun n : Nat => (n : Int)) ns.length = (prd ns : Nat)
  | [] => rfl
  | n :: ns => by
    rw [List.map_cons, List.length_cons, E_cons, E_prd, E_big (by rw [List.length_map]; omega), prd_cons, Int.natCast_mul, Int.mul_comm]; omega
theorem sel_len : ∀ {xs : List LS} {n : Nat}, ((((sel n xs).flatMap tog).length : Nat) : Int) = E (xs.map fun x => ((x.length : Nat) : Int)) n
  | xs, 0 => by rw [E_0]; cases xs <;> rfl
  | [], n + 1 => by
    show (0 : Int) = _
    rw [E_big (by rw [List.map_nil]; simp)]
  | x :: xs, n + 1 => by
    show (((((sel n xs).map (x :: ·) ++ sel (n + 1) xs).flatMap tog).length : Nat) : Int) = _
    have h : (((sel n xs).map (x :: ·)).flatMap tog).length = x.length * ((sel n xs).flatMap tog).length := by
      rw [List.flatMap_map]
      induction sel n xs with
      | nil => simp
      | cons y ys ih => rw [List.flatMap_cons, List.flatMap_cons, List.length_append, List.length_append, ih, tog_cons, cross_len, Nat.mul_add]
    rw [List.flatMap_append, List.length_append, h, List.map_cons, E_cons, Int.natCast_add, Int.natCast_mul, sel_len, sel_len, Int.mul_comm]
    omega
theorem inn_len : ∀ {rs : List R4} {f : Nat}, (inn rs f).length = rs.length
  | [], _ => rfl
  | r :: rs, f => by show (inn rs _).length + 1 = _; rw [inn_len]; rfl
theorem inn_lens : ∀ {rs : List R4} {f : Nat}, (∀ r ∈ rs, ∀ f, (((r.2.2.2 f).length : Nat) : Int) = r.2.2.1) → (inn rs f).map (fun x => ((x.length : Nat) : Int)) = rs.map (·.2.2.1)
  | [], _, _ => rfl
  | r :: rs, f, h => by
    show ((((r.2.2.2 f).length : Nat) : Int) :: (inn rs (f + r.2.1)).map fun x => ((x.length : Nat) : Int)) = r.2.2.1 :: rs.map (·.2.2.1)
    rw [h r List.mem_cons_self]
    congr 1
    exact inn_lens fun r hr => h r (List.mem_cons_of_mem _ hr)
theorem RuL.len {k l : Nat} {d : D} {c : Int} {L : Nat → LS} (h : RuL k l d c L) : ∀ f, (((L f).length : Nat) : Int) = c := by
  induction h with
  | leaf => intro f; rfl
  | @all k rs h0 h ih =>
    intro f
    have e := inn_lens (f := f) ih
    rw [tog_len, ← E_prd, List.map_map, List.length_map, inn_len]
    show E ((inn rs f).map fun x => ((x.length : Nat) : Int)) _ = _
    rw [e]
  | @some k n rs h0 hn h ih =>
    intro f
    rw [sel_len, inn_lens ih]
theorem cross_short2 {f cs : LS} {A B : Nat} (h1 : Short A f) (h2 : Short B cs) : Short (A + B) (cross f cs) := cross_short h1 h2
theorem Short.mono {A B : Nat} {f : LS} (h : Short A f) (le : A ≤ B) : Short B f := fun x hx => Nat.le_trans (h x hx) le
theorem sel_short : ∀ {rs : List R4} {f n : Nat}, (∀ r ∈ rs, ∀ f, Short r.2.1 (r.2.2.2 f)) → ∀ ys ∈ sel n (inn rs f), Short (rs.map (·.2.1)).sum (tog ys)
  | rs, f, 0, _, ys, hy => by
    have : ys = [] := by
      have : sel 0 (inn rs f) = [[]] := by cases inn rs f <;> rfl
      rw [this] at hy
      exact List.mem_singleton.mp hy
    subst this
    exact fun x hx => by rw [List.mem_singleton.mp hx]; exact Nat.zero_le _
  | [], _, n + 1, _, ys, hy => nomatch hy
  | r :: rs, f, n + 1, h, ys, hy => by
    rw [List.map_cons, List.sum_cons]
    rcases List.mem_append.mp (show ys ∈ (sel n (inn rs (f + r.2.1))).map (r.2.2.2 f :: ·) ++ sel (n + 1) (inn rs (f + r.2.1)) from hy) with hy | hy
    · obtain ⟨zs, hz, rfl⟩ := List.mem_map.mp hy
      rw [tog_cons]
      exact cross_short (h r List.mem_cons_self f) (sel_short (fun r hr => h r (List.mem_cons_of_mem _ hr)) zs hz)
    · exact (sel_short (fun r hr => h r (List.mem_cons_of_mem _ hr)) ys hy).mono (by omega)
theorem tog_short : ∀ {rs : List R4} {f : Nat}, (∀ r ∈ rs, ∀ f, Short r.2.1 (r.2.2.2 f)) → Short (rs.map (·.2.1)).sum (tog (inn rs f))
  | [], _, _ => fun x hx => by rw [List.mem_singleton.mp hx]; exact Nat.zero_le _
  | r :: rs, f, h => by
    show Short _ (tog (r.2.2.2 f :: inn rs (f + r.2.1)))
    rw [tog_cons, List.map_cons, List.sum_cons]
    exact cross_short (h r List.mem_cons_self f) (tog_short fun r hr => h r (List.mem_cons_of_mem _ hr))
theorem RuL.short {k l : Nat} {d : D} {c : Int} {L : Nat → LS} (h : RuL k l d c L) : ∀ f, Short l (L f) := by
  induction h with
  | leaf => exact fun f x hx => by rw [List.mem_singleton.mp hx]; exact Nat.le_refl _
  | all h0 h ih => exact fun f => tog_short ih
  | some h0 hn h ih =>
    intro f x hx
    obtain ⟨ys, hy, hx⟩ := List.mem_flatMap.mp hx
    exact sel_short ih ys hy x hx
theorem isleaf_all {ds : List D} : F_is_leaf [.tuple (.str "all" :: ds)] = .ok (.bool false) := by rw [r_isleaf (by decide +kernel)]; rfl
theorem isleaf_some {ds : List D} : F_is_leaf [.tuple (.str "some" :: ds)] = .ok (.bool false) := by rw [r_isleaf (by decide +kernel)]; rfl
theorem isleaf_leaf {s : Str} {ds : List D} (h : s = "from" ∨ s = "of") : F_is_leaf [.tuple (.str s :: ds)] = .ok (.bool true) := by
  rcases h with rfl | rfl <;> (rw [r_isleaf (by decide +kernel)]; rfl)
theorem r_leafc {k l : Nat} {d : D} {c : Int} (h : Rule k l d c) : l ≤ 16 → ∀ m, k < m → F_leaf_count m [d] = .ok (.int (l : Nat)) := by
  have sums : ∀ {rs : List RR}, (.list (rs.map fun r => PyData.int ((r.2.1 : Nat) : Int)) : D) = .list (((rs.map (·.2.1)).map fun n : Nat => (n : Int)).map .int) := fun {rs} => by rw [List.map_map, List.map_map]; rfl
  have sumN : ∀ us : List Nat, (us.map fun n : Nat => (n : Int)).sum = (us.sum : Nat) := fun us => by
    induction us with
    | nil => rfl
    | cons u us ih => rw [List.map_cons, List.sum_cons, List.sum_cons, ih]; omega
  have grp : ∀ {m : Nat} {d : D} {rs : List RR}, F_is_leaf [d] = .ok (.bool false) → F_rules_of [d] = .ok (.list (rs.map (·.1))) → rs.length ≤ 16 → (∀ r ∈ rs, F_leaf_count m [r.1] = .ok (.int (r.2.1 : Nat))) → F_leaf_count (m + 1) [d] = .ok (.int ((rs.map (·.2.1)).sum : Nat)) := fun {m d rs} h1 h2 hl hc => by
    unfold F_leaf_count
    refine run_def_eq ?_
    unfold B_leaf_count
    refine run_guard (ev_T (ev_call (ev_cons rfl ev_nil) rfl h1)) ?_
    refine run_ret1 (ev_CB (ev_cons (d := .list (rs.map fun r => PyData.int ((r.2.1 : Nat) : Int))) (comp_all (i := 1) (·.1) (fun r : RR => PyData.int ((r.2.1 : Nat) : Int)) rs (it_l (ev_call (ev_cons rfl ev_nil) rfl h2)) (by omega) fun r hr => ev_call (ds := [r.1]) (ev_cons rfl ev_nil) rfl (hc r hr)) ev_nil) ?_) rfl
    rw [sums, dSum_ints, sumN]
  induction h with
  | @leaf k d s ds e h f =>
    rintro - m hm
    obtain ⟨m, rfl⟩ : ∃ m', m = m' + 1 := ⟨m - 1, by omega⟩
    subst e
    unfold F_leaf_count
    refine run_def_eq ?_
    unfold B_leaf_count
    exact run_ifT (ev_T (ev_call (ev_cons rfl ev_nil) rfl (isleaf_leaf h))) (run_ret rfl rfl)
  | @all k rs h0 h ih =>
    rintro hl m hm
    obtain ⟨m, rfl⟩ : ∃ m', m = m' + 1 := ⟨m - 1, by omega⟩
    exact grp isleaf_all r_rules2 (Nat.le_trans (len_sum fun r hr => (h r hr).l1) hl) fun r hr => ih r hr (Nat.le_trans (le_sum (List.mem_map.mpr ⟨r, hr, rfl⟩)) hl) m (by omega)
  | @some k n rs h0 hn h ih =>
    rintro hl m hm
    obtain ⟨m, rfl⟩ : ∃ m', m = m' + 1 := ⟨m - 1, by omega⟩
    exact grp isleaf_some r_rules3 (Nat.le_trans (len_sum fun r hr => (h r hr).l1) hl) fun r hr => ih r hr (Nat.le_trans (le_sum (List.mem_map.mpr ⟨r, hr, rfl⟩)) hl) m (by omega)
theorem inn_snoc : ∀ {rs : List R4} {r : R4} {f : Nat}, inn (rs ++ [r]) f = inn rs f ++ [r.2.2.2 (f + (rs.map (·.2.1)).sum)]
  | [], r, f => rfl
  | q :: rs, r, f => by
    show q.2.2.2 f :: inn (rs ++ [r]) (f + q.2.1) = _
    rw [inn_snoc, List.map_cons, List.sum_cons, Nat.add_assoc]; rfl
theorem mem_inn : ∀ {rs : List R4} {f : Nat} {x : LS}, x ∈ inn rs f → ∃ r ∈ rs, ∃ g, x = r.2.2.2 g
  | r :: rs, f, x, h => by
    rcases List.mem_cons.mp (show x ∈ r.2.2.2 f :: inn rs (f + r.2.1) from h) with rfl | h
    · exact ⟨r, List.mem_cons_self, f, rfl⟩
    · obtain ⟨q, hq, g, e⟩ := mem_inn h
      exact ⟨q, List.mem_cons_of_mem _ hq, g, e⟩
theorem mem_sel {α : Type} : ∀ {xs : List α} {n : Nat} {ys : List α}, ys ∈ sel n xs → ys.length = n ∧ ∀ y ∈ ys, y ∈ xs
  | xs, 0, ys, h => by
    have : sel 0 xs = [[]] := by cases xs <;> rfl
    rw [this] at h
    rw [List.mem_singleton.mp h]
    exact ⟨rfl, fun y hy => nomatch hy⟩
  | [], n + 1, ys, h => nomatch h
  | x :: xs, n + 1, ys, h => by
    rcases List.mem_append.mp (show ys ∈ (sel n xs).map (x :: ·) ++ sel (n + 1) xs from h) with h | h
    · obtain ⟨zs, hz, rfl⟩ := List.mem_map.mp h
      obtain ⟨h1, h2⟩ := mem_sel hz
      exact ⟨by rw [List.length_cons, h1], fun y hy => by
        rcases List.mem_cons.mp hy with rfl | hy
        · exact List.mem_cons_self
        · exact List.mem_cons_of_mem _ (h2 y hy)⟩
    · obtain ⟨h1, h2⟩ := mem_sel h
      exact ⟨h1, fun y hy => List.mem_cons_of_mem _ (h2 y hy)⟩
theorem dIx_LLN {xs : List LS} {p : Nat} (h : p < xs.length) : dIx (.list (xs.map LLN)) (.int (p : Int)) = .ok (LLN (xs.getD p default)) := by
  rw [dIx_l (by omega) (by rw [List.length_map]; omega), List.getElem_map, List.getD_eq_getElem?_getD, List.getElem?_eq_getElem (by omega)]; rfl
theorem inn_take {rs : List R4} {f j : Nat} (h : j < rs.length) : inn (rs.take (j + 1)) f = inn (rs.take j) f ++ [rs[j].2.2.2 (f + ((rs.take j).map (·.2.1)).sum)] := by
  rw [take_snoc h, inn_snoc]
structure Kid4 (m k : Nat) (rs : List R4) : Prop where
  r : ∀ r ∈ rs, RuL k r.2.1 r.1 r.2.2.1 r.2.2.2
  c : ∀ r ∈ rs, ∀ f : Nat, F_listed m [r.1, .int f] = .ok (LLN (r.2.2.2 f))
  n : ∀ r ∈ rs, F_leaf_count 8 [r.1] = .ok (.int (r.2.1 : Nat))
  l : (rs.map (·.2.1)).sum ≤ 16
theorem Kid4.len {m k : Nat} {rs : List R4} (K : Kid4 m k rs) : rs.length ≤ 16 := by
  have := len_sum (rs := rs.map r3) fun r hr => by
    obtain ⟨q, hq, rfl⟩ := List.mem_map.mp hr
    exact (K.r q hq).rule.l1
  rw [r3_maps.2.1, List.length_map] at this
  exact Nat.le_trans this K.l
theorem Kid4.li {m k : Nat} {rs : List R4} (K : Kid4 m k rs) {r : R4} (h : r ∈ rs) : r.2.1 ≤ 16 := Nat.le_trans (le_sum (List.mem_map.mpr ⟨r, h, rfl⟩)) K.l
theorem Kid4.inn {m k f : Nat} {rs : List R4} (K : Kid4 m k rs) : ∀ x ∈ inn rs f, 1 ≤ x.length ∧ Short 16 x := fun x hx => by
  obtain ⟨r, hr, g, rfl⟩ := mem_inn hx
  have h1 := (K.r r hr).len g
  have h2 := (K.r r hr).rule.lo
  exact ⟨by omega, ((K.r r hr).short g).mono (K.li hr)⟩
theorem loop4 {m k f : Nat} {d : D} {rs : List R4} (K : Kid4 m k rs) (hr : F_rules_of [d] = .ok (.list (rs.map (·.1)))) {g : List D → Rs Fl} {Q : D → Prop} {E : D → Prop} {R : List D → Prop}
    (hk : ∀ x4, Run g [d, .int f, .list ((inn rs f).map LLN), .int ((f + (rs.map (·.2.1)).sum : Nat) : Int), x4, .none, .none, .none] R Q E) :
    Run (fSeq (fFor (fItL (fCall 1 F_rules_of (aCons (fVar 0) aNil))) (gN 4) (B_listed_1 (F_listed m))) g) [d, .int f, .list [], .int f, .none, .none, .none, .none] R Q E := by
  have hl := K.len
  refine run_in (i := 4) (fun r : R4 => r.1) rs (fun j ρ => ∃ x4, ρ = [d, .int f, .list ((inn (rs.take j) f).map LLN), .int ((f + ((rs.take j).map (·.2.1)).sum : Nat) : Int), x4, .none, .none, .none]) (it_l (ev_call (ev_cons rfl ev_nil) rfl hr)) ⟨_, rfl⟩ ?_ ?_
  · rintro j hj ρ ⟨x4, rfl⟩
    have hm := List.getElem_mem hj
    have hs : ((rs.take j).map (·.2.1)).sum ≤ 16 := by
      rw [List.map_take]; exact Nat.le_trans (sum_take _ _) K.l
    rw [inn_take hj]
    have e2 : ((rs.take (j + 1)).map (·.2.1)).sum = ((rs.take j).map (·.2.1)).sum + rs[j].2.1 := by
      rw [take_snoc hj, List.map_append, List.sum_append]; rfl
    rw [e2]
    have hc := K.c _ hm (f + ((rs.take j).map (·.2.1)).sum)
    have hn := K.n _ hm
    have hlen : (inn (rs.take j) f).length ≤ 16 := by rw [inn_len, List.length_take]; omega
    generalize ((rs.take j).map (·.2.1)).sum = t at *
    generalize rs[j] = r at *
    generalize inn (rs.take j) f = xs at *
    unfold B_listed_1
    refine run_app (ρ' := [d, .int f, .list ((xs ++ [r.2.2.2 (f + t)]).map LLN), .int ((f + t : Nat) : Int), r.1, .none, .none, .none]) (d := LLN (r.2.2.2 (f + t))) (ev_call (ev_cons rfl (ev_cons rfl ev_nil)) rfl hc) rfl (by rw [List.length_map]; omega) (by rw [List.map_append]; rfl) ?_
    refine run_last (run_set (d := .int ((f + (t + r.2.1) : Nat) : Int)) (ev_B rfl (ev_call (ev_cons rfl ev_nil) rfl hn) ?_) rfl (run_nil ⟨r.1, rfl⟩))
    show Rs.ok (PyData.int (((f + t : Nat) : Int) + ((r.2.1 : Nat) : Int))) = _
    congr 2; omega
  · rintro ρ ⟨x4, rfl⟩
    rw [List.take_length]
    exact hk x4
theorem dEq_strF {a b : Str} (ha : okS a) (hb : okS b) (h : (a == b) = false) : dEq (.str a) (.str b) = .ok (.bool false) := by rw [dEq_str ha hb, h]
theorem r_listed {k l : Nat} {d : D} {c : Int} {L : Nat → LS} (h : RuL k l d c L) : l ≤ 16 → k < 8 → ∀ m, k < m → ∀ f : Nat, F_listed m [d, .int f] = .ok (LLN (L f)) := by
  have kids : ∀ {k m : Nat} {rs : List R4}, (∀ r ∈ rs, RuL k r.2.1 r.1 r.2.2.1 r.2.2.2) → (rs.map (·.2.1)).sum ≤ 16 → k + 1 < 8 → k < m → (∀ r ∈ rs, r.2.1 ≤ 16 → k < 8 → ∀ m, k < m → ∀ f : Nat, F_listed m [r.1, .int f] = .ok (LLN (r.2.2.2 f))) → Kid4 m k rs := fun {k m rs} h hl hk hm ih =>
    have hi : ∀ r ∈ rs, r.2.1 ≤ 16 := fun r hr => Nat.le_trans (le_sum (List.mem_map.mpr ⟨r, hr, rfl⟩)) hl
    ⟨h, fun r hr f => ih r hr (hi r hr) (by omega) m hm f, fun r hr => r_leafc (h r hr).rule (hi r hr) _ (by omega), hl⟩
  induction h with
  | @leaf k d s ds e h f0 =>
    rintro - - m hm f
    obtain ⟨m, rfl⟩ : ∃ m', m = m' + 1 := ⟨m - 1, by omega⟩
    subst e
    unfold F_listed
    refine run_def_eq ?_
    unfold B_listed
    exact run_ifT (ev_T (ev_call (ev_cons rfl ev_nil) rfl (isleaf_leaf h))) (run_ret rfl rfl)
  | @all k rs h0 h ih =>
    rintro hl hk m hm f
    obtain ⟨m, rfl⟩ : ∃ m', m = m' + 1 := ⟨m - 1, by omega⟩
    have K := kids h hl hk (m := m) (by omega) ih
    have hn := (RuL.all h0 h).len f
    have hlo := (RuL.all h0 h).rule.lo
    have hp := p16 hl
    unfold F_listed
    refine run_def_eq ?_
    unfold B_listed
    refine run_guard (ev_T (ev_call (ev_cons rfl ev_nil) rfl isleaf_all)) ?_
    refine run_set (d := .list []) rfl rfl (run_set (d := .int (f : Int)) rfl rfl (loop4 K r_rules2 fun x4 => ?_))
    refine run_ifT (ev_T (ev_B (d1 := .str "all") (d2 := .str "all") rfl rfl (dEq_self (fit_str (n := 0) (by decide +kernel))))) (run_ret (ev_call (ds := [.list ((inn rs f).map LLN)]) (ev_cons rfl ev_nil) rfl (r_together (fun x hx => (K.inn x hx).1) ?_ (fun x hx => (K.inn x hx).2) (by rw [inn_len]; have := K.len; omega))) rfl)
    have := tog_len (xs := inn rs f)
    omega
  | @some k n rs h0 hn h ih =>
    rintro hl hk m hm f
    obtain ⟨m, rfl⟩ : ∃ m', m = m' + 1 := ⟨m - 1, by omega⟩
    have K := kids h hl hk (m := m) (by omega) ih
    have hc := (RuL.some h0 hn h).len f
    have hlo := (RuL.some h0 hn h).rule.lo
    have hp := p16 hl
    have hlen := K.len
    unfold F_listed
    refine run_def_eq ?_
    unfold B_listed
    refine run_guard (ev_T (ev_call (ev_cons rfl ev_nil) rfl isleaf_some)) ?_
    refine run_set (d := .list []) rfl rfl (run_set (d := .int (f : Int)) rfl rfl (loop4 K r_rules3 fun x4 => ?_))
    refine run_ifF (ev_T (ev_B (d1 := .str "some") (d2 := .str "all") rfl rfl (dEq_strF (by decide +kernel) (by decide +kernel) (by decide +kernel)))) (run_next ?_)
    refine run_set (d := .list []) rfl rfl ?_
    have hil := inn_len (rs := rs) (f := f)
    have hin := K.inn (f := f)
    have hts := tks_sel (xs := inn rs f) (m := n) (f := 0) (ys := inn rs f) fun i => by rw [Nat.zero_add]
    rw [Nat.zero_add] at hts
    have htk := r_takes (c := (inn rs f).length) (by omega) (m := n) (f := 0) (by omega) (by omega) 18 (by omega)
    have hlt := fun ps (h : ps ∈ tks n 0 (inn rs f).length) => tks_lt h
    have hres : (tks n 0 (inn rs f).length).flatMap (fun ps => tog (ps.map fun p => (inn rs f).getD p default)) = (sel n (inn rs f)).flatMap tog := by rw [← hts, List.flatMap_map]
    rw [← hres] at hc
    show Run _ _ _ (fun d => d = LLN ((sel n (inn rs f)).flatMap tog)) _
    rw [← hres]
    generalize tks n 0 (inn rs f).length = PS at *
    generalize inn rs f = xs at *
    refine run_in (i := 6) LN PS (fun j ρ => ∃ x6 x7, ρ = [.tuple [.str "some", .int n, .list (rs.map (·.1))], .int f, .list (xs.map LLN), .int ((f + (rs.map (·.2.1)).sum : Nat) : Int), x4, LLN ((PS.take j).flatMap fun ps => tog (ps.map fun p => xs.getD p default)), x6, x7]) (it_l (ev_call (ds := [.int n, .int ((0 : Nat) : Int), .int (xs.length : Nat)]) (ev_cons rfl (ev_cons rfl (ev_cons (ev_CB (ev_cons rfl ev_nil) (by rw [dLen_l, List.length_map])) ev_nil))) rfl htk)) ⟨_, _, rfl⟩ ?_ ?_
    · rintro j hj ρ ⟨x6, x7, rfl⟩
      obtain ⟨q1, q2⟩ := hlt _ (List.getElem_mem hj)
      have hq := flat_take (xs := PS) (g := fun ps => tog (ps.map fun p => xs.getD p default)) (j + 1)
      rw [take_flat hj] at hq ⊢
      generalize (PS.take j).flatMap (fun ps => tog (ps.map fun p => xs.getD p default)) = g at *
      generalize PS[j] = ps at *
      have hys : ∀ y ∈ ps.map fun p => xs.getD p default, y ∈ xs := fun y hy => by
        obtain ⟨p, hp, rfl⟩ := List.mem_map.mp hy
        have := (q2 p hp).2
        rw [List.getD_eq_getElem?_getD, List.getElem?_eq_getElem this]
        exact List.getElem_mem this
      rw [List.length_append] at hq
      have hpl : (ps.map fun p => xs.getD p default).length = ps.length := by rw [List.length_map]
      have hcomp : fComp (fItL (fVar 6)) (gN 7) fYes (fB dIx (fVar 2) (fVar 7)) [.tuple [.str "some", .int n, .list (rs.map (·.1))], .int f, .list (xs.map LLN), .int ((f + (rs.map (·.2.1)).sum : Nat) : Int), x4, LLN g, LN ps, x7] = .ok (.list ((ps.map fun p => xs.getD p default).map LLN)) := by
        rw [List.map_map]
        exact comp_all (i := 7) (fun p : Nat => PyData.int (p : Int)) (fun p => LLN (xs.getD p default)) ps (it_l rfl) (by omega) fun p hp => ev_B rfl rfl (dIx_LLN (q2 p hp).2)
      generalize (ps.map fun p => xs.getD p default) = ys at *
      have htl := tog_len (xs := ys)
      have ht := r_together (xs := ys) (fun x hx => (hin x (hys x hx)).1) (by omega) (fun x hx => (hin x (hys x hx)).2) (by omega)
      unfold B_listed_2
      refine run_last (run_ext (ρ' := [.tuple [.str "some", .int n, .list (rs.map (·.1))], .int f, .list (xs.map LLN), .int ((f + (rs.map (·.2.1)).sum : Nat) : Int), x4, LLN (g ++ tog ys), LN ps, x7]) (ev_call (ev_cons hcomp ev_nil) rfl ht) rfl (by rw [List.length_map, List.length_map]; omega) (by unfold LLN; rw [List.map_append]; rfl) (run_nil ⟨_, _, rfl⟩))
    · rintro ρ ⟨x6, x7, rfl⟩
      rw [List.take_length]
      exact run_ret1 rfl rfl
/-! ### choices rise -/
structure Ri (f l : Nat) (x : List Nat) : Prop where
  up : x.Pairwise (· < ·)
  lo : ∀ e ∈ x, f ≤ e ∧ e < f + l
theorem Ri.app {f a b : Nat} {x y : List Nat} (h : Ri f a x) (g : Ri (f + a) b y) : Ri f (a + b) (x ++ y) :=
  ⟨List.pairwise_append.mpr ⟨h.up, g.up, fun u hu v hv => by have := (h.lo u hu).2; have := (g.lo v hv).1; omega⟩, fun e he => by
    rcases List.mem_append.mp he with he | he
    · have := h.lo e he; omega
    · have := g.lo e he; omega⟩
theorem Ri.skip {f a b : Nat} {x : List Nat} (g : Ri (f + a) b x) : Ri f (a + b) x := ⟨g.up, fun e he => by have := g.lo e he; omega⟩
theorem Ri.nil {f l : Nat} : Ri f l [] := ⟨.nil, fun _ h => nomatch h⟩
def Rs4 (rs : List R4) : Prop := ∀ r ∈ rs, ∀ f, ∀ x ∈ r.2.2.2 f, x ≠ [] ∧ Ri f r.2.1 x
theorem tog_rise : ∀ {rs : List R4} {f : Nat}, Rs4 rs → ∀ x ∈ tog (inn rs f), Ri f (rs.map (·.2.1)).sum x ∧ (rs ≠ [] → x ≠ [])
  | [], _, _, x, hx => by
    rw [List.mem_singleton.mp hx]
    exact ⟨.nil, fun z => absurd rfl z⟩
  | r :: rs, f, h, x, hx => by
    rw [show inn (r :: rs) f = r.2.2.2 f :: inn rs (f + r.2.1) from rfl, tog_cons] at hx
    obtain ⟨a, ha, hx⟩ := List.mem_flatMap.mp hx
    obtain ⟨o, ho, rfl⟩ := List.mem_map.mp hx
    obtain ⟨a1, a2⟩ := h r List.mem_cons_self f a ha
    rw [List.map_cons, List.sum_cons]
    exact ⟨a2.app (tog_rise (fun q hq => h q (List.mem_cons_of_mem _ hq)) o ho).1, fun _ z => a1 (List.append_eq_nil_iff.mp z).1⟩
theorem sel_rise : ∀ {rs : List R4} {f n : Nat}, Rs4 rs → ∀ ys ∈ sel n (inn rs f), ∀ x ∈ tog ys, Ri f (rs.map (·.2.1)).sum x ∧ (1 ≤ n → x ≠ [])
  | rs, f, 0, _, ys, hy, x, hx => by
    have : sel 0 (inn rs f) = [[]] := by cases inn rs f <;> rfl
    rw [this] at hy
    rw [List.mem_singleton.mp hy] at hx
    rw [List.mem_singleton.mp hx]
    exact ⟨.nil, fun z => absurd z (by decide)⟩
  | [], _, n + 1, _, ys, hy, _, _ => nomatch hy
  | r :: rs, f, n + 1, h, ys, hy, x, hx => by
    have ih : Rs4 rs := fun q hq => h q (List.mem_cons_of_mem _ hq)
    rw [List.map_cons, List.sum_cons]
    rcases List.mem_append.mp (show ys ∈ (sel n (inn rs (f + r.2.1))).map (r.2.2.2 f :: ·) ++ sel (n + 1) (inn rs (f + r.2.1)) from hy) with hy | hy
    · obtain ⟨zs, hz, rfl⟩ := List.mem_map.mp hy
      rw [tog_cons] at hx
      obtain ⟨a, ha, hx⟩ := List.mem_flatMap.mp hx
      obtain ⟨o, ho, rfl⟩ := List.mem_map.mp hx
      obtain ⟨a1, a2⟩ := h r List.mem_cons_self f a ha
      exact ⟨a2.app (sel_rise ih zs hz o ho).1, fun _ z => a1 (List.append_eq_nil_iff.mp z).1⟩
    · obtain ⟨b1, b2⟩ := sel_rise ih ys hy x hx
      exact ⟨b1.skip, b2⟩
theorem RuL.rise {k l : Nat} {d : D} {c : Int} {L : Nat → LS} (h : RuL k l d c L) : ∀ f, ∀ x ∈ L f, x ≠ [] ∧ Ri f l x := by
  induction h with
  | leaf =>
    intro f x hx
    rw [List.mem_singleton.mp hx]
    exact ⟨(fun z => nomatch z), ⟨List.pairwise_singleton _ _, fun e he => by rw [List.mem_singleton.mp he]; omega⟩⟩
  | all h0 h ih => exact fun f x hx => let ⟨a, b⟩ := tog_rise ih x hx; ⟨b h0, a⟩
  | some h0 hn h ih =>
    intro f x hx
    obtain ⟨ys, hy, hx⟩ := List.mem_flatMap.mp hx
    obtain ⟨a, b⟩ := sel_rise ih ys hy x hx
    exact ⟨b h0, a⟩
/-! ### keys of choices -/
abbrev PC := List Nat × D
inductive KeyD : Nat → D → Prop
  | nil {n : Nat} : KeyD n (.list [])
  | cons {n : Nat} {ps : List Nat} {ks : List D} (h : ∀ k ∈ ks, KeyD n k) : KeyD (n + 1) (.list (LN ps :: ks))
theorem alike_lst {xs ys : List D} : PySem.W.alike (.list xs) (.list ys) = PySem.W.alikeAll xs ys := by rw [PySem.W.alike]
theorem alike_int {i j : Int} : PySem.W.alike (.int i) (.int j) = true := by rw [PySem.W.alike]
theorem alikeAll_c {x y : D} {xs ys : List D} : PySem.W.alikeAll (x :: xs) (y :: ys) = (PySem.W.alike x y && PySem.W.alikeAll xs ys) := by rw [PySem.W.alikeAll]
theorem alikeAll_n {ys : List D} : PySem.W.alikeAll [] ys = true := by cases ys <;> simp [PySem.W.alikeAll]
theorem alikeAll_e {xs : List D} : PySem.W.alikeAll xs [] = true := by cases xs <;> simp [PySem.W.alikeAll]
theorem alike_LN {ps qs : List Nat} : PySem.W.alike (LN ps) (LN qs) = true := by
  unfold LN
  rw [alike_lst]
  induction ps generalizing qs with
  | nil => exact alikeAll_n
  | cons p ps ih =>
    cases qs with
    | nil => exact alikeAll_e
    | cons q qs => rw [List.map_cons, List.map_cons, alikeAll_c, ih, alike_int]; rfl
theorem alikeAll_of : ∀ {xs ys : List D}, (∀ x ∈ xs, ∀ y ∈ ys, PySem.W.alike x y = true) → PySem.W.alikeAll xs ys = true
  | [], _, _ => alikeAll_n
  | _ :: _, [], _ => alikeAll_e
  | x :: xs, y :: ys, h => by
    rw [alikeAll_c, h x List.mem_cons_self y List.mem_cons_self, alikeAll_of fun a ha b hb => h a (List.mem_cons_of_mem _ ha) b (List.mem_cons_of_mem _ hb)]; rfl
theorem KeyD.alike {n : Nat} {a : D} (h : KeyD n a) : ∀ {b : D} {m : Nat}, KeyD m b → PySem.W.alike a b = true := by
  induction h with
  | nil => intro b m hb; cases hb <;> (rw [alike_lst]; exact alikeAll_n)
  | cons h ih =>
    intro b m hb
    cases hb with
    | nil => rw [alike_lst]; exact alikeAll_e
    | cons g => rw [alike_lst, alikeAll_c, alike_LN, Bool.true_and]; exact alikeAll_of fun x hx y hy => ih x hx (g y hy)
theorem KeyD.lst {n : Nat} {a : D} (h : KeyD n a) : ∃ ks, a = .list ks := by cases h <;> exact ⟨_, rfl⟩
theorem KeyD.fit {n : Nat} {a : D} (h : KeyD n a) : Fit (n + 2) a := by
  induction h with
  | @nil n => exact fit_list (n := n + 1) all_nil
  | @cons n ps ks h ih => exact fit_list (n := n + 2) (all_cons (fit_LN (n := n + 1)) ih)
def LtA (xs ys : List D) : Prop := PyProof.Rows.lexLt PyProof.Rows.itemOrd (PySem.W.keyToksAll xs) (PySem.W.keyToksAll ys) = true
def kLt (a b : D) : Prop := PySem.W.dataLt a b = true
theorem kLt_l {xs ys : List D} (h : LtA xs ys) : kLt (.list xs) (.list ys) := by
  unfold kLt PySem.W.dataLt
  rw [PySem.W.keyToks, PySem.W.keyToks]; exact h
theorem kLt_int {a b : Int} (h : a < b) : kLt (.int a) (.int b) := by
  unfold kLt
  rw [PySem.W.dataLt_int]; exact decide_eq_true h
theorem LtA_eq {x : D} {xs ys : List D} (h : LtA xs ys) : LtA (x :: xs) (x :: ys) := by
  unfold LtA
  rw [PySem.W.toks_all_cons, PySem.W.toks_all_cons]
  exact (PyProof.Rows.lex_self (O := PyProof.Rows.itemOrd) _ _ _).trans ((PySem.W.lex_pre _ _ _).trans h)
theorem LtA_lt {x y : D} {xs ys : List D} (al : PySem.W.alike x y = true) (h : kLt x y) : LtA (x :: xs) (y :: ys) := by
  unfold LtA
  cases e : PyData.eqv x y with
  | true =>
    unfold kLt PySem.W.dataLt at h
    rw [(PySem.W.toks_eqv x y al).1 e, PyProof.Rows.lex_irrefl] at h
    cases h
  | false => rw [PySem.W.dataLt_all_no al e]; exact h
/-! which rules are taken -/
def masks : Nat → Nat → List (List Bool)
  | 0, m => [List.replicate m false]
  | _ + 1, 0 => []
  | n + 1, m + 1 => (masks n m).map (true :: ·) ++ (masks (n + 1) m).map (false :: ·)
theorem masks_0 {m : Nat} : masks 0 m = [List.replicate m false] := by cases m <;> rfl
def pick {α : Type} : List Bool → List α → List α
  | true :: bs, x :: xs => x :: pick bs xs
  | false :: bs, _ :: xs => pick bs xs
  | _, _ => []
def places : Nat → List Bool → List Nat
  | _, [] => []
  | s, true :: bs => s :: places (s + 1) bs
  | s, false :: bs => places (s + 1) bs
theorem pick_no {α : Type} : ∀ {xs : List α} (m : Nat), pick (List.replicate m false) xs = []
  | xs, 0 => by cases xs <;> rfl
  | [], m + 1 => rfl
  | x :: xs, m + 1 => pick_no (xs := xs) m
theorem pick_yes {α : Type} : ∀ {xs : List α}, pick (List.replicate xs.length true) xs = xs
  | [] => rfl
  | x :: xs => congrArg (x :: ·) (pick_yes (xs := xs))
theorem sel_masks {α : Type} : ∀ (xs : List α) (n : Nat), sel n xs = (masks n xs.length).map fun b => pick b xs
  | xs, 0 => by
    rw [masks_0]
    show sel 0 xs = [pick (List.replicate xs.length false) xs]
    rw [pick_no]
    cases xs <;> rfl
  | [], n + 1 => rfl
  | x :: xs, n + 1 => by
    show (sel n xs).map (x :: ·) ++ sel (n + 1) xs = ((masks n xs.length).map (true :: ·) ++ (masks (n + 1) xs.length).map (false :: ·)).map fun b => pick b (x :: xs)
    rw [sel_masks, sel_masks, List.map_append, List.map_map, List.map_map, List.map_map]; rfl
theorem mask_len : ∀ {n m : Nat} {b : List Bool}, b ∈ masks n m → b.length = m ∧ ∀ s, (places s b).length = n
  | 0, m, b, h => by
    rw [masks_0] at h
    rw [List.mem_singleton.mp h]
    refine ⟨List.length_replicate, ?_⟩
    clear h
    induction m with
    | zero => intro s; rfl
    | succ m ih => intro s; exact ih (s + 1)
  | n + 1, 0, b, h => nomatch h
  | n + 1, m + 1, b, h => by
    rcases List.mem_append.mp (show b ∈ (masks n m).map (true :: ·) ++ (masks (n + 1) m).map (false :: ·) from h) with h | h
    · obtain ⟨c, hc, rfl⟩ := List.mem_map.mp h
      obtain ⟨h1, h2⟩ := mask_len hc
      exact ⟨by rw [List.length_cons, h1], fun s => by show (places (s + 1) c).length + 1 = _; rw [h2]⟩
    · obtain ⟨c, hc, rfl⟩ := List.mem_map.mp h
      obtain ⟨h1, h2⟩ := mask_len hc
      exact ⟨by rw [List.length_cons, h1], fun s => h2 (s + 1)⟩
theorem places_lo : ∀ {bs : List Bool} {s p : Nat}, p ∈ places s bs → s ≤ p
  | true :: bs, s, p, h => by
    rcases List.mem_cons.mp (show p ∈ s :: places (s + 1) bs from h) with rfl | h
    · exact Nat.le_refl _
    · have := places_lo h; omega
  | false :: bs, s, p, h => by have := places_lo (bs := bs) (s := s + 1) h; omega
def LtN (ps qs : List Nat) : Prop := LtA (ps.map fun i : Nat => .int (i : Int)) (qs.map fun i : Nat => .int (i : Int))
theorem masks_rise : ∀ (n m s : Nat), (masks n m).Pairwise fun b c => LtN (places s b) (places s c)
  | 0, m, s => by rw [masks_0]; exact List.pairwise_singleton _ _
  | n + 1, 0, s => .nil
  | n + 1, m + 1, s => by
    refine List.pairwise_append.mpr ⟨List.pairwise_map.mpr ((masks_rise n m (s + 1)).imp fun h => ?_), List.pairwise_map.mpr (masks_rise (n + 1) m (s + 1)), fun b hb c hc => ?_⟩
    · exact LtA_eq h
    · obtain ⟨b, hb2, rfl⟩ := List.mem_map.mp hb
      obtain ⟨c, hc2, rfl⟩ := List.mem_map.mp hc
      clear hb hc
      have hc := hc2
      show LtN (s :: places (s + 1) b) (places (s + 1) c)
      have hl := (mask_len hc).2 (s + 1)
      have lo := fun p (h : p ∈ places (s + 1) c) => places_lo h
      generalize places (s + 1) c = qs at *
      cases qs with
      | nil => simp at hl
      | cons q qs => exact LtA_lt alike_int (kLt_int (by have := lo q List.mem_cons_self; omega))
/-! what is taken of each rule -/
def togO {α : Type} : List Bool → List (List α) → List (List (Option α))
  | true :: bs, x :: xs => x.flatMap fun a => (togO bs xs).map fun o => some a :: o
  | false :: bs, _ :: xs => (togO bs xs).map fun o => none :: o
  | _, _ => [[]]
def cat : List (Option PC) → List Nat
  | [] => []
  | some p :: o => p.1 ++ cat o
  | none :: o => cat o
def kys : List (Option PC) → List D
  | [] => []
  | some p :: o => p.2 :: kys o
  | none :: o => kys o
def plc : Nat → List (Option PC) → List Nat
  | _, [] => []
  | s, some _ :: o => s :: plc (s + 1) o
  | s, none :: o => plc (s + 1) o
theorem cat_app : ∀ {a b : List (Option PC)}, cat (a ++ b) = cat a ++ cat b
  | [], _ => rfl
  | some p :: a, b => by show p.1 ++ cat (a ++ b) = (p.1 ++ cat a) ++ cat b; rw [cat_app, List.append_assoc]
  | none :: a, b => cat_app (a := a)
theorem kys_app : ∀ {a b : List (Option PC)}, kys (a ++ b) = kys a ++ kys b
  | [], _ => rfl
  | some p :: a, b => by show p.2 :: kys (a ++ b) = (p.2 :: kys a) ++ kys b; rw [kys_app]; rfl
  | none :: a, b => kys_app (a := a)
theorem plc_app : ∀ {a b : List (Option PC)} {s : Nat}, plc s (a ++ b) = plc s a ++ plc (s + a.length) b
  | [], _, s => rfl
  | some p :: a, b, s => by
    show s :: plc (s + 1) (a ++ b) = (s :: plc (s + 1) a) ++ plc (s + (a.length + 1)) b
    rw [plc_app, show s + (a.length + 1) = s + 1 + a.length by omega]; rfl
  | none :: a, b, s => by
    show plc (s + 1) (a ++ b) = plc (s + 1) a ++ plc (s + (a.length + 1)) b
    rw [plc_app, show s + (a.length + 1) = s + 1 + a.length by omega]
theorem tog_pick : ∀ {bs : List Bool} {xs : List (List PC)}, tog (pick bs (xs.map fun x => x.map (·.1))) = (togO bs xs).map cat
  | [], xs => by cases xs <;> rfl
  | true :: bs, [] => rfl
  | false :: bs, [] => rfl
  | false :: bs, x :: xs => by
    show tog (pick bs (xs.map fun x => x.map (·.1))) = ((togO bs xs).map fun o => none :: o).map cat
    rw [tog_pick, List.map_map]; rfl
  | true :: bs, x :: xs => by
    show tog (x.map (·.1) :: pick bs (xs.map fun x => x.map (·.1))) = (x.flatMap fun a => (togO bs xs).map fun o => some a :: o).map cat
    rw [tog_cons, tog_pick, List.map_flatMap]
    unfold cross
    rw [List.flatMap_map]
    refine flat_congr fun a _ => ?_
    rw [List.map_map, List.map_map]; rfl
theorem togO_plc {α : Type} : ∀ {bs : List Bool} {xs : List (List α)}, bs.length = xs.length → ∀ o ∈ togO bs xs, o.length = bs.length ∧ ∀ j : Nat, (o[j]?.map Option.isSome) = bs[j]?
  | [], [], _, o, h => by rw [List.mem_singleton.mp h]; exact ⟨rfl, fun j => rfl⟩
  | true :: bs, x :: xs, e, o, h => by
    obtain ⟨a, _, h⟩ := List.mem_flatMap.mp (show o ∈ x.flatMap fun a => (togO bs xs).map fun o => some a :: o from h)
    obtain ⟨q, hq, rfl⟩ := List.mem_map.mp h
    obtain ⟨h1, h2⟩ := togO_plc (by simpa using e) q hq
    exact ⟨by rw [List.length_cons, List.length_cons, h1], fun j => by cases j with | zero => rfl | succ j => exact h2 j⟩
  | false :: bs, x :: xs, e, o, h => by
    obtain ⟨q, hq, rfl⟩ := List.mem_map.mp (show o ∈ (togO bs xs).map fun o => none :: o from h)
    obtain ⟨h1, h2⟩ := togO_plc (by simpa using e) q hq
    exact ⟨by rw [List.length_cons, List.length_cons, h1], fun j => by cases j with | zero => rfl | succ j => exact h2 j⟩
theorem plc_places : ∀ {bs : List Bool} {xs : List (List PC)} {s : Nat}, bs.length = xs.length → ∀ o ∈ togO bs xs, plc s o = places s bs
  | [], [], s, _, o, h => by rw [List.mem_singleton.mp h]; rfl
  | true :: bs, x :: xs, s, e, o, h => by
    obtain ⟨a, _, h⟩ := List.mem_flatMap.mp (show o ∈ x.flatMap fun a => (togO bs xs).map fun o => some a :: o from h)
    obtain ⟨q, hq, rfl⟩ := List.mem_map.mp h
    show s :: plc (s + 1) q = s :: places (s + 1) bs
    rw [plc_places (by simpa using e) q hq]
  | false :: bs, x :: xs, s, e, o, h => by
    obtain ⟨q, hq, rfl⟩ := List.mem_map.mp (show o ∈ (togO bs xs).map fun o => none :: o from h)
    exact plc_places (by simpa using e) q hq
structure Alt (n : Nat) (x : List PC) : Prop where
  k : ∀ p ∈ x, KeyD n p.2
  up : x.Pairwise fun p q => kLt p.2 q.2
theorem togO_rise {n : Nat} : ∀ {bs : List Bool} {xs : List (List PC)}, (∀ x ∈ xs, Alt n x) → (togO bs xs).Pairwise fun o q => LtA (kys o) (kys q)
  | [], xs, _ => by cases xs <;> exact List.pairwise_singleton _ _
  | true :: bs, [], _ => List.pairwise_singleton _ _
  | false :: bs, [], _ => List.pairwise_singleton _ _
  | false :: bs, x :: xs, h => List.pairwise_map.mpr (togO_rise fun y hy => h y (List.mem_cons_of_mem _ hy))
  | true :: bs, x :: xs, h => by
    have hx := h x List.mem_cons_self
    refine List.pairwise_flatMap.mpr ⟨fun a ha => List.pairwise_map.mpr ((togO_rise fun y hy => h y (List.mem_cons_of_mem _ hy)).imp fun g => LtA_eq g), ?_⟩
    refine hx.up.imp_of_mem fun {a b} ha hb g o ho q hq => ?_
    obtain ⟨o, _, rfl⟩ := List.mem_map.mp ho
    obtain ⟨q, _, rfl⟩ := List.mem_map.mp hq
    exact LtA_lt ((hx.k a ha).alike (hx.k b hb)) g
theorem kys_key {n : Nat} : ∀ {o : List (Option PC)}, (∀ p, some p ∈ o → KeyD n p.2) → ∀ k ∈ kys o, KeyD n k
  | [], _, k, h => nomatch h
  | some p :: o, g, k, h => by
    rcases List.mem_cons.mp (show k ∈ p.2 :: kys o from h) with rfl | h
    · exact g p List.mem_cons_self
    · exact kys_key (fun q hq => g q (List.mem_cons_of_mem _ hq)) k h
  | none :: o, g, k, h => kys_key (fun q hq => g q (List.mem_cons_of_mem _ hq)) k h
/-! the choices of a rule with their keys -/
def keyO (o : List (Option PC)) : PC := (cat o, .list (LN (plc 0 o) :: kys o))
inductive KK (k : Nat) : List R4 → Nat → List (List PC) → Prop
  | nil {f : Nat} : KK k [] f []
  | cons {r : R4} {rs : List R4} {f : Nat} {x : List PC} {xs : List (List PC)} (e : r.2.2.2 f = x.map (·.1)) (a : Alt k x) (h : ∀ p ∈ x, p.1 ≠ [] ∧ Ri f r.2.1 p.1 ∧ ∀ m, k < m → F__law_key m [r.1, .int f, LN p.1] = .ok p.2) (t : KK k rs (f + r.2.1) xs) : KK k (r :: rs) f (x :: xs)
theorem KK.inn {k : Nat} {rs : List R4} {f : Nat} {xs : List (List PC)} (h : KK k rs f xs) : inn rs f = xs.map fun x => x.map (·.1) := by
  induction h with
  | nil => rfl
  | cons e a h t ih => show _ :: _ = _; rw [ih, e]; rfl
theorem KK.alt {k : Nat} {rs : List R4} {f : Nat} {xs : List (List PC)} (h : KK k rs f xs) : ∀ x ∈ xs, Alt k x := by
  induction h with
  | nil => exact fun _ h => nomatch h
  | cons e a h t ih =>
    intro x hx
    rcases List.mem_cons.mp hx with rfl | hx
    · exact a
    · exact ih x hx
theorem KK.len {k : Nat} {rs : List R4} {f : Nat} {xs : List (List PC)} (h : KK k rs f xs) : xs.length = rs.length := by
  induction h with
  | nil => rfl
  | cons e a h t ih => rw [List.length_cons, List.length_cons, ih]
inductive OC (k m : Nat) : List R4 → Nat → List (Option PC) → Prop
  | nil {f : Nat} : OC k m [] f []
  | non {r : R4} {rs : List R4} {f : Nat} {o : List (Option PC)} (t : OC k m rs (f + r.2.1) o) : OC k m (r :: rs) f (none :: o)
  | som {r : R4} {rs : List R4} {f : Nat} {p : PC} {o : List (Option PC)} (h0 : p.1 ≠ []) (h1 : Ri f r.2.1 p.1) (h2 : F__law_key m [r.1, .int f, LN p.1] = .ok p.2) (h3 : KeyD k p.2) (t : OC k m rs (f + r.2.1) o) : OC k m (r :: rs) f (some p :: o)
theorem KK.oc {k m : Nat} (hm : k < m) {rs : List R4} {f : Nat} {xs : List (List PC)} (h : KK k rs f xs) : ∀ {bs : List Bool}, bs.length = rs.length → ∀ o ∈ togO bs xs, OC k m rs f o := by
  induction h with
  | nil =>
    intro bs e o ho
    cases bs with
    | nil => rw [List.mem_singleton.mp ho]; exact .nil
    | cons b bs => cases e
  | @cons r rs f x xs e a h t ih =>
    intro bs eb o ho
    cases bs with
    | nil => cases eb
    | cons b bs =>
      have eb2 : bs.length = rs.length := by simpa using eb
      clear eb
      cases b with
      | false =>
        obtain ⟨q, hq, rfl⟩ := List.mem_map.mp (show o ∈ (togO bs xs).map fun o => none :: o from ho)
        exact .non (ih eb2 q hq)
      | true =>
        obtain ⟨p, hp, ho⟩ := List.mem_flatMap.mp (show o ∈ x.flatMap fun a => (togO bs xs).map fun o => some a :: o from ho)
        obtain ⟨q, hq, rfl⟩ := List.mem_map.mp ho
        obtain ⟨h0, h1, h2⟩ := h p hp
        exact .som h0 h1 (h2 m hm) (a.k p hp) (ih eb2 q hq)
theorem OC.ri {k m : Nat} {rs : List R4} {f : Nat} {o : List (Option PC)} (h : OC k m rs f o) : Ri f (rs.map (·.2.1)).sum (cat o) := by
  induction h with
  | nil => exact Ri.nil
  | non t ih => rw [List.map_cons, List.sum_cons]; exact ih.skip
  | som h0 h1 h2 h3 t ih => rw [List.map_cons, List.sum_cons]; exact h1.app ih
theorem OC.len {k m : Nat} {rs : List R4} {f : Nat} {o : List (Option PC)} (h : OC k m rs f o) : o.length = rs.length := by
  induction h with
  | nil => rfl
  | non t ih => rw [List.length_cons, List.length_cons, ih]
  | som h0 h1 h2 h3 t ih => rw [List.length_cons, List.length_cons, ih]
theorem OC.key {k m : Nat} {rs : List R4} {f : Nat} {o : List (Option PC)} (h : OC k m rs f o) : ∀ p, some p ∈ o → KeyD k p.2 := by
  induction h with
  | nil => exact fun _ h => nomatch h
  | non t ih =>
    intro p hp
    rcases List.mem_cons.mp hp with e | hp
    · cases e
    · exact ih p hp
  | som h0 h1 h2 h3 t ih =>
    intro p hp
    rcases List.mem_cons.mp hp with e | hp
    · cases e; exact h3
    · exact ih p hp
theorem OC.cut {k m : Nat} {rs : List R4} {f : Nat} {o : List (Option PC)} (h : OC k m rs f o) : ∀ j : Nat, OC k m (rs.take j) f (o.take j) ∧ OC k m (rs.drop j) (f + ((rs.take j).map (·.2.1)).sum) (o.drop j) := by
  induction h with
  | nil => intro j; rw [List.take_nil, List.take_nil, List.drop_nil, List.drop_nil]; exact ⟨.nil, .nil⟩
  | @non r rs f o t ih =>
    intro j
    cases j with
    | zero => exact ⟨.nil, .non t⟩
    | succ j =>
      obtain ⟨a, b⟩ := ih j
      refine ⟨.non a, ?_⟩
      rw [List.take_succ_cons, List.map_cons, List.sum_cons, ← Nat.add_assoc]; exact b
  | @som r rs f p o h0 h1 h2 h3 t ih =>
    intro j
    cases j with
    | zero => exact ⟨.nil, .som h0 h1 h2 h3 t⟩
    | succ j =>
      obtain ⟨a, b⟩ := ih j
      refine ⟨.som h0 h1 h2 h3 a, ?_⟩
      rw [List.take_succ_cons, List.map_cons, List.sum_cons, ← Nat.add_assoc]; exact b
/-- what rule j has of the choice -/
def sgm : Option PC → List Nat
  | some p => p.1
  | none => []
theorem cat_cons {q : Option PC} {o : List (Option PC)} : cat (q :: o) = sgm q ++ cat o := by cases q <;> rfl
theorem OC.part {k m : Nat} {rs : List R4} {f : Nat} {o : List (Option PC)} (h : OC k m rs f o) {j : Nat} (hj : j < rs.length) (ho : j < o.length) :
    (cat o).filter (fun e => decide (f + ((rs.take j).map (·.2.1)).sum ≤ e ∧ e < f + ((rs.take j).map (·.2.1)).sum + rs[j].2.1)) = sgm o[j] ∧
      ∀ p, o[j] = some p → p.1 ≠ [] ∧ Ri (f + ((rs.take j).map (·.2.1)).sum) rs[j].2.1 p.1 ∧ F__law_key m [rs[j].1, .int (f + ((rs.take j).map (·.2.1)).sum : Nat), LN p.1] = .ok p.2 ∧ KeyD k p.2 := by
  obtain ⟨a, b⟩ := h.cut j
  have ra : ∀ e ∈ cat (o.take j), e < f + ((rs.take j).map (·.2.1)).sum := fun e he => (a.ri.lo e he).2
  rw [List.drop_eq_getElem_cons hj, List.drop_eq_getElem_cons ho] at b
  have eo : o = o.take j ++ (o[j] :: o.drop (j + 1)) := by rw [← List.drop_eq_getElem_cons ho, List.take_append_drop]
  have ec : cat o = cat (o.take j) ++ (sgm o[j] ++ cat (o.drop (j + 1))) := by
    rw [← cat_cons, ← cat_app, ← eo]
  rw [ec]
  generalize f + ((rs.take j).map (·.2.1)).sum = F at *
  generalize o[j] = q at *
  generalize rs[j] = r at *
  generalize o.drop (j + 1) = o2 at *
  generalize cat (o.take j) = c1 at *
  generalize rs.drop (j + 1) = rs2 at *
  have hf : ∀ s : List Nat, (∀ e ∈ s, F ≤ e ∧ e < F + r.2.1) → (∀ e ∈ cat o2, F + r.2.1 ≤ e) → (c1 ++ (s ++ cat o2)).filter (fun e => decide (F ≤ e ∧ e < F + r.2.1)) = s := fun s hs h2 => by
    rw [List.filter_append, List.filter_append, List.filter_eq_nil_iff.mpr fun e he => by have := ra e he; simp only [decide_eq_true_eq]; omega,
      List.filter_eq_nil_iff (l := cat o2).mpr fun e he => by have := h2 e he; simp only [decide_eq_true_eq]; omega, List.filter_eq_self.mpr fun e he => decide_eq_true (hs e he), List.append_nil]; rfl
  cases b with
  | non t => exact ⟨hf [] (fun _ h => nomatch h) fun e he => (t.ri.lo e he).1, fun p hp => nomatch hp⟩
  | som h0 h1 h2 h3 t => exact ⟨hf _ h1.lo fun e he => (t.ri.lo e he).1, fun p hp => by cases hp; exact ⟨h0, h1, h2, h3⟩⟩
/-! the size of a rule, and its key -/
theorem dEq_strT {a : Str} (ha : okS a) : dEq (.str a) (.str a) = .ok (.bool true) := dEq_self (fit_str (n := 0) ha)
theorem okS_all : okS "all" := by decide +kernel
theorem okS_some : okS "some" := by decide +kernel
theorem okS_from : okS "from" := by decide +kernel
theorem okS_of : okS "of" := by decide +kernel
theorem fVar_at {i : Nat} {ρ : List D} {d : D} (h : ρ[i]? = some d) : fVar i ρ = .ok d := by unfold fVar; rw [h]
theorem tst_leaf {ρ : List D} {s : Str} {ds : List D} (h0 : ρ[0]? = some (.tuple (.str s :: ds))) (h : s = "from" ∨ s = "of") : bOr (tT (fB dEq (fB dIx (fVar 0) (fC (.int 0))) (fC (.str "from")))) (tT (fB dEq (fB dIx (fVar 0) (fC (.int 0))) (fC (.str "of")))) ρ = .ok true := by
  have e1 : fB dIx (fVar 0) (fC (.int 0)) ρ = .ok (.str s) := ev_B (fVar_at h0) rfl dIx_t0
  rcases h with rfl | rfl
  · exact ev_orT (ev_T (ev_B e1 rfl (dEq_strT okS_from)))
  · refine (ev_or (ev_T (ev_B e1 rfl (dEq_str okS_of okS_from))) fun _ => ev_T (ev_B e1 rfl (dEq_strT okS_of))).trans ?_
    rw [Bool.or_true]
theorem tst_group {ρ : List D} {s : Str} {ds : List D} (h0 : ρ[0]? = some (.tuple (.str s :: ds))) (h : s = "all" ∨ s = "some") : bOr (tT (fB dEq (fB dIx (fVar 0) (fC (.int 0))) (fC (.str "from")))) (tT (fB dEq (fB dIx (fVar 0) (fC (.int 0))) (fC (.str "of")))) ρ = .ok false := by
  have e1 : fB dIx (fVar 0) (fC (.int 0)) ρ = .ok (.str s) := ev_B (fVar_at h0) rfl dIx_t0
  rcases h with rfl | rfl
  · exact ev_orF (ev_T (ev_B e1 rfl ((dEq_str okS_all okS_from).trans (congrArg (fun b => Rs.ok (PyData.bool b)) (by decide +kernel))))) (ev_T (ev_B e1 rfl ((dEq_str okS_all okS_of).trans (congrArg (fun b => Rs.ok (PyData.bool b)) (by decide +kernel)))))
  · exact ev_orF (ev_T (ev_B e1 rfl ((dEq_str okS_some okS_from).trans (congrArg (fun b => Rs.ok (PyData.bool b)) (by decide +kernel))))) (ev_T (ev_B e1 rfl ((dEq_str okS_some okS_of).trans (congrArg (fun b => Rs.ok (PyData.bool b)) (by decide +kernel)))))
theorem tup_neg2 {a b : D} : dIx (.tuple [a, b]) (.int (-1)) = .ok b := rfl
theorem tup_neg3 {a b c : D} : dIx (.tuple [a, b, c]) (.int (-1)) = .ok c := rfl
theorem r_size {k l : Nat} {d : D} {c : Int} (h : Rule k l d c) : l ≤ 16 → ∀ m, k < m → F__law_size m [d] = .ok (.int (l : Nat)) := by
  have sums : ∀ {rs : List RR}, (.list (rs.map fun r => PyData.int ((r.2.1 : Nat) : Int)) : D) = .list (((rs.map (·.2.1)).map fun n : Nat => (n : Int)).map .int) := fun {rs} => by rw [List.map_map, List.map_map]; rfl
  have sumN : ∀ us : List Nat, (us.map fun n : Nat => (n : Int)).sum = (us.sum : Nat) := fun us => by
    induction us with
    | nil => rfl
    | cons u us ih => rw [List.map_cons, List.sum_cons, List.sum_cons, ih]; omega
  have grp : ∀ {m : Nat} {s : Str} {ds : List D} {rs : List RR}, s = "all" ∨ s = "some" → dIx (.tuple (.str s :: ds)) (.int (-1)) = .ok (.list (rs.map (·.1))) → rs.length ≤ 16 → (∀ r ∈ rs, F__law_size m [r.1] = .ok (.int (r.2.1 : Nat))) → F__law_size (m + 1) [.tuple (.str s :: ds)] = .ok (.int ((rs.map (·.2.1)).sum : Nat)) := fun {m s ds rs} h1 h2 hl hc => by
    unfold F__law_size
    refine run_def_eq ?_
    unfold B__law_size
    refine run_guard (tst_group rfl h1) ?_
    refine run_ret1 (ev_CB (ev_cons (d := .list (rs.map fun r => PyData.int ((r.2.1 : Nat) : Int))) (comp_all (i := 1) (·.1) (fun r : RR => PyData.int ((r.2.1 : Nat) : Int)) rs (it_l (ev_B (d1 := .tuple (.str s :: ds)) (d2 := .int (-1)) rfl rfl h2)) (by omega) fun r hr => ev_call (ds := [r.1]) (ev_cons rfl ev_nil) rfl (hc r hr)) ev_nil) ?_) rfl
    rw [sums, dSum_ints, sumN]
  induction h with
  | @leaf k d s ds e h f =>
    rintro - m hm
    obtain ⟨m, rfl⟩ : ∃ m', m = m' + 1 := ⟨m - 1, by omega⟩
    subst e
    unfold F__law_size
    refine run_def_eq ?_
    unfold B__law_size
    exact run_ifT (tst_leaf rfl h) (run_ret rfl rfl)
  | @all k rs h0 h ih =>
    rintro hl m hm
    obtain ⟨m, rfl⟩ : ∃ m', m = m' + 1 := ⟨m - 1, by omega⟩
    exact grp (.inl rfl) tup_neg2 (Nat.le_trans (len_sum fun r hr => (h r hr).l1) hl) fun r hr => ih r hr (Nat.le_trans (le_sum (List.mem_map.mpr ⟨r, hr, rfl⟩)) hl) m (by omega)
  | @some k n rs h0 hn h ih =>
    rintro hl m hm
    obtain ⟨m, rfl⟩ : ∃ m', m = m' + 1 := ⟨m - 1, by omega⟩
    exact grp (.inr rfl) tup_neg3 (Nat.le_trans (len_sum fun r hr => (h r hr).l1) hl) fun r hr => ih r hr (Nat.le_trans (le_sum (List.mem_map.mpr ⟨r, hr, rfl⟩)) hl) m (by omega)
theorem dEq_LNn {us : List Nat} : dEq (LN us) (.list []) = .ok (.bool us.isEmpty) := by
  unfold dEq
  rw [if_pos ⟨(fit_LN (n := 0)).sh, (fit_list (n := 0) all_nil).sh⟩]
  cases us <;> rfl
theorem dNe_LNn {us : List Nat} : dNe (LN us) (.list []) = .ok (.bool (!us.isEmpty)) := by
  unfold dNe
  rw [if_pos ⟨(fit_LN (n := 0)).sh, (fit_list (n := 0) all_nil).sh⟩]
  cases us <;> rfl
theorem ev_ch {F1 F2 F3 : List D → Rs D} {ρ : List D} {a b c : Int} (h1 : F1 ρ = .ok (.int a)) (h2 : F2 ρ = .ok (.int b)) (h3 : F3 ρ = .ok (.int c)) : fCh dLe dLt F1 F2 F3 ρ = .ok (.bool (decide (a ≤ b ∧ b < c))) := by
  unfold fCh
  rw [h1, h2, h3]
  show _ = _
  by_cases l1 : a ≤ b
  · by_cases l2 : b < c
    · simp [dLe, dLt, Rs.bind, tB, l1, l2]
    · simp [dLe, dLt, Rs.bind, tB, l1, l2]
  · simp [dLe, dLt, Rs.bind, tB, l1]
theorem LN_snoc {us : List Nat} {u : Nat} : LN (us ++ [u]) = .list ((us.map fun i : Nat => PyData.int (i : Int)) ++ [.int (u : Int)]) := by
  unfold LN; rw [List.map_append]; rfl
structure KO (k m : Nat) (rs : List R4) (f : Nat) (o : List (Option PC)) (s : Str) (ds : List D) : Prop where
  oc : OC k m rs f o
  gs : s = "all" ∨ s = "some"
  al : s = "all" → ∀ q ∈ o, q ≠ none
  ix : dIx (.tuple (.str s :: ds)) (.int (-1)) = .ok (.list (rs.map (·.1)))
  sz : ∀ r ∈ rs, F__law_size 8 [r.1] = .ok (.int (r.2.1 : Nat))
  l : (rs.map (·.2.1)).sum ≤ 16
  ln : rs.length ≤ 16
theorem sum_j {rs : List R4} {j : Nat} (h : j < rs.length) : ((rs.take (j + 1)).map (·.2.1)).sum = ((rs.take j).map (·.2.1)).sum + rs[j].2.1 := by
  rw [take_snoc h, List.map_append, List.sum_append]; rfl
theorem up_len : ∀ (l : Nat) (x : List Nat) (f : Nat), x.Pairwise (· < ·) → (∀ e ∈ x, f ≤ e ∧ e < f + l) → x.length ≤ l
  | l, [], f, _, _ => Nat.zero_le _
  | 0, a :: x, f, _, h => by have := h a List.mem_cons_self; omega
  | l + 1, a :: x, f, hp, h => by
    obtain ⟨h1, h2⟩ := List.pairwise_cons.mp hp
    have := up_len l x (f + 1) h2 fun e he => by have := h1 e he; have := h a List.mem_cons_self; have := h e (List.mem_cons_of_mem _ he); omega
    rw [List.length_cons]; omega
theorem cat_len {f l : Nat} {x : List Nat} (h : Ri f l x) : x.length ≤ l := up_len l x f h.up h.lo
theorem loopK {k m f : Nat} {o : List (Option PC)} {rs : List R4} {s : Str} {ds : List D} (K : KO k m rs f o s ds) {g : List D → Rs Fl} {Q E : D → Prop} {R : List D → Prop}
    (hk : ∀ x6 x7 x8 x9 x10 x11, Run g [.tuple (.str s :: ds), .int f, LN (cat o), .list (kys o), LN (plc 0 o), .int ((f + (rs.map (·.2.1)).sum : Nat) : Int), x6, x7, x8, x9, x10, x11] R Q E) :
    Run (fSeq (fFor (fItR1 (fCB dLen (aCons (fB dIx (fVar 0) (fNeg (fC (.int 1)))) aNil))) (gN 6) (B__law_key_1 (F__law_key m))) g) [.tuple (.str s :: ds), .int f, LN (cat o), .list [], .list [], .int f, .none, .none, .none, .none, .none, .none] R Q E := by
  have hln := K.ln
  have hol := K.oc.len
  have hcl := cat_len K.oc.ri
  have hL := K.l
  refine run_rg (i := 6) 0 rs.length (fun j ρ => ∃ x6 x7 x8 x9 x10 x11, ρ = [.tuple (.str s :: ds), .int f, LN (cat o), .list (kys (o.take j)), LN (plc 0 (o.take j)), .int ((f + ((rs.take j).map (·.2.1)).sum : Nat) : Int), x6, x7, x8, x9, x10, x11])
    (it_r1 (ev_CB (ev_cons (ev_B (d1 := .tuple (.str s :: ds)) (d2 := .int (-1)) rfl rfl K.ix) ev_nil) (by rw [dLen_l, List.length_map])) (by omega)) ⟨_, _, _, _, _, _, rfl⟩ ?_ ?_
  · rintro j hj ρ ⟨x6, x7, x8, x9, x10, x11, rfl⟩
    have ho : j < o.length := by omega
    obtain ⟨p1, p2⟩ := K.oc.part hj ho
    have hs := K.sz _ (List.getElem_mem hj)
    have hal := fun z => K.al z _ (List.getElem_mem ho)
    have et : o.take (j + 1) = o.take j ++ [o[j]] := take_snoc ho
    rw [Int.zero_add]
    have eix : dIx (.list (rs.map (·.1))) (.int (j : Int)) = .ok rs[j].1 := by
      rw [dIx_l (by omega) (by rw [List.length_map]; omega), List.getElem_map]; rfl
    have hpl : (plc 0 (o.take j)).length ≤ 16 := by
      have : ∀ (o : List (Option PC)) (s : Nat), (plc s o).length ≤ o.length := fun o => by
        induction o with
        | nil => exact fun s => Nat.le_refl _
        | cons q o ih => intro s; cases q with
          | none => exact Nat.le_trans (ih (s + 1)) (Nat.le_succ _)
          | some p => exact Nat.succ_le_succ (ih (s + 1))
      have := this (o.take j) 0
      rw [List.length_take] at this; omega
    have hkl : (kys (o.take j)).length ≤ 16 := by
      have : ∀ (o : List (Option PC)), (kys o).length ≤ o.length := fun o => by
        induction o with
        | nil => exact Nat.le_refl _
        | cons q o ih => cases q with
          | none => exact Nat.le_trans ih (Nat.le_succ _)
          | some p => exact Nat.succ_le_succ ih
      have := this (o.take j)
      rw [List.length_take] at this; omega
    rw [et, kys_app, plc_app, sum_j hj, ← Nat.add_assoc, Nat.zero_add, List.length_take, Nat.min_eq_left (Nat.le_of_lt ho)]
    generalize f + ((rs.take j).map (·.2.1)).sum = F at *
    generalize kys (o.take j) = ks at *
    generalize plc 0 (o.take j) = ps at *
    generalize hq : o[j] = q at *
    generalize rs[j] = r at *
    generalize cat o = X at *
    have main : ∀ (a : List D) (b : List Nat) y7 y9 y10 y11, Run (fSet 5 (fB dAdd (fVar 5) (fVar 8))) [.tuple (.str s :: ds), .int f, LN X, .list a, LN b, .int (F : Nat), .int (j : Int), y7, .int (r.2.1 : Nat), y9, y10, y11] (fun ρ => ∃ x6 x7 x8 x9 x10 x11, ρ = [.tuple (.str s :: ds), .int f, LN X, .list a, LN b, .int ((F + r.2.1 : Nat) : Int), x6, x7, x8, x9, x10, x11]) Q E := fun a b y7 y9 y10 y11 =>
      run_last (run_set (d := .int ((F + r.2.1 : Nat) : Int)) (ev_B rfl rfl rfl) rfl (run_nil ⟨_, _, _, _, _, _, rfl⟩))
    unfold B__law_key_1
    refine run_set (d := r.1) (ev_B (ev_B (d1 := .tuple (.str s :: ds)) (d2 := .int (-1)) rfl rfl K.ix) rfl eix) rfl ?_
    refine run_set (d := .int (r.2.1 : Nat)) (ev_call (ds := [r.1]) (ev_cons rfl ev_nil) rfl hs) rfl ?_
    refine run_set (d := LN (sgm q)) ?_ rfl ?_
    · rw [← p1]
      exact comp_ty (i := 11) (fun e : Nat => PyData.int (e : Int)) (fun e => decide (F ≤ e ∧ e < F + r.2.1)) (fun e : Nat => PyData.int (e : Int)) X (it_l rfl) (by omega) (fun e he => by
        refine (ev_T (ev_ch (a := (F : Int)) (b := (e : Int)) (c := ((F : Int) + (r.2.1 : Int))) rfl rfl (ev_B rfl rfl rfl))).trans (congrArg Rs.ok (decide_eq_decide.mpr ?_))
        omega) fun e he _ => rfl
    refine run_guard ?_ ?_
    · rcases K.gs with e | e
      · subst e
        refine ev_andT (ev_T (ev_B (ev_B rfl rfl dIx_t0) rfl (dEq_strT okS_all))) (ev_T (ev_B rfl rfl (dEq_LNn.trans ?_)))
        cases q with
        | none => exact absurd rfl (hal rfl)
        | some p =>
          have := (p2 p rfl).1
          show Rs.ok (PyData.bool p.1.isEmpty) = _
          cases h : p.1 with
          | nil => exact absurd h this
          | cons a as => rfl
      · subst e
        exact ev_andF (ev_T (ev_B (ev_B rfl rfl dIx_t0) rfl ((dEq_str okS_some okS_all).trans (congrArg (fun b => Rs.ok (PyData.bool b)) (by decide +kernel)))))
    · cases q with
      | none =>
        refine run_ifF (ev_T (ev_B rfl rfl dNe_LNn)) (run_next ?_)
        rw [show ks ++ kys [none] = ks from List.append_nil _, show ps ++ plc j [none] = ps from List.append_nil _]
        exact main ..
      | some p =>
        obtain ⟨q1, q2, q3, q4⟩ := p2 p rfl
        obtain ⟨kl, ekl⟩ := q4.lst
        refine run_ifT (ev_T (ev_B rfl rfl (dNe_LNn.trans ?_))) ?_
        · show Rs.ok (PyData.bool (!p.1.isEmpty)) = _
          cases h : p.1 with
          | nil => exact absurd h q1
          | cons a as => rfl
        refine run_assoc (run_set (d := p.2) (ev_call (ds := [r.1, .int (F : Nat), LN p.1]) (ev_cons rfl (ev_cons rfl (ev_cons rfl ev_nil))) rfl q3) rfl (run_assoc (run_guard (ev_T (ev_B (d1 := p.2) (d2 := .none) rfl rfl (by rw [ekl]; rfl))) ?_)))
        refine run_assoc (run_app (d := .int (j : Int)) (ds := ps.map fun i : Nat => .int (i : Int)) rfl rfl (by rw [List.length_map]; omega) rfl ?_)
        refine run_app (d := p.2) (ds := ks) rfl rfl (by omega) rfl ?_
        have e1 : PyData.list ((ps.map fun i : Nat => PyData.int (i : Int)) ++ [.int (j : Int)]) = LN (ps ++ [j]) := LN_snoc.symm
        simp only [List.set_cons_zero, List.set_cons_succ, e1]
        exact main (ks ++ [p.2]) (ps ++ [j]) _ _ _ _
  · rintro ρ ⟨x6, x7, x8, x9, x10, x11, rfl⟩
    rw [List.take_length, show o.take rs.length = o by rw [← hol, List.take_length]]
    exact hk ..
theorem plc_len : ∀ {o : List (Option PC)} {s t : Nat}, (plc s o).length = (plc t o).length
  | [], _, _ => rfl
  | some p :: o, s, t => congrArg (· + 1) (plc_len (o := o) (s := s + 1) (t := t + 1))
  | none :: o, s, t => plc_len (o := o) (s := s + 1) (t := t + 1)
theorem r_keyG {k m f : Nat} {o : List (Option PC)} {rs : List R4} {s : Str} {ds : List D} (K : KO k m rs f o s ds) (hn : s = "some" → dIx (.tuple (.str s :: ds)) (.int 1) = .ok (.int (plc 0 o).length)) : F__law_key (m + 1) [.tuple (.str s :: ds), .int f, LN (cat o)] = .ok (keyO o).2 := by
  unfold F__law_key
  refine run_def_eq ?_
  unfold B__law_key
  refine run_guard (tst_group rfl K.gs) ?_
  refine run_set (d := .list []) rfl rfl (run_set (d := .list []) rfl rfl (run_set (d := .int f) rfl rfl (loopK K fun x6 x7 x8 x9 x10 x11 => ?_)))
  have hkl : (kys o).length ≤ 16 := by
    have : ∀ (o : List (Option PC)), (kys o).length ≤ o.length := fun o => by
      induction o with
      | nil => exact Nat.le_refl _
      | cons q o ih => cases q with
        | none => exact Nat.le_trans ih (Nat.le_succ _)
        | some p => exact Nat.succ_le_succ ih
    have := this o
    have := K.oc.len
    have := K.ln
    omega
  refine run_guard ?_ (run_ret1 (ev_B (d1 := .list [LN (plc 0 o)]) (d2 := .list (kys o)) rfl rfl (dAdd_l (by rw [List.length_singleton]; omega))) rfl)
  rcases K.gs with e | e
  · subst e
    exact ev_andF (ev_T (ev_B (ev_B rfl rfl dIx_t0) rfl ((dEq_str okS_all okS_some).trans (congrArg (fun b => Rs.ok (PyData.bool b)) (by decide +kernel)))))
  · subst e
    refine ev_andT (ev_T (ev_B (ev_B rfl rfl dIx_t0) rfl (dEq_strT okS_some))) (ev_T (ev_B (ev_CB (ev_cons rfl ev_nil) dLen_LN) (ev_B rfl rfl (hn rfl)) (dNe_int.trans ?_)))
    simp
theorem all_some : ∀ {n : Nat} {xs : List (List PC)} {o : List (Option PC)}, o ∈ togO (List.replicate n true) xs → ∀ q ∈ o, q ≠ none
  | 0, xs, o, h, q, hq => by
    have : togO (List.replicate 0 true) xs = [[]] := by cases xs <;> rfl
    rw [this] at h
    rw [List.mem_singleton.mp h] at hq
    exact nomatch hq
  | n + 1, [], o, h, q, hq => by rw [List.mem_singleton.mp h] at hq; exact nomatch hq
  | n + 1, x :: xs, o, h, q, hq => by
    obtain ⟨a, _, h⟩ := List.mem_flatMap.mp (show o ∈ x.flatMap fun a => (togO (List.replicate n true) xs).map fun o => some a :: o from h)
    obtain ⟨p, hp, rfl⟩ := List.mem_map.mp h
    rcases List.mem_cons.mp hq with rfl | hq
    · exact fun z => nomatch z
    · exact all_some hp q hq
theorem kk_of {k : Nat} : ∀ {rs : List R4}, (∀ r ∈ rs, ∀ f : Nat, ∃ x : List PC, r.2.2.2 f = x.map (·.1) ∧ Alt k x ∧ ∀ p ∈ x, ∀ m, k < m → F__law_key m [r.1, .int f, LN p.1] = .ok p.2) → (∀ r ∈ rs, ∀ f : Nat, ∀ x ∈ r.2.2.2 f, x ≠ [] ∧ Ri f r.2.1 x) → ∀ f : Nat, ∃ xs, KK k rs f xs
  | [], _, _, f => ⟨[], .nil⟩
  | r :: rs, h, hr, f => by
    obtain ⟨x, e, a, hx⟩ := h r List.mem_cons_self f
    obtain ⟨xs, hxs⟩ := kk_of (fun q hq => h q (List.mem_cons_of_mem _ hq)) (fun q hq => hr q (List.mem_cons_of_mem _ hq)) (f + r.2.1)
    refine ⟨x :: xs, .cons e a (fun p hp => ?_) hxs⟩
    obtain ⟨h1, h2⟩ := hr r List.mem_cons_self f p.1 (by rw [e]; exact List.mem_map.mpr ⟨p, hp, rfl⟩)
    exact ⟨h1, h2, hx p hp⟩
theorem RuL.keys {k l : Nat} {d : D} {c : Int} {L : Nat → LS} (h : RuL k l d c L) : l ≤ 16 → k < 8 → ∀ f : Nat, ∃ x : List PC, L f = x.map (·.1) ∧ Alt k x ∧ ∀ p ∈ x, ∀ m, k < m → F__law_key m [d, .int f, LN p.1] = .ok p.2 := by
  induction h with
  | @leaf k d s ds e h f0 =>
    intro _ _ f
    refine ⟨[([f], .list [])], rfl, ⟨fun p hp => by rw [List.mem_singleton.mp hp]; exact .nil, List.pairwise_singleton _ _⟩, fun p hp m hm => ?_⟩
    rw [List.mem_singleton.mp hp]
    obtain ⟨m, rfl⟩ : ∃ m', m = m' + 1 := ⟨m - 1, by omega⟩
    subst e
    unfold F__law_key
    refine run_def_eq ?_
    unfold B__law_key
    exact run_ifT (tst_leaf rfl h) (run_ret rfl rfl)
  | @all k rs h0 h ih =>
    intro hl hk f
    have hi : ∀ r ∈ rs, r.2.1 ≤ 16 := fun r hr => Nat.le_trans (le_sum (List.mem_map.mpr ⟨r, hr, rfl⟩)) hl
    have hlen : rs.length ≤ 16 := by
      have := len_sum (rs := rs.map r3) fun r hr => by
        obtain ⟨q, hq, rfl⟩ := List.mem_map.mp hr
        exact (h q hq).rule.l1
      rw [r3_maps.2.1, List.length_map] at this
      omega
    obtain ⟨xs, K⟩ := kk_of (fun r hr => ih r hr (hi r hr) (by omega)) (fun r hr => (h r hr).rise) f
    have eb : (List.replicate rs.length true).length = xs.length := by rw [List.length_replicate, K.len]
    refine ⟨(togO (List.replicate rs.length true) xs).map keyO, ?_, ⟨fun p hp => ?_, ?_⟩, fun p hp m hm => ?_⟩
    · show tog (inn rs f) = _
      have := tog_pick (bs := List.replicate rs.length true) (xs := xs)
      rw [← K.inn, show rs.length = (inn rs f).length by rw [inn_len], pick_yes] at this
      rw [this, List.map_map, inn_len]; rfl
    · obtain ⟨o, ho, rfl⟩ := List.mem_map.mp hp
      exact .cons (kys_key (K.oc (m := k + 1) (by omega) (by rw [List.length_replicate]) o ho).key)
    · refine List.pairwise_map.mpr ((togO_rise K.alt).imp_of_mem fun {o q} ho hq g => ?_)
      show kLt (.list (LN (plc 0 o) :: kys o)) (.list (LN (plc 0 q) :: kys q))
      rw [plc_places eb o ho, plc_places eb q hq]
      exact kLt_l (LtA_eq g)
    · obtain ⟨o, ho, rfl⟩ := List.mem_map.mp hp
      obtain ⟨m, rfl⟩ : ∃ m', m = m' + 1 := ⟨m - 1, by omega⟩
      exact r_keyG (s := "all") (ds := [.list (rs.map (·.1))]) ⟨K.oc (m := m) (by omega) (by rw [List.length_replicate]) o ho, .inl rfl, fun _ => all_some ho, tup_neg2, fun r hr => r_size (h r hr).rule (hi r hr) 8 (by omega), hl, hlen⟩ fun z => absurd z (by decide +kernel)
  | @some k n rs h0 hn h ih =>
    intro hl hk f
    have hi : ∀ r ∈ rs, r.2.1 ≤ 16 := fun r hr => Nat.le_trans (le_sum (List.mem_map.mpr ⟨r, hr, rfl⟩)) hl
    have hlen : rs.length ≤ 16 := by
      have := len_sum (rs := rs.map r3) fun r hr => by
        obtain ⟨q, hq, rfl⟩ := List.mem_map.mp hr
        exact (h q hq).rule.l1
      rw [r3_maps.2.1, List.length_map] at this
      omega
    obtain ⟨xs, K⟩ := kk_of (fun r hr => ih r hr (hi r hr) (by omega)) (fun r hr => (h r hr).rise) f
    have eb : ∀ b ∈ masks n rs.length, b.length = xs.length := fun b hb => by rw [(mask_len hb).1, K.len]
    have er : ∀ b ∈ masks n rs.length, b.length = rs.length := fun b hb => (mask_len hb).1
    have hp2 : ∀ b ∈ masks n rs.length, ∀ o ∈ togO b xs, plc 0 o = places 0 b := fun b hb o ho => plc_places (eb b hb) o ho
    refine ⟨(masks n rs.length).flatMap fun b => (togO b xs).map keyO, ?_, ⟨fun p hp => ?_, ?_⟩, fun p hp m hm => ?_⟩
    · show (sel n (inn rs f)).flatMap tog = _
      rw [sel_masks, List.flatMap_map, List.map_flatMap, inn_len]
      refine flat_congr fun b _ => ?_
      rw [K.inn, tog_pick, List.map_map]; rfl
    · obtain ⟨b, hb, hp⟩ := List.mem_flatMap.mp hp
      obtain ⟨o, ho, rfl⟩ := List.mem_map.mp hp
      exact .cons (kys_key (K.oc (m := k + 1) (by omega) (er b hb) o ho).key)
    · refine List.pairwise_flatMap.mpr ⟨fun b hb => List.pairwise_map.mpr ((togO_rise K.alt).imp_of_mem fun {o q} ho hq g => ?_), (masks_rise n rs.length 0).imp_of_mem fun {b c} hb hc g p hp q hq => ?_⟩
      · show kLt (.list (LN (plc 0 o) :: kys o)) (.list (LN (plc 0 q) :: kys q))
        rw [hp2 b hb o ho, hp2 b hb q hq]
        exact kLt_l (LtA_eq g)
      · obtain ⟨o, ho, rfl⟩ := List.mem_map.mp hp
        obtain ⟨u, hu, rfl⟩ := List.mem_map.mp hq
        show kLt (.list (LN (plc 0 o) :: kys o)) (.list (LN (plc 0 u) :: kys u))
        rw [hp2 b hb o ho, hp2 c hc u hu]
        exact kLt_l (LtA_lt alike_LN (kLt_l g))
    · obtain ⟨b, hb, hp⟩ := List.mem_flatMap.mp hp
      obtain ⟨o, ho, rfl⟩ := List.mem_map.mp hp
      obtain ⟨m, rfl⟩ : ∃ m', m = m' + 1 := ⟨m - 1, by omega⟩
      refine r_keyG (s := "some") (ds := [.int n, .list (rs.map (·.1))]) ⟨K.oc (m := m) (by omega) (er b hb) o ho, .inr rfl, fun z => absurd z (by decide +kernel), tup_neg3, fun r hr => r_size (h r hr).rule (hi r hr) 8 (by omega), hl, hlen⟩ fun _ => ?_
      rw [hp2 b hb o ho, (mask_len hb).2 0]
      exact dIx_t1
/-! ### errors as data -/
theorem run_raise {x f : Str} {A : List D → Rs (List D)} {d : D} {k : List D → Rs Fl} {ρ : List D} {R : List D → Prop} {Q E : D → Prop} (h : A ρ = .ok [d]) (q : E (excD x [(f, d)])) : FL.Run (fSeq (fRaise x f A) k) ρ R Q E := by
  unfold FL.Run fSeq fRaise
  rw [h]; exact q
theorem run_try {body : List D → Rs Fl} {cl : List ClF} {k : Str} {fs : List (Str × D)} {ρ ρ' : List D} {g : List D → Rs Fl} {R : List D → Prop} {Q E : D → Prop} (h : body ρ = .er (excD k fs)) (hk : k ∈ xnames) (hh : fHan (excD k fs) k cl ρ = .ok (.nx ρ')) (n : FL.Run g ρ' R Q E) : FL.Run (fSeq (fTry body cl) g) ρ R Q E := by
  unfold FL.Run fSeq fTry
  rw [h]
  simp only
  rw [asExc_exc]
  simp only
  rw [if_pos hk, hh]
  exact n
theorem han_no {e : D} {k : Str} {c : ClF} {r : List ClF} {ρ : List D} (h : c.xs.any (excIs k) = false) : fHan e k (c :: r) ρ = fHan e k r ρ := by
  show (if c.xs.any (excIs k) = true then _ else _) = _
  rw [h, if_neg Bool.false_ne_true]
theorem han_yes {e : D} {k : Str} {xs : List Str} {i : Nat} {f : List D → Rs Fl} {r : List ClF} {ρ ρ' : List D} (h : xs.any (excIs k) = true) (hf : f (ρ.set i e) = .ok (.nx ρ')) : fHan e k (⟨xs, some i, f⟩ :: r) ρ = .ok (.nx ρ') := by
  show (if xs.any (excIs k) = true then ClF.run _ e ρ else _) = _
  rw [if_pos h]
  show noEr (f (ρ.set i e)) = _
  rw [hf]; rfl
theorem ev_xf {f k : Str} {fs : List (Str × D)} {F : List D → Rs D} {ρ : List D} {d : D} (h : F ρ = .ok (excD k fs)) (hk : k ∈ xnames) (hx : xfld k f = true) (hl : fs.lookup f = some d) : fXf f F ρ = .ok d := by
  unfold fXf
  rw [h, Rs.bind_ok, asExc_exc]
  simp only
  rw [if_pos ⟨hk, hx⟩, hl]
theorem ev_isX {x k : Str} {fs : List (Str × D)} {F : List D → Rs D} {ρ : List D} {b : Bool} (h : F ρ = .ok (excD k fs)) (hk : k ∈ xnames) (hb : excIs k x = b) : fIsX x F ρ = .ok (.bool b) := by
  unfold fIsX
  rw [h, Rs.bind_ok]
  have : isXd x (excD k fs) = (match asExc (excD k fs) with
    | some (c, _) => if c ∈ xnames then .ok (.bool (excIs c x)) else .no
    | none => .no) := rfl
  rw [this, asExc_exc]
  simp only
  rw [if_pos hk, hb]
theorem fSet_ok {i : Nat} {F : List D → Rs D} {ρ : List D} {d : D} (h : F ρ = .ok d) : fSet i F ρ = .ok (.nx (ρ.set i d)) := by unfold fSet; rw [h]; rfl
theorem fExp_er {F : List D → Rs D} {ρ : List D} {e : D} (h : F ρ = .er e) : fExp F ρ = .er e := by unfold fExp; rw [h]; rfl
theorem call_er {n : Nat} {G : List D → Rs D} {A : List D → Rs (List D)} {ρ ds : List D} {e : D} (h : A ρ = .ok ds) (hl : ds.length = n) (hg : G ds = .er e) : fCall n G A ρ = .er e := by
  unfold fCall; rw [h, Rs.bind_ok, if_pos hl, hg]
theorem fSet_er {i : Nat} {F : List D → Rs D} {ρ : List D} {e : D} (h : F ρ = .er e) : fSet i F ρ = .er e := by unfold fSet; rw [h]; rfl
/-! ### the law -/
theorem Rule.okM {k l : Nat} {d : D} {c : Int} (h : Rule k l d c) : FL.okM d = true ∧ ∀ i, d ≠ .int i := by
  induction h with
  | leaf e h f => exact ⟨f.2, fun i z => by rw [e] at z; cases z⟩
  | @all k rs h0 h ih =>
    exact ⟨okM_t (okMs_all (all_cons okM_str (all_cons (okM_lst fun d hd => by
      obtain ⟨r, hr, rfl⟩ := List.mem_map.mp hd
      exact ih r hr) all_nil))), fun i z => nomatch z⟩
  | @some k n rs h0 hn h ih =>
    exact ⟨okM_t (okMs_all (all_cons okM_str (all_cons okM_int (all_cons (okM_lst fun d hd => by
      obtain ⟨r, hr, rfl⟩ := List.mem_map.mp hd
      exact ih r hr) all_nil)))), fun i z => nomatch z⟩
def tmE : D := excD "TooMany" [("most", .int 32)]
theorem r_count {d : D} {k l : Nat} {c : Int} (h : Rule k l d c) (hk : k < 8) (hl : l ≤ 16) : F_count_choices [.tuple [.list [], d]] = .ok (.int c) := by
  unfold F_count_choices
  refine run_def_eq ?_
  unfold B_count_choices
  exact run_ret1 (ev_call (ds := [d]) (ev_cons rfl ev_nil) rfl (r_counts h hl 8 hk).1) rfl
theorem r_many {d : D} {k l : Nat} {c : Int} (h : Rule k l d c) (hk : k < 8) (hl : l ≤ 16) (hc : 32 < c) : F_choices [.tuple [.list [], d]] = .er tmE := by
  refine Res.eqE (res_def ?_)
  unfold B_choices
  exact run_ifT (ev_T (ev_B (ev_call (ev_cons rfl ev_nil) rfl (r_count h hk hl)) rfl (show Rs.ok (PyData.bool (decide (c > 32))) = _ by rw [decide_eq_true hc]))) (run_raise rfl rfl)
theorem r_choices {d : D} {k l : Nat} {c : Int} {L : Nat → LS} (h : RuL k l d c L) (hk : k < 8) (hl : l ≤ 16) (hc : c ≤ 32) : F_choices [.tuple [.list [], d]] = .ok (LLN (L 0)) := by
  unfold F_choices
  refine run_def_eq ?_
  unfold B_choices
  refine run_guard (ev_T (ev_B (ev_call (ev_cons rfl ev_nil) rfl (r_count h.rule hk hl)) rfl (show Rs.ok (PyData.bool (decide (c > 32))) = _ by rw [decide_eq_false (by omega)]))) ?_
  exact run_ret1 (ev_call (ds := [d, .int ((0 : Nat) : Int)]) (ev_cons rfl (ev_cons rfl ev_nil)) rfl (r_listed h hl hk 8 hk 0)) rfl
theorem r_askedM {d : D} (h : F_choices [.tuple [.list [], d]] = .er tmE) : F__law_asked [.tuple [.list [], d]] = .ok (.int 32) := by
  unfold F__law_asked
  refine run_def_eq ?_
  unfold B__law_asked
  refine run_set (d := .none) rfl rfl ?_
  have hb : fSet 1 (fCall 1 F_choices (aCons (fVar 0) aNil)) [.tuple [.list [], d], .none, .none] = .er tmE := fSet_er (call_er (ds := [.tuple [.list [], d]]) rfl rfl h)
  refine run_try (k := "TooMany") (fs := [("most", .int 32)]) (ρ' := [.tuple [.list [], d], .int 32, tmE]) hb (by decide +kernel) (han_yes (by decide +kernel) ?_) (run_ret1 rfl rfl)
  exact fSet_ok (ev_xf (k := "TooMany") (fs := [("most", .int 32)]) rfl (by decide +kernel) (by decide +kernel) rfl)
theorem run_tryK {body : List D → Rs Fl} {cl : List ClF} {ρ ρ' : List D} {g : List D → Rs Fl} {R : List D → Prop} {Q E : D → Prop} (h : body ρ = .ok (.nx ρ')) (n : FL.Run g ρ' R Q E) : FL.Run (fSeq (fTry body cl) g) ρ R Q E := by
  unfold FL.Run fSeq fTry
  rw [h]
  exact n
theorem r_askedK {d x : D} (h : F_choices [.tuple [.list [], d]] = .ok x) : F__law_asked [.tuple [.list [], d]] = .ok x := by
  unfold F__law_asked
  refine run_def_eq ?_
  unfold B__law_asked
  refine run_set (d := .none) rfl rfl ?_
  refine run_tryK (ρ' := [.tuple [.list [], d], x, .none]) (fSet_ok (ev_call (ds := [.tuple [.list [], d]]) rfl rfl h)) (run_ret1 rfl rfl)
theorem LN_ix {us : List Nat} {k : Nat} (h : k < us.length) : dIx (LN us) (.int k) = .ok (.int (us[k] : Nat)) := by
  unfold LN
  rw [dIx_l (by omega) (by rw [List.length_map]; omega), List.getElem_map]; rfl
theorem r_rising {x : List Nat} {l : Nat} (h : Ri 0 l x) (h0 : x ≠ []) (hl : l ≤ 16) : F__law_rising [LN x, .int (l : Nat)] = .ok (.bool true) := by
  have hx := cat_len h
  unfold F__law_rising
  refine run_def_eq ?_
  unfold B__law_rising
  refine run_guard (ev_notT (ev_T (b := true) rfl)) ?_
  refine run_rg (i := 2) 0 x.length (fun j ρ => ∃ x2, ρ = [LN x, .int (l : Nat), x2]) (it_r1 (ev_CB (ev_cons rfl ev_nil) dLen_LN) (by omega)) ⟨_, rfl⟩ ?_ ?_
  · rintro j hj ρ ⟨x2, rfl⟩
    rw [Int.zero_add]
    have hi := h.lo _ (List.getElem_mem hj)
    have e1 : fB dIx (fVar 0) (fVar 2) [LN x, .int (l : Nat), .int (j : Int)] = .ok (.int (x[j] : Nat)) := ev_B rfl rfl (LN_ix hj)
    unfold B__law_rising_1
    refine run_guard (ev_orF (ev_notT (ev_T (b := true) ?_)) (ev_orF (ev_T (b := false) ?_) (ev_notT (ev_T (b := true) ?_)))) ?_
    · show fIsa "int" _ _ = _
      unfold fIsa
      show (fB dIx (fVar 0) (fVar 2) [LN x, .int (l : Nat), .int (j : Int)]).bind _ = _
      rw [e1]; rfl
    · show fIsa "bool" _ _ = _
      unfold fIsa
      show (fB dIx (fVar 0) (fVar 2) [LN x, .int (l : Nat), .int (j : Int)]).bind _ = _
      rw [e1]; rfl
    · refine (ev_ch (a := 0) (b := (x[j] : Nat)) (c := (l : Nat)) rfl e1 rfl).trans ?_
      rw [decide_eq_true ⟨by omega, by omega⟩]
    · refine run_last (run_guard ?_ (run_nil ⟨_, rfl⟩))
      rcases Nat.eq_zero_or_pos j with z | z
      · subst z
        exact ev_andF (ev_T (b := false) (ev_B rfl rfl rfl))
      · refine (ev_and (b1 := true) (b2 := false) (ev_T (ev_B (d1 := .int (j : Int)) (d2 := .int 0) rfl rfl ?_)) fun _ => ev_T (ev_B (d1 := .int (x[j - 1] : Nat)) (d2 := .int (x[j] : Nat)) (ev_B (d1 := LN x) (d2 := .int ((j - 1 : Nat) : Int)) rfl ?_ (LN_ix (by omega))) e1 ?_))
        · show Rs.ok (PyData.bool (decide ((j : Int) > 0))) = _
          rw [decide_eq_true (by omega)]
        · show Rs.ok (PyData.int ((j : Int) - 1)) = _
          rw [show (j : Int) - 1 = ((j - 1 : Nat) : Int) by omega]
        · show Rs.ok (PyData.bool (decide (((x[j - 1] : Nat) : Int) ≥ ((x[j] : Nat) : Int)))) = _
          have := List.pairwise_iff_getElem.mp h.up (j - 1) j (by omega) hj (by omega)
          rw [decide_eq_false (by omega)]
  · rintro ρ ⟨x2, rfl⟩
    refine run_ret1 (ev_B rfl rfl (dNe_LNn.trans ?_)) rfl
    cases x with
    | nil => exact absurd rfl h0
    | cons a as => rfl
def bef (X : List PC) : Nat → D
  | 0 => .none
  | j + 1 => match X[j]? with
    | some p => p.2
    | none => .none
theorem run_mut {i n : Nat} {G : List D → Rs D} {A : List D → Rs (List D)} {ρ ds es r : List D} {j : Int} {g : List D → Rs Fl} {R : List D → Prop} {Q E : D → Prop} (h : A ρ = .ok ds) (hl : ds.length = n) (ho : okMs ds = true) (hg : G ds = .ok (.list (.list (.int j :: es) :: r))) (he : es.length ≤ 10000) (k : FL.Run g (ρ.set i (.list (.list (.int j :: es) :: r))) R Q E) : FL.Run (fSeq (fMut i n G A) g) ρ R Q E :=
  run_nx (by unfold fMut; rw [h]; simp only; rw [if_pos ⟨hl, ho⟩, hg]; simp only; rw [if_pos he]) k
theorem fit_LLN {n : Nat} {xs : LS} : Fit (n + 2) (LLN xs) := fit_list fun d hd => by
  obtain ⟨x, _, rfl⟩ := List.mem_map.mp hd
  exact fit_LN
theorem dLtA_key {a b : D} {n m : Nat} (ha : KeyD n a) (hb : KeyD m b) (hn : n ≤ 20) (hm : m ≤ 20) (h : kLt a b) : dLtA a b = .ok (.bool true) := by
  unfold dLtA
  rw [if_pos ⟨by rw [ha.alike hb]; obtain ⟨ks, rfl⟩ := ha.lst; rfl, ha.fit.sh (by omega), hb.fit.sh (by omega)⟩]
  rw [show PySem.W.dataLt a b = true from h]
theorem ev_vAnd {F G : List D → Rs D} {ρ : List D} {d : D} (h1 : F ρ = .ok (.bool true)) (h2 : G ρ = .ok d) : vAnd F G ρ = .ok d := by
  unfold vAnd
  rw [h1]; exact h2
theorem pure_law (ns : List Int) (hn : ns.length ≤ 63) (_ : ∀ z ∈ ns, Builtin.Int.intBits z ≤ 1048576) : F_law [scrD ns] = .ok (.bool true) := by
  unfold F_law
  refine run_def_eq ?_
  unfold B_law
  obtain ⟨d, e, l, c, R, hl⟩ := r_tree (cs := cutL ns (some 1) none) (c := ns.getD (Int.toNat 0) 0)
  obtain ⟨L, RL⟩ := R.withL
  have hc1 := R.lo.1
  have et : ∀ ρ : List D, ρ[0]? = some (scrD ns) → fCall 2 F__law_tree (aCons (fSl dSl (fVar 0) (fP (fC (.int 1))) fNoP) (aCons (fCall 2 F__law_cell_at (aCons (fVar 0) (aCons (fC (.int 0)) aNil))) aNil)) ρ = .ok d := fun ρ h0 => by
    refine ev_call (ds := [.list ((cutL ns (some 1) none).map .int), .int (ns.getD (Int.toNat 0) 0)]) (ev_cons ?_ (ev_cons (ev_call (ds := [scrD ns, .int 0]) (ev_cons (fVar_at h0) (ev_cons rfl ev_nil)) rfl (r_cell (by decide))) ev_nil)) rfl e
    unfold fSl
    rw [fVar_at h0]
    exact dSl_scr
  have ec : F__law_count 8 [d] = .ok (.int c) := (r_counts R hl 8 (by decide)).2
  refine run_set (et _ rfl) rfl ?_
  rcases Int.lt_or_le 32 c with h32 | h32
  · refine run_set (ev_call (ds := [.tuple [.list [], d]]) rfl rfl (r_askedM (r_many R (by decide) hl h32))) rfl (run_set (d := .int c) (ev_call (ds := [d]) (ev_cons rfl ev_nil) rfl ec) rfl ?_)
    refine run_ifT (ev_T (ev_B rfl rfl (show Rs.ok (PyData.bool (decide (c > 32))) = _ by rw [decide_eq_true h32]))) (run_ret (ev_vAnd rfl (ev_B rfl rfl dEq_int)) rfl)
  · have hch := r_choices RL (by decide) hl h32
    obtain ⟨X, eX, hA, hX⟩ := RL.keys hl (by decide) 0
    have hlen : (X.length : Int) = c := by
      have := RL.len 0
      rw [eX, List.length_map] at this
      exact this
    have hrise : ∀ p ∈ X, p.1 ≠ [] ∧ Ri 0 l p.1 := fun p hp => RL.rise 0 p.1 (by rw [eX]; exact List.mem_map.mpr ⟨p, hp, rfl⟩)
    have eL : LLN (L 0) = .list (X.map fun p => LN p.1) := by
      unfold LLN; rw [eX, List.map_map]; rfl
    have eask : fCall 1 F__law_asked (aCons (fTup (aCons (fLst aNil) (aCons (fVar 1) aNil))) aNil) [scrD ns, d, .none, .none, .none, .none, .none, .none, .none] = .ok (LLN (L 0)) :=
      ev_call (ds := [.tuple [.list [], d]]) rfl rfl (r_askedK hch)
    refine run_set eask rfl (run_set (d := .int c) (ev_call (ds := [d]) (ev_cons rfl ev_nil) rfl ec) rfl ?_)
    refine run_guard (ev_T (ev_B rfl rfl (show Rs.ok (PyData.bool (decide (c > 32))) = _ by rw [decide_eq_false (by omega)]))) ?_
    refine run_guard (ev_orF (ev_notT (ev_T (b := true) rfl)) (ev_T (ev_B (d1 := .int (X.length : Nat)) (d2 := .int c) (ev_CB (ev_cons (d := LLN (L 0)) rfl ev_nil) (by rw [eL, dLen_l, List.length_map])) rfl (dNe_int.trans (by rw [decide_eq_true hlen]; rfl))))) ?_
    refine run_set (d := .none) rfl rfl ?_
    rw [eL]
    have hsz : F__law_size 8 [d] = .ok (.int (l : Nat)) := r_size R hl 8 (by decide)
    refine run_in (i := 5) (fun p : PC => LN p.1) X (fun j ρ => ∃ x5 x6, ρ = [scrD ns, d, .list (X.map fun p => LN p.1), .int c, bef X j, x5, x6, .none, .none]) (it_l rfl) ⟨_, _, rfl⟩ ?_ ?_
    · rintro j hj ρ ⟨x5, x6, rfl⟩
      have hp := List.getElem_mem hj
      obtain ⟨hr1, hr2⟩ := hrise _ hp
      have hk := hX _ hp 8 (by decide)
      have hK := hA.k _ hp
      unfold B_law_1
      refine run_guard (ev_notT (ev_T (b := true) (ev_call (ds := [LN X[j].1, .int (l : Nat)]) (ev_cons rfl (ev_cons (ev_call (ds := [d]) (ev_cons rfl ev_nil) rfl hsz) ev_nil)) rfl (r_rising hr2 hr1 hl)))) ?_
      refine run_set (d := X[j].2) (ev_call (ds := [d, .int ((0 : Nat) : Int), LN X[j].1]) rfl rfl hk) rfl ?_
      refine run_guard (ev_orF (ev_T (b := false) (ev_B (d1 := X[j].2) (d2 := .none) rfl rfl (by obtain ⟨ks, ek⟩ := hK.lst; rw [ek]; rfl))) ?_) ?_
      · cases j with
        | zero => exact ev_andF (ev_T (b := false) (ev_B rfl rfl rfl))
        | succ j =>
          have hj' : j < X.length := by omega
          have eb : bef X (j + 1) = X[j].2 := by
            show (match X[j]? with | some p => p.2 | none => .none) = _
            rw [List.getElem?_eq_getElem hj']
          have hK' := hA.k _ (List.getElem_mem hj')
          obtain ⟨ks, ek⟩ := hK'.lst
          have hlt := List.pairwise_iff_getElem.mp hA.up j (j + 1) hj' hj (by omega)
          rw [eb]
          refine ev_andT (ev_T (b := true) (ev_B (d1 := X[j].2) (d2 := .none) rfl rfl (by rw [ek]; rfl))) (ev_notT (ev_T (ev_B (d1 := X[j].2) (d2 := X[j + 1].2) rfl rfl (dLtA_key hK' hK (by decide) (by decide) hlt))))
      · refine run_last (run_set (d := X[j].2) rfl rfl (run_nil ⟨LN X[j].1, X[j].2, ?_⟩))
        have eb : bef X (j + 1) = X[j].2 := by
          show (match X[j]? with | some p => p.2 | none => .none) = _
          rw [List.getElem?_eq_getElem hj]
        rw [eb]; rfl
    · rintro ρ ⟨x5, x6, rfl⟩
      refine run_set (d := .list (X.map fun p => LN p.1)) (comp_all (i := 5) (fun p : PC => LN p.1) (fun p : PC => LN p.1) X (it_l rfl) (by omega) fun p hp => ev_CB (ev_cons rfl ev_nil) dList_l) rfl ?_
      have hfit : Fit 4 (.list (X.map fun p => LN p.1)) := eL ▸ fit_LLN
      obtain ⟨p, Y, eX2⟩ : ∃ p Y, X = p :: Y := by
        cases X with
        | nil => simp at hlen; omega
        | cons p Y => exact ⟨p, Y, rfl⟩
      obtain ⟨a, as, ea⟩ : ∃ a as, p.1 = a :: as := by
        have := (hrise p (by rw [eX2]; exact List.mem_cons_self)).1
        cases h : p.1 with
        | nil => exact absurd h this
        | cons a as => exact ⟨a, as, rfl⟩
      have hpl := cat_len (hrise p (by rw [eX2]; exact List.mem_cons_self)).2
      rw [ea, List.length_cons] at hpl
      have hcut : F_choices [.tuple [.list [], d]] = .ok (.list (.list (.int (a : Nat) :: as.map fun i : Nat => .int (i : Int)) :: Y.map fun p => LN p.1)) := by
        rw [hch, eL, eX2]
        show Rs.ok (PyData.list (LN p.1 :: _)) = _
        rw [ea]; rfl
      refine run_mut (ds := [.tuple [.list [], d]]) rfl rfl (okMs_all (all_cons (okM_t (okMs_all (all_cons okM_n (all_cons R.okM.1 all_nil)))) all_nil)) hcut (by rw [List.length_map]; omega) ?_
      exact run_ret1 (ev_vAnd (ev_B (d1 := .list (X.map fun p => LN p.1)) (d2 := .list (X.map fun p => LN p.1)) rfl rfl (dEq_self hfit)) (ev_B rfl (et _ rfl) (dEq_self R.fit))) rfl
end Ck42

end
section
namespace Ck42
open PySem L2 FL PySem.W PyProof.Rows
abbrev top (i : Nat) : Stmt := PySem.Challenge.pw_court_k42_whole_choices_listed.main.body.getD i (.Pass ⟨0, 0, 0, 0⟩)
abbrev s_is_leaf : Stmt := top 1
abbrev s_rules_of : Stmt := top 2
abbrev s_count_rule : Stmt := top 8
abbrev s_count_choices : Stmt := top 9
abbrev s_takes : Stmt := top 10
abbrev s_together : Stmt := top 11
abbrev s_leaf_count : Stmt := top 12
abbrev s_listed : Stmt := top 13
abbrev s_choices : Stmt := top 14
abbrev s__law_cell_at : Stmt := top 16
abbrev s__law_mixed : Stmt := top 17
abbrev s__law_leaf : Stmt := top 18
abbrev s__law_group : Stmt := top 19
abbrev s__law_tree : Stmt := top 20
abbrev s__law_count : Stmt := top 21
abbrev s__law_size : Stmt := top 22
abbrev s__law_key : Stmt := top 23
abbrev s__law_rising : Stmt := top 24
abbrev s__law_asked : Stmt := top 25
abbrev s_law : Stmt := top 26
abbrev s_TooMany_init : Stmt := inClass (top 5) 0
theorem sc_TooMany_init : FnScope ["self", "most"] ["self", "most"] (defScope s_TooMany_init) := ⟨rfl, rfl, rfl, by decide +kernel, rfl, by decide +kernel, by decide +kernel⟩
section
variable {P : Program} {w : World} {K : Tx} {base : Heap}
structure Gls (K : Tx) : Prop where
  MOST_CHOICES : ∃ t, K.mg "MOST_CHOICES" = some (.int 32 t)
abbrev N_is_leaf : List Str := ["rule"]
theorem sc_is_leaf : FnScope ["rule"] ["rule"] (defScope s_is_leaf) := ⟨rfl, rfl, rfl, by decide +kernel, rfl, by decide +kernel, by decide +kernel⟩
theorem ok_is_leaf {f : Addr} {fd : FuncData} (F : Fun K.K "is_leaf" "is_leaf" s_is_leaf f fd) (hm : K.mg "is_leaf" = some (.ref f)) (hb : Binds K.K fd ["rule"] []) (bn : Bn K.mg)   : Cal shR P w K base "is_leaf" 1 1 F_is_leaf := by
  have nd := sc_is_leaf.nd
  refine cal_of (M' := [.no]) (k := 0) F sc_is_leaf hm hb fun cdv A outer s H E hr tk hp => ?_
  show DSs shP _ _ [.sh] _ _ B_is_leaf
  unfold B_is_leaf
  exact (dss_one (ds_of1 (d1_ret (de_or (de_cmp (opd_eq hr.units) (DE.bo (de_ix (DE.bo (de_var 0)) (DE.bo de_int))) (DE.bo de_str) (nomark _)) (de_one (de_cmp (opd_eq hr.units) (DE.bo (de_ix (DE.bo (de_var 0)) (DE.bo de_int))) (DE.bo de_str) (nomark _)))))))

abbrev N_rules_of : List Str := ["group"]
theorem sc_rules_of : FnScope ["group"] ["group"] (defScope s_rules_of) := ⟨rfl, rfl, rfl, by decide +kernel, rfl, by decide +kernel, by decide +kernel⟩
theorem ok_rules_of {f : Addr} {fd : FuncData} (F : Fun K.K "rules_of" "rules_of" s_rules_of f fd) (hm : K.mg "rules_of" = some (.ref f)) (hb : Binds K.K fd ["group"] []) (bn : Bn K.mg)   : Cal shR P w K base "rules_of" 1 1 F_rules_of := by
  have nd := sc_rules_of.nd
  refine cal_of (M' := [.no]) (k := 0) F sc_rules_of hm hb fun cdv A outer s H E hr tk hp => ?_
  show DSs shP _ _ [.sh] _ _ B_rules_of
  unfold B_rules_of
  exact (dss_one (ds_of1 (d1_ret (de_ix (DE.bo (de_var 0)) (DE.bo (de_neg (DE.bo de_int)))))))

abbrev N_count_rule : List Str := ["rule", "counts", "found", "count", "many", "ways", "one", "k"]
theorem sc_count_rule : FnScope ["rule", "counts", "found", "count", "many", "ways", "one", "k"] ["rule"] (defScope s_count_rule) := ⟨rfl, rfl, rfl, by decide +kernel, rfl, by decide +kernel, by decide +kernel⟩
theorem ok_count_rule {f : Addr} {fd : FuncData} (F : Fun K.K "count_rule" "count_rule" s_count_rule f fd) (hm : K.mg "count_rule" = some (.ref f)) (hb : Binds K.K fd ["rule"] []) (bn : Bn K.mg)  (C_is_leaf : Cal shR P w K base "is_leaf" 1 1 F_is_leaf) (C_rules_of : Cal shR P w K base "rules_of" 1 1 F_rules_of) : ∀ n : Nat, Cal shR P w K base "count_rule" (2 + n) 1 (F_count_rule n)
  | 0 => cal_no (k := 1) (n := 1) F sc_count_rule hm hb
  | n + 1 => by
    have C_count_rule := ok_count_rule F hm hb bn C_is_leaf C_rules_of n
    have nd := sc_count_rule.nd
    refine cal_of (M' := [.no, .no, .no, .no, .no, .no, .no, .no]) (k := 2 + n) F sc_count_rule hm hb fun cdv A outer s H E hr tk hp => ?_
    show DSs shP _ _ [.sh, .no, .no, .no, .no, .no, .no, .no] _ _ (B_count_rule (F_count_rule n))
    unfold B_count_rule B_count_rule_1 B_count_rule_2
    exact (dss_cons (M1 := [.sh, .no, .no, .no, .no, .no, .no, .no]) (ds_if (M' := [.sh, .no, .no, .no, .no, .no, .no, .no]) (dt_val (ej_call tk later_sh (C_is_leaf.mono (by omega)) hr (by rfl) (da_cons (de_var 0) da_nil))) (dss_one (ds_of1 (d1_ret de_int))) dss_nil)
    (dss_cons (M1 := [.sh, .sh, .no, .no, .no, .no, .no, .no]) (ds_sharedEnd 1 (ds_of1 (d1_setLc 1 rfl nd (sw_true rfl rfl rfl (by decide +kernel)) (DI.cmp (di_list (ej_call tk later_sh (C_rules_of.mono (by omega)) hr (by rfl) (da_cons (de_var 0) da_nil)))) ([("one", 6)] : List (Str × Nat)) (blkOk_at (N' := N_count_rule) (sc' := defScope s_count_rule) rfl rfl (by decide +kernel)) (fun _ => (dg_name 6 nd)) (fun _ => dts_nil) (fun _ => (ej_callN later_sh (C_count_rule.mono (by omega)) hr (by rfl) (da_cons (de_var 6) da_nil))))) (by rfl))
    (dss_cons (M1 := [.sh, .sh, .no, .no, .no, .no, .no, .no]) (ds_if (M' := [.sh, .sh, .no, .no, .no, .no, .no, .no]) (dt_cmp (opd_eq hr.units) (DE.bo (de_ix (DE.bo (de_var 0)) (DE.bo de_int))) (DE.bo de_str) (nomark _)) (dss_cons (M1 := [.sh, .sh, .sh, .no, .no, .no, .no, .no]) (ds_of1 (d1_set 2 nd de_int))
    (dss_cons (M1 := [.sh, .sh, .sh, .no, .no, .no, .no, .no]) (ds_for hp rfl (di_list (de_var 1)) (dg_name 3 nd) (dss_wk (M1 := [.sh, .sh, .sh, .sh, .no, .no, .no, .no]) (dss_one (ds_of1 (d1_set 2 nd (de_bin opd_mul (DE.bo (de_var 2)) (DE.bo (de_var 3)))))) (by rfl)))
    (dss_one (ds_of1 (d1_ret (de_var 2)))))) dss_nil)
    (dss_cons (M1 := [.sh, .sh, .no, .no, .sh, .no, .no, .no]) (ds_of1 (d1_set 4 nd (de_ix (DE.bo (de_var 0)) (DE.bo de_int))))
    (dss_cons (M1 := [.sh, .sh, .no, .no, .sh, .sh, .no, .no]) (ds_of1 (d1_set 5 nd (de_bin opd_add (DE.bo (DO.sh (do_lst (da_cons de_int da_nil)))) (DE.bo (de_bin opd_mul (DE.bo (DO.sh (do_lst (da_cons de_int da_nil)))) (DE.bo (de_var 4)))))))
    (dss_cons (M1 := [.sh, .sh, .no, .no, .sh, .sh, .no, .no]) (ds_for hp rfl (di_list (de_var 1)) (dg_name 3 nd) (dss_wk (M1 := [.sh, .sh, .no, .sh, .sh, .sh, .no, .no]) (dss_one (ds_of1 (d1_set 5 nd (de_bin opd_add (DE.bo (DO.sh (do_lst (da_cons de_int da_nil)))) (DE.bo (DO.sh (do_comp rfl nd (DI.cmp (di_range2 (by rfl) bn.range_ de_int (de_bin opd_add (DE.bo (de_var 4)) (DE.bo de_int)))) ([("k", 7)] : List (Str × Nat)) (blkOk_at (N' := N_count_rule) (sc' := defScope s_count_rule) rfl rfl (by decide +kernel)) (fun _ => (dg_name 7 nd)) (fun _ => dts_nil) (fun _ => (de_bin opd_add (DE.bo (de_ix (DE.bo (de_var 5)) (DE.bo (de_var 7)))) (DE.bo (de_bin opd_mul (DE.bo (de_ix (DE.bo (de_var 5)) (DE.bo (de_bin opd_sub (DE.bo (de_var 7)) (DE.bo de_int))))) (DE.bo (de_var 3))))))))))))) (by rfl)))
    (dss_one (ds_of1 (d1_ret (de_ix (DE.bo (de_var 5)) (DE.bo (de_var 4))))))))))))

abbrev N_count_choices : List Str := ["course"]
theorem sc_count_choices : FnScope ["course"] ["course"] (defScope s_count_choices) := ⟨rfl, rfl, rfl, by decide +kernel, rfl, by decide +kernel, by decide +kernel⟩
theorem ok_count_choices {f : Addr} {fd : FuncData} (F : Fun K.K "count_choices" "count_choices" s_count_choices f fd) (hm : K.mg "count_choices" = some (.ref f)) (hb : Binds K.K fd ["course"] []) (bn : Bn K.mg)  (C_count_rule : Cal shR P w K base "count_rule" 10 1 (F_count_rule 8)) : Cal shR P w K base "count_choices" 11 1 F_count_choices := by
  have nd := sc_count_choices.nd
  refine cal_of (M' := [.no]) (k := 10) F sc_count_choices hm hb fun cdv A outer s H E hr tk hp => ?_
  show DSs shP _ _ [.sh] _ _ B_count_choices
  unfold B_count_choices
  exact (dss_one (ds_of1 (d1_ret (ej_call tk later_sh (C_count_rule.mono (by omega)) hr (by rfl) (da_cons (de_ix (DE.bo (de_var 0)) (DE.bo de_int)) da_nil)))))

abbrev N_takes : List Str := ["many", "first", "count", "found", "at", "rest"]
theorem sc_takes : FnScope ["many", "first", "count", "found", "at", "rest"] ["many", "first", "count"] (defScope s_takes) := ⟨rfl, rfl, rfl, by decide +kernel, rfl, by decide +kernel, by decide +kernel⟩
theorem ok_takes {f : Addr} {fd : FuncData} (F : Fun K.K "takes" "takes" s_takes f fd) (hm : K.mg "takes" = some (.ref f)) (hb : Binds K.K fd ["many", "first", "count"] []) (bn : Bn K.mg)   : ∀ n : Nat, Cal shR P w K base "takes" (1 + n) 3 (F_takes n)
  | 0 => cal_no (k := 0) (n := 3) F sc_takes hm hb
  | n + 1 => by
    have C_takes := ok_takes F hm hb bn n
    have nd := sc_takes.nd
    refine cal_of (M' := [.no, .no, .no, .no, .no, .no]) (k := 1 + n) F sc_takes hm hb fun cdv A outer s H E hr tk hp => ?_
    show DSs shP _ _ [.sh, .sh, .sh, .no, .no, .no] _ _ (B_takes (F_takes n))
    unfold B_takes B_takes_1 B_takes_2
    exact (dss_cons (M1 := [.sh, .sh, .sh, .no, .no, .no]) (ds_if (M' := [.sh, .sh, .sh, .no, .no, .no]) (dt_cmp (opd_eq hr.units) (DE.bo (de_var 0)) (DE.bo de_int) (nomark _)) (dss_one (ds_of1 (d1_ret (DO.sh (do_lst (da_cons (DO.sh (do_lst da_nil)) da_nil)))))) dss_nil)
    (dss_cons (M1 := [.sh, .sh, .sh, .ow, .no, .no]) (ds_of1 (d1_setO 3 nd (do_lst da_nil)))
    (dss_cons (M1 := [.sh, .sh, .sh, .ow, .no, .no]) (ds_for hp rfl (di_range2 (by rfl) bn.range_ (de_var 1) (de_bin opd_add (DE.bo (de_bin opd_sub (DE.bo (de_var 2)) (DE.bo (de_var 0)))) (DE.bo de_int))) (dg_name 4 nd) (dss_wk (M1 := [.sh, .sh, .sh, .ow, .sh, .no]) (dss_one (ds_for hp rfl (di_list (ej_call tk later_sh (C_takes.mono (by omega)) hr (by rfl) (da_cons (de_bin opd_sub (DE.bo (de_var 0)) (DE.bo de_int)) (da_cons (de_bin opd_add (DE.bo (de_var 4)) (DE.bo de_int)) (da_cons (de_var 2) da_nil))))) (dg_name 5 nd) (dss_wk (M1 := [.sh, .sh, .sh, .ow, .sh, .sh]) (dss_one (ds_of1 (d1_app 3 (de_bin opd_add (DE.bo (DO.sh (do_lst (da_cons (de_var 4) da_nil)))) (DE.bo (de_var 5)))))) (by rfl)))) (by rfl)))
    (dss_pub 3 (dss_one (ds_of1 (d1_ret (de_var 3)))) (by rfl)))))

abbrev N_together : List Str := ["some", "found", "choices_of", "longer", "ahead", "one"]
theorem sc_together : FnScope ["some", "found", "choices_of", "longer", "ahead", "one"] ["some"] (defScope s_together) := ⟨rfl, rfl, rfl, by decide +kernel, rfl, by decide +kernel, by decide +kernel⟩
theorem ok_together {f : Addr} {fd : FuncData} (F : Fun K.K "together" "together" s_together f fd) (hm : K.mg "together" = some (.ref f)) (hb : Binds K.K fd ["some"] []) (bn : Bn K.mg)   : Cal shR P w K base "together" 1 1 F_together := by
  have nd := sc_together.nd
  refine cal_of (M' := [.no, .no, .no, .no, .no, .no]) (k := 0) F sc_together hm hb fun cdv A outer s H E hr tk hp => ?_
  show DSs shP _ _ [.sh, .no, .no, .no, .no, .no] _ _ B_together
  unfold B_together B_together_1 B_together_2 B_together_3
  exact (dss_cons (M1 := [.sh, .sh, .no, .no, .no, .no]) (ds_of1 (d1_set 1 nd (DO.sh (do_lst (da_cons (DO.sh (do_lst da_nil)) da_nil)))))
    (dss_cons (M1 := [.sh, .sh, .no, .no, .no, .no]) (ds_for hp rfl (di_list (de_var 0)) (dg_name 2 nd) (dss_wk (M1 := [.sh, .sh, .sh, .sh, .no, .no]) (dss_cons (M1 := [.sh, .sh, .sh, .ow, .no, .no]) (ds_of1 (d1_setO 3 nd (do_lst da_nil)))
    (dss_cons (M1 := [.sh, .sh, .sh, .ow, .no, .no]) (ds_for hp rfl (di_list (de_var 1)) (dg_name 4 nd) (dss_wk (M1 := [.sh, .sh, .sh, .ow, .sh, .no]) (dss_one (ds_for hp rfl (di_list (de_var 2)) (dg_name 5 nd) (dss_wk (M1 := [.sh, .sh, .sh, .ow, .sh, .sh]) (dss_one (ds_of1 (d1_app 3 (de_bin opd_add (DE.bo (de_var 4)) (DE.bo (de_var 5)))))) (by rfl)))) (by rfl)))
    (dss_pub 3 (dss_one (ds_of1 (d1_set 1 nd (de_var 3)))) (by rfl)))) (by rfl)))
    (dss_one (ds_of1 (d1_ret (de_var 1))))))

abbrev N_leaf_count : List Str := ["rule", "one"]
theorem sc_leaf_count : FnScope ["rule", "one"] ["rule"] (defScope s_leaf_count) := ⟨rfl, rfl, rfl, by decide +kernel, rfl, by decide +kernel, by decide +kernel⟩
theorem ok_leaf_count {f : Addr} {fd : FuncData} (F : Fun K.K "leaf_count" "leaf_count" s_leaf_count f fd) (hm : K.mg "leaf_count" = some (.ref f)) (hb : Binds K.K fd ["rule"] []) (bn : Bn K.mg)  (C_is_leaf : Cal shR P w K base "is_leaf" 1 1 F_is_leaf) (C_rules_of : Cal shR P w K base "rules_of" 1 1 F_rules_of) : ∀ n : Nat, Cal shR P w K base "leaf_count" (2 + n) 1 (F_leaf_count n)
  | 0 => cal_no (k := 1) (n := 1) F sc_leaf_count hm hb
  | n + 1 => by
    have C_leaf_count := ok_leaf_count F hm hb bn C_is_leaf C_rules_of n
    have nd := sc_leaf_count.nd
    refine cal_of (M' := [.no, .no]) (k := 2 + n) F sc_leaf_count hm hb fun cdv A outer s H E hr tk hp => ?_
    show DSs shP _ _ [.sh, .no] _ _ (B_leaf_count (F_leaf_count n))
    unfold B_leaf_count
    exact (dss_cons (M1 := [.sh, .no]) (ds_if (M' := [.sh, .no]) (dt_val (ej_call tk later_sh (C_is_leaf.mono (by omega)) hr (by rfl) (da_cons (de_var 0) da_nil))) (dss_one (ds_of1 (d1_ret de_int))) dss_nil)
    (dss_one (ds_of1 (d1_ret (dj_callB later_sh (cj_sum rfl) (by rfl) bn.sum_ (by decide +kernel) (dab_cons (DE.bo (DO.sh (do_comp rfl nd (DI.cmp (di_list (ej_call tk later_sh (C_rules_of.mono (by omega)) hr (by rfl) (da_cons (de_var 0) da_nil)))) ([("one", 1)] : List (Str × Nat)) (blkOk_at (N' := N_leaf_count) (sc' := defScope s_leaf_count) rfl rfl (by decide +kernel)) (fun _ => (dg_name 1 nd)) (fun _ => dts_nil) (fun _ => (ej_callN later_sh (C_leaf_count.mono (by omega)) hr (by rfl) (da_cons (de_var 1) da_nil)))))) dab_nil))))))

abbrev N_listed : List Str := ["rule", "first", "inner", "number", "one", "found", "places", "at"]
theorem sc_listed : FnScope ["rule", "first", "inner", "number", "one", "found", "places", "at"] ["rule", "first"] (defScope s_listed) := ⟨rfl, rfl, rfl, by decide +kernel, rfl, by decide +kernel, by decide +kernel⟩
theorem ok_listed {f : Addr} {fd : FuncData} (F : Fun K.K "listed" "listed" s_listed f fd) (hm : K.mg "listed" = some (.ref f)) (hb : Binds K.K fd ["rule", "first"] []) (bn : Bn K.mg)  (C_is_leaf : Cal shR P w K base "is_leaf" 1 1 F_is_leaf) (C_rules_of : Cal shR P w K base "rules_of" 1 1 F_rules_of) (C_leaf_count : Cal shR P w K base "leaf_count" 10 1 (F_leaf_count 8)) (C_together : Cal shR P w K base "together" 1 1 F_together) (C_takes : Cal shR P w K base "takes" 19 3 (F_takes 18)) : ∀ n : Nat, Cal shR P w K base "listed" (20 + n) 2 (F_listed n)
  | 0 => cal_no (k := 19) (n := 2) F sc_listed hm hb
  | n + 1 => by
    have C_listed := ok_listed F hm hb bn C_is_leaf C_rules_of C_leaf_count C_together C_takes n
    have nd := sc_listed.nd
    refine cal_of (M' := [.no, .no, .no, .no, .no, .no, .no, .no]) (k := 20 + n) F sc_listed hm hb fun cdv A outer s H E hr tk hp => ?_
    show DSs shP _ _ [.sh, .sh, .no, .no, .no, .no, .no, .no] _ _ (B_listed (F_listed n))
    unfold B_listed B_listed_1 B_listed_2
    exact (dss_cons (M1 := [.sh, .sh, .no, .no, .no, .no, .no, .no]) (ds_if (M' := [.sh, .sh, .no, .no, .no, .no, .no, .no]) (dt_val (ej_call tk later_sh (C_is_leaf.mono (by omega)) hr (by rfl) (da_cons (de_var 0) da_nil))) (dss_one (ds_of1 (d1_ret (DO.sh (do_lst (da_cons (DO.sh (do_lst (da_cons (de_var 1) da_nil))) da_nil)))))) dss_nil)
    (dss_cons (M1 := [.sh, .sh, .ow, .no, .no, .no, .no, .no]) (ds_of1 (d1_setO 2 nd (do_lst da_nil)))
    (dss_cons (M1 := [.sh, .sh, .ow, .sh, .no, .no, .no, .no]) (ds_of1 (d1_set 3 nd (de_var 1)))
    (dss_cons (M1 := [.sh, .sh, .ow, .sh, .no, .no, .no, .no]) (ds_for hp rfl (di_list (ej_call tk later_sh (C_rules_of.mono (by omega)) hr (by rfl) (da_cons (de_var 0) da_nil))) (dg_name 4 nd) (dss_wk (M1 := [.sh, .sh, .ow, .sh, .sh, .no, .no, .no]) (dss_cons (M1 := [.sh, .sh, .ow, .sh, .sh, .no, .no, .no]) (ds_of1 (d1_app 2 (ej_call tk later_sh (C_listed.mono (by omega)) hr (by rfl) (da_cons (de_var 4) (da_cons (de_var 3) da_nil)))))
    (dss_one (ds_of1 (d1_set 3 nd (de_bin opd_add (DE.bo (de_var 3)) (DE.bo (ej_call tk later_sh (C_leaf_count.mono (by omega)) hr (by rfl) (da_cons (de_var 4) da_nil)))))))) (by rfl)))
    (dss_cons (M1 := [.sh, .sh, .ow, .sh, .no, .no, .no, .no]) (ds_if (M' := [.sh, .sh, .ow, .sh, .no, .no, .no, .no]) (dt_cmp (opd_eq hr.units) (DE.bo (de_ix (DE.bo (de_var 0)) (DE.bo de_int))) (DE.bo de_str) (nomark _)) (dss_pub 2 (dss_one (ds_of1 (d1_ret (ej_call tk later_sh (C_together.mono (by omega)) hr (by rfl) (da_cons (de_var 2) da_nil))))) (by rfl)) dss_nil)
    (dss_cons (M1 := [.sh, .sh, .ow, .sh, .no, .ow, .no, .no]) (ds_of1 (d1_setO 5 nd (do_lst da_nil)))
    (dss_cons (M1 := [.sh, .sh, .ow, .sh, .no, .ow, .no, .no]) (ds_for hp rfl (di_list (ej_call tk later_sh (C_takes.mono (by omega)) hr (by rfl) (da_cons (de_ix (DE.bo (de_var 0)) (DE.bo de_int)) (da_cons de_int (da_cons (dj_callB later_sh cj_len (by rfl) bn.len_ (by decide +kernel) (dab_cons (db_own 2) dab_nil)) da_nil))))) (dg_name 6 nd) (dss_wk (M1 := [.sh, .sh, .ow, .sh, .no, .ow, .sh, .no]) (dss_one (ds_of1 (d1_ext 5 (ej_call tk later_sh (C_together.mono (by omega)) hr (by rfl) (da_cons (DO.sh (do_comp rfl nd (DI.cmp (di_list (de_var 6))) ([("at", 7)] : List (Str × Nat)) (blkOk_at (N' := N_listed) (sc' := defScope s_listed) rfl rfl (by decide +kernel)) (fun _ => (dg_name 7 nd)) (fun _ => dts_nil) (fun _ => (de_ix (db_own 2) (DE.bo (de_var 7)))))) da_nil))))) (by rfl)))
    (dss_pub 5 (dss_one (ds_of1 (d1_ret (de_var 5)))) (by rfl)))))))))

abbrev N_choices : List Str := ["course"]
theorem sc_choices : FnScope ["course"] ["course"] (defScope s_choices) := ⟨rfl, rfl, rfl, by decide +kernel, rfl, by decide +kernel, by decide +kernel⟩
theorem ok_choices {f : Addr} {fd : FuncData} (F : Fun K.K "choices" "choices" s_choices f fd) (hm : K.mg "choices" = some (.ref f)) (hb : Binds K.K fd ["course"] []) (bn : Bn K.mg) (gl : Gls K)  (xT : ExcT K) (xm : XIn K ["CourtError", "TooMany"]) (xk : XMs P w K base [("TooMany", "most")]) (C_count_choices : Cal shR P w K base "count_choices" 11 1 F_count_choices) (C_listed : Cal shR P w K base "listed" 28 2 (F_listed 8)) : Cal shR P w K base "choices" 29 1 F_choices := by
  have nd := sc_choices.nd
  refine cal_of (M' := [.no]) (k := 28) F sc_choices hm hb fun cdv A outer s H E hr tk hp => ?_
  show DSs shP _ _ [.sh] _ _ B_choices
  unfold B_choices
  exact (dss_cons (M1 := [.sh]) (ds_if (M' := [.sh]) (dt_cmp opd_gt (DE.bo (ej_call tk later_sh (C_count_choices.mono (by omega)) hr (by rfl) (da_cons (de_var 0) da_nil))) (DE.bo (de_globI (by rfl) gl.MOST_CHOICES)) (nomark _)) (dss_one (ds_of1 (d1_raise (N := [.sh]) rfl tk (xk ("TooMany", "most") (by decide)) (hr.mono (by decide)) (by rfl) (da_cons (de_globI (by rfl) gl.MOST_CHOICES) da_nil)))) dss_nil)
    (dss_one (ds_of1 (d1_ret (ej_call tk later_sh (C_listed.mono (by omega)) hr (by rfl) (da_cons (de_ix (DE.bo (de_var 0)) (DE.bo de_int)) (da_cons de_int da_nil)))))))

abbrev N__law_cell_at : List Str := ["_law_script", "_law_k"]
theorem sc__law_cell_at : FnScope ["_law_script", "_law_k"] ["_law_script", "_law_k"] (defScope s__law_cell_at) := ⟨rfl, rfl, rfl, by decide +kernel, rfl, by decide +kernel, by decide +kernel⟩
theorem ok__law_cell_at {f : Addr} {fd : FuncData} (F : Fun K.K "_law_cell_at" "_law_cell_at" s__law_cell_at f fd) (hm : K.mg "_law_cell_at" = some (.ref f)) (hb : Binds K.K fd ["_law_script", "_law_k"] []) (bn : Bn K.mg)   : Cal shR P w K base "_law_cell_at" 1 2 F__law_cell_at := by
  have nd := sc__law_cell_at.nd
  refine cal_of (M' := [.no, .no]) (k := 0) F sc__law_cell_at hm hb fun cdv A outer s H E hr tk hp => ?_
  show DSs shP _ _ [.sh, .sh] _ _ B__law_cell_at
  unfold B__law_cell_at
  exact (dss_cons (M1 := [.sh, .sh]) (ds_if (M' := [.sh, .sh]) (dt_cmp (opd_lt hr.units0) (DE.bo (de_var 1)) (DE.bo (dj_callB later_sh cj_len (by rfl) bn.len_ (by decide +kernel) (dab_cons (DE.bo (de_var 0)) dab_nil))) (nomark _)) (dss_one (ds_of1 (d1_ret (de_ix (DE.bo (de_var 0)) (DE.bo (de_var 1)))))) dss_nil)
    (dss_one (ds_of1 (d1_ret de_int))))

abbrev N__law_mixed : List Str := ["_law_cell", "_law_k", "_law_some"]
theorem sc__law_mixed : FnScope ["_law_cell", "_law_k", "_law_some"] ["_law_cell", "_law_k"] (defScope s__law_mixed) := ⟨rfl, rfl, rfl, by decide +kernel, rfl, by decide +kernel, by decide +kernel⟩
theorem ok__law_mixed {f : Addr} {fd : FuncData} (F : Fun K.K "_law_mixed" "_law_mixed" s__law_mixed f fd) (hm : K.mg "_law_mixed" = some (.ref f)) (hb : Binds K.K fd ["_law_cell", "_law_k"] []) (bn : Bn K.mg)   : Cal shR P w K base "_law_mixed" 1 2 F__law_mixed := by
  have nd := sc__law_mixed.nd
  refine cal_of (M' := [.no, .no, .no]) (k := 0) F sc__law_mixed hm hb fun cdv A outer s H E hr tk hp => ?_
  show DSs shP _ _ [.sh, .sh, .no] _ _ B__law_mixed
  unfold B__law_mixed
  exact (dss_cons (M1 := [.sh, .sh, .sh]) (ds_of1 (d1_set 2 nd (de_bin opd_mod (DE.bo (de_var 0)) (DE.bo de_int))))
    (dss_one (ds_of1 (d1_ret (de_bin opd_mod (DE.bo (de_bin opd_mul (DE.bo (de_bin opd_mul (DE.bo (de_bin opd_add (DE.bo (de_bin opd_add (DE.bo (de_var 2)) (DE.bo (de_bin opd_mul (DE.bo de_int) (DE.bo (de_var 1)))))) (DE.bo de_int))) (DE.bo de_int))) (DE.bo (de_bin opd_add (DE.bo (de_bin opd_add (DE.bo (de_var 2)) (DE.bo (de_bin opd_mul (DE.bo de_int) (DE.bo (de_var 1)))))) (DE.bo de_int))))) (DE.bo de_int))))))

abbrev N__law_leaf : List Str := ["_law_cell", "_law_want", "_law_word", "_law_words"]
theorem sc__law_leaf : FnScope ["_law_cell", "_law_want", "_law_word", "_law_words"] ["_law_cell"] (defScope s__law_leaf) := ⟨rfl, rfl, rfl, by decide +kernel, rfl, by decide +kernel, by decide +kernel⟩
theorem ok__law_leaf {f : Addr} {fd : FuncData} (F : Fun K.K "_law_leaf" "_law_leaf" s__law_leaf f fd) (hm : K.mg "_law_leaf" = some (.ref f)) (hb : Binds K.K fd ["_law_cell"] []) (bn : Bn K.mg)  (C__law_mixed : Cal shR P w K base "_law_mixed" 1 2 F__law_mixed) : Cal shR P w K base "_law_leaf" 2 1 F__law_leaf := by
  have nd := sc__law_leaf.nd
  refine cal_of (M' := [.no, .no, .no, .no]) (k := 1) F sc__law_leaf hm hb fun cdv A outer s H E hr tk hp => ?_
  show DSs shP _ _ [.sh, .no, .no, .no] _ _ B__law_leaf
  unfold B__law_leaf
  exact (dss_cons (M1 := [.sh, .sh, .no, .no]) (ds_of1 (d1_set 1 nd (de_bin opd_mod (DE.bo (ej_call tk later_sh (C__law_mixed.mono (by omega)) hr (by rfl) (da_cons (de_var 0) (da_cons de_int da_nil)))) (DE.bo de_int))))
    (dss_cons (M1 := [.sh, .sh, .sh, .no]) (ds_of1 (d1_set 2 nd (de_bin opd_add (DE.bo (de_ix (DE.bo de_str) (DE.bo (de_bin opd_mod (DE.bo (de_bin opd_div (DE.bo (de_var 0)) (DE.bo de_int))) (DE.bo de_int))))) (DE.bo (de_ix (DE.bo de_str) (DE.bo (de_bin opd_mod (DE.bo (de_bin opd_div (DE.bo (de_var 0)) (DE.bo de_int))) (DE.bo de_int))))))))
    (dss_cons (M1 := [.sh, .sh, .sh, .no]) (ds_if (M' := [.sh, .sh, .sh, .no]) (dt_cmp (opd_eq hr.units) (DE.bo (de_bin opd_mod (DE.bo (de_bin opd_div (DE.bo (ej_call tk later_sh (C__law_mixed.mono (by omega)) hr (by rfl) (da_cons (de_var 0) (da_cons de_int da_nil)))) (DE.bo de_int))) (DE.bo de_int))) (DE.bo de_int) (nomark _)) (dss_one (ds_of1 (d1_ret (de_tup (da_cons de_str (da_cons (de_var 1) (da_cons (de_slice (DE.bo (DO.sh (do_lst (da_cons (de_var 2) (da_cons (de_bin opd_add (DE.bo (de_var 2)) (DE.bo de_str)) da_nil))))) dp_none (dp_some (DE.bo (de_bin opd_add (DE.bo de_int) (DE.bo (de_bin opd_mod (DE.bo (de_bin opd_div (DE.bo (de_var 0)) (DE.bo de_int))) (DE.bo de_int))))))) (da_cons (de_bin opd_mod (DE.bo (de_var 0)) (DE.bo (de_bin opd_pow (DE.bo de_int) (DE.bo de_int)))) (da_cons (de_bin opd_add (DE.bo de_int) (DE.bo (de_bin opd_mod (DE.bo (de_bin opd_div (DE.bo (de_var 0)) (DE.bo de_int))) (DE.bo de_int)))) da_nil))))))))) dss_nil)
    (dss_cons (M1 := [.sh, .sh, .sh, .sh]) (ds_of1 (d1_set 3 nd (de_slice (DE.bo (DO.sh (do_lst (da_cons (de_var 2) (da_cons (de_bin opd_add (DE.bo (de_var 2)) (DE.bo de_str)) da_nil))))) dp_none (dp_some (DE.bo (de_bin opd_mod (DE.bo (de_bin opd_div (DE.bo (de_var 0)) (DE.bo de_int))) (DE.bo de_int)))))))
    (dss_one (ds_of1 (d1_ret (de_tup (da_cons de_str (da_cons (de_var 1) (da_cons (de_var 3) (da_cons (de_bin opd_mod (DE.bo (de_bin opd_div (DE.bo (de_var 0)) (DE.bo de_int))) (DE.bo (de_bin opd_pow (DE.bo de_int) (DE.bo de_int)))) (da_cons (de_bin opd_mod (DE.bo (de_var 0)) (DE.bo (de_bin opd_pow (DE.bo de_int) (DE.bo de_int)))) (da_cons (de_bin opd_add (DE.bo de_int) (DE.bo (de_bin opd_mod (DE.bo (de_bin opd_div (DE.bo (de_var 0)) (DE.bo de_int))) (DE.bo de_int)))) da_nil))))))))))))))

abbrev N__law_group : List Str := ["_law_cell", "_law_rules"]
theorem sc__law_group : FnScope ["_law_cell", "_law_rules"] ["_law_cell", "_law_rules"] (defScope s__law_group) := ⟨rfl, rfl, rfl, by decide +kernel, rfl, by decide +kernel, by decide +kernel⟩
theorem ok__law_group {f : Addr} {fd : FuncData} (F : Fun K.K "_law_group" "_law_group" s__law_group f fd) (hm : K.mg "_law_group" = some (.ref f)) (hb : Binds K.K fd ["_law_cell", "_law_rules"] []) (bn : Bn K.mg)   : Cal shR P w K base "_law_group" 1 2 F__law_group := by
  have nd := sc__law_group.nd
  refine cal_of (M' := [.no, .no]) (k := 0) F sc__law_group hm hb fun cdv A outer s H E hr tk hp => ?_
  show DSs shP _ _ [.sh, .sh] _ _ B__law_group
  unfold B__law_group
  exact (dss_cons (M1 := [.sh, .sh]) (ds_if (M' := [.sh, .sh]) (dt_cmp (opd_eq hr.units) (DE.bo (de_bin opd_mod (DE.bo (de_bin opd_div (DE.bo (de_var 0)) (DE.bo de_int))) (DE.bo de_int))) (DE.bo de_int) (nomark _)) (dss_one (ds_of1 (d1_ret (de_tup (da_cons de_str (da_cons (de_var 1) da_nil)))))) dss_nil)
    (dss_one (ds_of1 (d1_ret (de_tup (da_cons de_str (da_cons (de_bin opd_add (DE.bo de_int) (DE.bo (de_bin opd_mod (DE.bo (de_bin opd_div (DE.bo (de_var 0)) (DE.bo de_int))) (DE.bo (dj_callB later_sh cj_len (by rfl) bn.len_ (by decide +kernel) (dab_cons (DE.bo (de_var 1)) dab_nil)))))) (da_cons (de_var 1) da_nil))))))))

abbrev N__law_tree : List Str := ["_law_cells", "_law_last", "_law_stack", "_law_leaves", "_law_cell", "_law_many", "_law_deep", "_law_rules", "_law_one"]
theorem sc__law_tree : FnScope ["_law_cells", "_law_last", "_law_stack", "_law_leaves", "_law_cell", "_law_many", "_law_deep", "_law_rules", "_law_one"] ["_law_cells", "_law_last"] (defScope s__law_tree) := ⟨rfl, rfl, rfl, by decide +kernel, rfl, by decide +kernel, by decide +kernel⟩
theorem ok__law_tree {f : Addr} {fd : FuncData} (F : Fun K.K "_law_tree" "_law_tree" s__law_tree f fd) (hm : K.mg "_law_tree" = some (.ref f)) (hb : Binds K.K fd ["_law_cells", "_law_last"] []) (bn : Bn K.mg)  (C__law_mixed : Cal shR P w K base "_law_mixed" 1 2 F__law_mixed) (C__law_group : Cal shR P w K base "_law_group" 1 2 F__law_group) (C__law_leaf : Cal shR P w K base "_law_leaf" 2 1 F__law_leaf) : Cal shR P w K base "_law_tree" 3 2 F__law_tree := by
  have nd := sc__law_tree.nd
  refine cal_of (M' := [.no, .no, .no, .no, .no, .no, .no, .no, .no]) (k := 2) F sc__law_tree hm hb fun cdv A outer s H E hr tk hp => ?_
  show DSs shP _ _ [.sh, .sh, .no, .no, .no, .no, .no, .no, .no] _ _ B__law_tree
  unfold B__law_tree B__law_tree_1
  exact (dss_cons (M1 := [.sh, .sh, .ow, .no, .no, .no, .no, .no, .no]) (ds_of1 (d1_setO 2 nd (do_lst da_nil)))
    (dss_cons (M1 := [.sh, .sh, .ow, .sh, .no, .no, .no, .no, .no]) (ds_of1 (d1_set 3 nd de_int))
    (dss_cons (M1 := [.sh, .sh, .ow, .sh, .no, .no, .no, .no, .no]) (ds_for hp rfl (di_list (de_var 0)) (dg_name 4 nd) (dss_wk (M1 := [.sh, .sh, .ow, .sh, .sh, .sh, .sh, .no, .no]) (dss_cons (M1 := [.sh, .sh, .ow, .sh, .sh, .sh, .no, .no, .no]) (ds_of1 (d1_set 5 nd (de_bin opd_add (DE.bo de_int) (DE.bo (de_bin opd_mod (DE.bo (de_bin opd_div (DE.bo (ej_call tk later_sh (C__law_mixed.mono (by omega)) hr (by rfl) (da_cons (de_var 4) (da_cons de_int da_nil)))) (DE.bo de_int))) (DE.bo de_int))))))
    (dss_cons (M1 := [.sh, .sh, .ow, .sh, .sh, .sh, .sh, .no, .no]) (ds_of1 (d1_set 6 nd de_int))
    (dss_cons (M1 := [.sh, .sh, .ow, .sh, .sh, .sh, .sh, .no, .no]) (ds_if (M' := [.sh, .sh, .ow, .sh, .sh, .sh, .sh, .no, .no]) (dt_w (dw_and (dt_cmp opd_ge (DE.bo (de_bin opd_mod (DE.bo (de_var 4)) (DE.bo de_int))) (DE.bo de_int) (nomark _)) (dw_and1 (dt_cmp opd_le (DE.bo (de_var 5)) (DE.bo (dj_callB later_sh cj_len (by rfl) bn.len_ (by decide +kernel) (dab_cons (db_own 2) dab_nil))) (nomark _))))) (dss_one (ds_of1 (d1_set 6 nd (de_bin opd_add (DE.bo de_int) (DE.bo (dj_callB later_sh (cj_max rfl) (by rfl) bn.max_ (by decide +kernel) (dab_cons (DE.bo (DO.sh (do_comp rfl nd (DI.cmp (di_list (de_slice (db_own 2) (dp_some (DE.bo (de_bin opd_sub (DE.bo (dj_callB later_sh cj_len (by rfl) bn.len_ (by decide +kernel) (dab_cons (db_own 2) dab_nil))) (DE.bo (de_var 5))))) dp_none))) ([("_law_one", 8)] : List (Str × Nat)) (blkOk_at (N' := N__law_tree) (sc' := defScope s__law_tree) rfl rfl (by decide +kernel)) (fun _ => (dg_name 8 nd)) (fun _ => dts_nil) (fun _ => (de_ix (DE.bo (de_var 8)) (DE.bo de_int)))))) dab_nil))))))) dss_nil)
    (dss_one (ds_if (M' := [.sh, .sh, .ow, .sh, .sh, .sh, .sh, .no, .no]) (dt_cmp (opd_lt hr.units0) (DE.bo (de_var 6)) (DE.bo de_int) (nomark _)) (dss_wk (M1 := [.sh, .sh, .ow, .sh, .sh, .sh, .sh, .sh, .no]) (dss_cons (M1 := [.sh, .sh, .ow, .sh, .sh, .sh, .sh, .sh, .no]) (ds_sharedEnd 7 (ds_of1 (d1_setLc 7 rfl nd (sw_true rfl rfl rfl (by decide +kernel)) (DI.cmp (di_list (de_slice (db_own 2) (dp_some (DE.bo (de_bin opd_sub (DE.bo (dj_callB later_sh cj_len (by rfl) bn.len_ (by decide +kernel) (dab_cons (db_own 2) dab_nil))) (DE.bo (de_var 5))))) dp_none))) ([("_law_one", 8)] : List (Str × Nat)) (blkOk_at (N' := N__law_tree) (sc' := defScope s__law_tree) rfl rfl (by decide +kernel)) (fun _ => (dg_name 8 nd)) (fun _ => dts_nil) (fun _ => (de_ix (DE.bo (de_var 8)) (DE.bo de_int))))) (by rfl))
    (dss_one (ds_of1 (d1_setO 2 nd (do_cat (DE.bo (de_slice (db_own 2) dp_none (dp_some (DE.bo (de_bin opd_sub (DE.bo (dj_callB later_sh cj_len (by rfl) bn.len_ (by decide +kernel) (dab_cons (db_own 2) dab_nil))) (DE.bo (de_var 5))))))) (DE.bo (DO.sh (do_lst (da_cons (de_tup (da_cons (ej_call tk later_sh (C__law_group.mono (by omega)) hr (by rfl) (da_cons (de_var 4) (da_cons (de_var 7) da_nil))) (da_cons (de_var 6) da_nil))) da_nil))))))))) (by rfl)) (dss_one (ds_if (M' := [.sh, .sh, .ow, .sh, .sh, .sh, .sh, .no, .no]) (dt_cmp (opd_lt hr.units0) (DE.bo (de_var 3)) (DE.bo de_int) (nomark _)) (dss_cons (M1 := [.sh, .sh, .ow, .sh, .sh, .sh, .sh, .no, .no]) (ds_of1 (d1_set 3 nd (de_bin opd_add (DE.bo (de_var 3)) (DE.bo de_int))))
    (dss_one (ds_of1 (d1_app 2 (de_tup (da_cons (ej_call tk later_sh (C__law_leaf.mono (by omega)) hr (by rfl) (da_cons (de_var 4) da_nil)) (da_cons de_int da_nil))))))) dss_nil))))))) (by rfl)))
    (dss_cons (M1 := [.sh, .sh, .ow, .sh, .no, .no, .no, .no, .no]) (ds_if (M' := [.sh, .sh, .ow, .sh, .no, .no, .no, .no, .no]) (dt_cmp (opd_eq hr.units) (db_own 2) (DE.bo (DO.sh (do_lst da_nil))) (nomark _)) (dss_one (ds_of1 (d1_app 2 (de_tup (da_cons (ej_call tk later_sh (C__law_leaf.mono (by omega)) hr (by rfl) (da_cons (de_var 1) da_nil)) (da_cons de_int da_nil)))))) dss_nil)
    (dss_cons (M1 := [.sh, .sh, .ow, .sh, .no, .no, .no, .no, .no]) (ds_if (M' := [.sh, .sh, .ow, .sh, .no, .no, .no, .no, .no]) (dt_cmp (opd_eq hr.units) (DE.bo (dj_callB later_sh cj_len (by rfl) bn.len_ (by decide +kernel) (dab_cons (db_own 2) dab_nil))) (DE.bo de_int) (nomark _)) (dss_one (ds_of1 (d1_ret (de_ix (DE.bo (de_ix (db_own 2) (DE.bo de_int))) (DE.bo de_int))))) dss_nil)
    (dss_pub 2 (dss_one (ds_of1 (d1_ret (ej_call tk later_sh (C__law_group.mono (by omega)) hr (by rfl) (da_cons (de_var 1) (da_cons (DO.sh (do_comp rfl nd (DI.cmp (di_list (de_var 2))) ([("_law_one", 8)] : List (Str × Nat)) (blkOk_at (N' := N__law_tree) (sc' := defScope s__law_tree) rfl rfl (by decide +kernel)) (fun _ => (dg_name 8 nd)) (fun _ => dts_nil) (fun _ => (de_ix (DE.bo (de_var 8)) (DE.bo de_int))))) da_nil)))))) (by rfl)))))))

abbrev N__law_count : List Str := ["_law_rule", "_law_sums", "_law_one", "_law_here", "_law_k"]
theorem sc__law_count : FnScope ["_law_rule", "_law_sums", "_law_one", "_law_here", "_law_k"] ["_law_rule"] (defScope s__law_count) := ⟨rfl, rfl, rfl, by decide +kernel, rfl, by decide +kernel, by decide +kernel⟩
theorem ok__law_count {f : Addr} {fd : FuncData} (F : Fun K.K "_law_count" "_law_count" s__law_count f fd) (hm : K.mg "_law_count" = some (.ref f)) (hb : Binds K.K fd ["_law_rule"] []) (bn : Bn K.mg)   : ∀ n : Nat, Cal shR P w K base "_law_count" (1 + n) 1 (F__law_count n)
  | 0 => cal_no (k := 0) (n := 1) F sc__law_count hm hb
  | n + 1 => by
    have C__law_count := ok__law_count F hm hb bn n
    have nd := sc__law_count.nd
    refine cal_of (M' := [.no, .no, .no, .no, .no]) (k := 1 + n) F sc__law_count hm hb fun cdv A outer s H E hr tk hp => ?_
    show DSs shP _ _ [.sh, .no, .no, .no, .no] _ _ (B__law_count (F__law_count n))
    unfold B__law_count B__law_count_1
    exact (dss_cons (M1 := [.sh, .no, .no, .no, .no]) (ds_if (M' := [.sh, .no, .no, .no, .no]) (dt_w (dw_or (dt_cmp (opd_eq hr.units) (DE.bo (de_ix (DE.bo (de_var 0)) (DE.bo de_int))) (DE.bo de_str) (nomark _)) (dw_or1 (dt_cmp (opd_eq hr.units) (DE.bo (de_ix (DE.bo (de_var 0)) (DE.bo de_int))) (DE.bo de_str) (nomark _))))) (dss_one (ds_of1 (d1_ret de_int))) dss_nil)
    (dss_cons (M1 := [.sh, .sh, .no, .no, .no]) (ds_of1 (d1_set 1 nd (DO.sh (do_lst (da_cons de_int da_nil)))))
    (dss_cons (M1 := [.sh, .sh, .no, .no, .no]) (ds_for hp rfl (di_list (de_ix (DE.bo (de_var 0)) (DE.bo (de_neg (DE.bo de_int))))) (dg_name 2 nd) (dss_wk (M1 := [.sh, .sh, .sh, .sh, .no]) (dss_cons (M1 := [.sh, .sh, .sh, .sh, .no]) (ds_of1 (d1_set 3 nd (ej_call tk later_sh (C__law_count.mono (by omega)) hr (by rfl) (da_cons (de_var 2) da_nil))))
    (dss_one (ds_of1 (d1_set 1 nd (de_bin opd_add (DE.bo (de_bin opd_add (DE.bo (DO.sh (do_lst (da_cons de_int da_nil)))) (DE.bo (DO.sh (do_comp rfl nd (DI.cmp (di_range2 (by rfl) bn.range_ de_int (dj_callB later_sh cj_len (by rfl) bn.len_ (by decide +kernel) (dab_cons (DE.bo (de_var 1)) dab_nil)))) ([("_law_k", 4)] : List (Str × Nat)) (blkOk_at (N' := N__law_count) (sc' := defScope s__law_count) rfl rfl (by decide +kernel)) (fun _ => (dg_name 4 nd)) (fun _ => dts_nil) (fun _ => (de_bin opd_add (DE.bo (de_ix (DE.bo (de_var 1)) (DE.bo (de_var 4)))) (DE.bo (de_bin opd_mul (DE.bo (de_ix (DE.bo (de_var 1)) (DE.bo (de_bin opd_sub (DE.bo (de_var 4)) (DE.bo de_int))))) (DE.bo (de_var 3))))))))))) (DE.bo (DO.sh (do_lst (da_cons (de_bin opd_mul (DE.bo (de_ix (DE.bo (de_var 1)) (DE.bo (de_neg (DE.bo de_int))))) (DE.bo (de_var 3))) da_nil))))))))) (by rfl)))
    (dss_cons (M1 := [.sh, .sh, .no, .no, .no]) (ds_if (M' := [.sh, .sh, .no, .no, .no]) (dt_cmp (opd_eq hr.units) (DE.bo (de_ix (DE.bo (de_var 0)) (DE.bo de_int))) (DE.bo de_str) (nomark _)) (dss_one (ds_of1 (d1_ret (de_ix (DE.bo (de_var 1)) (DE.bo (de_neg (DE.bo de_int))))))) dss_nil)
    (dss_one (ds_of1 (d1_ret (de_ix (DE.bo (de_var 1)) (DE.bo (de_ix (DE.bo (de_var 0)) (DE.bo de_int)))))))))))

abbrev N__law_size : List Str := ["_law_rule", "_law_one"]
theorem sc__law_size : FnScope ["_law_rule", "_law_one"] ["_law_rule"] (defScope s__law_size) := ⟨rfl, rfl, rfl, by decide +kernel, rfl, by decide +kernel, by decide +kernel⟩
theorem ok__law_size {f : Addr} {fd : FuncData} (F : Fun K.K "_law_size" "_law_size" s__law_size f fd) (hm : K.mg "_law_size" = some (.ref f)) (hb : Binds K.K fd ["_law_rule"] []) (bn : Bn K.mg)   : ∀ n : Nat, Cal shR P w K base "_law_size" (1 + n) 1 (F__law_size n)
  | 0 => cal_no (k := 0) (n := 1) F sc__law_size hm hb
  | n + 1 => by
    have C__law_size := ok__law_size F hm hb bn n
    have nd := sc__law_size.nd
    refine cal_of (M' := [.no, .no]) (k := 1 + n) F sc__law_size hm hb fun cdv A outer s H E hr tk hp => ?_
    show DSs shP _ _ [.sh, .no] _ _ (B__law_size (F__law_size n))
    unfold B__law_size
    exact (dss_cons (M1 := [.sh, .no]) (ds_if (M' := [.sh, .no]) (dt_w (dw_or (dt_cmp (opd_eq hr.units) (DE.bo (de_ix (DE.bo (de_var 0)) (DE.bo de_int))) (DE.bo de_str) (nomark _)) (dw_or1 (dt_cmp (opd_eq hr.units) (DE.bo (de_ix (DE.bo (de_var 0)) (DE.bo de_int))) (DE.bo de_str) (nomark _))))) (dss_one (ds_of1 (d1_ret de_int))) dss_nil)
    (dss_one (ds_of1 (d1_ret (dj_callB later_sh (cj_sum rfl) (by rfl) bn.sum_ (by decide +kernel) (dab_cons (DE.bo (DO.sh (do_comp rfl nd (DI.cmp (di_list (de_ix (DE.bo (de_var 0)) (DE.bo (de_neg (DE.bo de_int)))))) ([("_law_one", 1)] : List (Str × Nat)) (blkOk_at (N' := N__law_size) (sc' := defScope s__law_size) rfl rfl (by decide +kernel)) (fun _ => (dg_name 1 nd)) (fun _ => dts_nil) (fun _ => (ej_callN later_sh (C__law_size.mono (by omega)) hr (by rfl) (da_cons (de_var 1) da_nil)))))) dab_nil))))))

abbrev N__law_key : List Str := ["_law_rule", "_law_first", "_law_chosen", "_law_key_here", "_law_places", "_law_number", "_law_k", "_law_one", "_law_size_here", "_law_mine", "_law_inner", "_law_leaf_here"]
theorem sc__law_key : FnScope ["_law_rule", "_law_first", "_law_chosen", "_law_key_here", "_law_places", "_law_number", "_law_k", "_law_one", "_law_size_here", "_law_mine", "_law_inner", "_law_leaf_here"] ["_law_rule", "_law_first", "_law_chosen"] (defScope s__law_key) := ⟨rfl, rfl, rfl, by decide +kernel, rfl, by decide +kernel, by decide +kernel⟩
theorem ok__law_key {f : Addr} {fd : FuncData} (F : Fun K.K "_law_key" "_law_key" s__law_key f fd) (hm : K.mg "_law_key" = some (.ref f)) (hb : Binds K.K fd ["_law_rule", "_law_first", "_law_chosen"] []) (bn : Bn K.mg)  (C__law_size : Cal shR P w K base "_law_size" 9 1 (F__law_size 8)) : ∀ n : Nat, Cal shR P w K base "_law_key" (10 + n) 3 (F__law_key n)
  | 0 => cal_no (k := 9) (n := 3) F sc__law_key hm hb
  | n + 1 => by
    have C__law_key := ok__law_key F hm hb bn C__law_size n
    have nd := sc__law_key.nd
    refine cal_of (M' := [.no, .no, .no, .no, .no, .no, .no, .no, .no, .no, .no, .no]) (k := 10 + n) F sc__law_key hm hb fun cdv A outer s H E hr tk hp => ?_
    show DSs shP _ _ [.sh, .sh, .sh, .no, .no, .no, .no, .no, .no, .no, .no, .no] _ _ (B__law_key (F__law_key n))
    unfold B__law_key B__law_key_1
    exact (dss_cons (M1 := [.sh, .sh, .sh, .no, .no, .no, .no, .no, .no, .no, .no, .no]) (ds_if (M' := [.sh, .sh, .sh, .no, .no, .no, .no, .no, .no, .no, .no, .no]) (dt_w (dw_or (dt_cmp (opd_eq hr.units) (DE.bo (de_ix (DE.bo (de_var 0)) (DE.bo de_int))) (DE.bo de_str) (nomark _)) (dw_or1 (dt_cmp (opd_eq hr.units) (DE.bo (de_ix (DE.bo (de_var 0)) (DE.bo de_int))) (DE.bo de_str) (nomark _))))) (dss_one (ds_of1 (d1_ret (DO.sh (do_lst da_nil))))) dss_nil)
    (dss_cons (M1 := [.sh, .sh, .sh, .ow, .no, .no, .no, .no, .no, .no, .no, .no]) (ds_of1 (d1_setO 3 nd (do_lst da_nil)))
    (dss_cons (M1 := [.sh, .sh, .sh, .ow, .ow, .no, .no, .no, .no, .no, .no, .no]) (ds_of1 (d1_setO 4 nd (do_lst da_nil)))
    (dss_cons (M1 := [.sh, .sh, .sh, .ow, .ow, .sh, .no, .no, .no, .no, .no, .no]) (ds_of1 (d1_set 5 nd (de_var 1)))
    (dss_cons (M1 := [.sh, .sh, .sh, .ow, .ow, .sh, .no, .no, .no, .no, .no, .no]) (ds_for hp rfl (di_range1 (by rfl) bn.range_ (dj_callB later_sh cj_len (by rfl) bn.len_ (by decide +kernel) (dab_cons (DE.bo (de_ix (DE.bo (de_var 0)) (DE.bo (de_neg (DE.bo de_int))))) dab_nil))) (dg_name 6 nd) (dss_wk (M1 := [.sh, .sh, .sh, .ow, .ow, .sh, .sh, .sh, .sh, .sh, .no, .no]) (dss_cons (M1 := [.sh, .sh, .sh, .ow, .ow, .sh, .sh, .sh, .no, .no, .no, .no]) (ds_of1 (d1_set 7 nd (de_ix (DE.bo (de_ix (DE.bo (de_var 0)) (DE.bo (de_neg (DE.bo de_int))))) (DE.bo (de_var 6)))))
    (dss_cons (M1 := [.sh, .sh, .sh, .ow, .ow, .sh, .sh, .sh, .sh, .no, .no, .no]) (ds_of1 (d1_set 8 nd (ej_call tk later_sh (C__law_size.mono (by omega)) hr (by rfl) (da_cons (de_var 7) da_nil))))
    (dss_cons (M1 := [.sh, .sh, .sh, .ow, .ow, .sh, .sh, .sh, .sh, .sh, .no, .no]) (ds_sharedEnd 9 (ds_of1 (d1_setLc 9 rfl nd (sw_true rfl rfl rfl (by decide +kernel)) (DI.cmp (di_list (de_var 2))) ([("_law_leaf_here", 11)] : List (Str × Nat)) (blkOk_at (N' := N__law_key) (sc' := defScope s__law_key) rfl rfl (by decide +kernel)) (fun _ => (dg_name 11 nd)) (fun _ => dts_one (dt_chain opd_le (opd_lt hr.units0) (DE.bo (de_var 5)) (DE.bo (de_var 11)) (DE.bo (de_bin opd_add (DE.bo (de_var 5)) (DE.bo (de_var 8)))))) (fun _ => (de_var 11)))) (by rfl))
    (dss_cons (M1 := [.sh, .sh, .sh, .ow, .ow, .sh, .sh, .sh, .sh, .sh, .no, .no]) (ds_if (M' := [.sh, .sh, .sh, .ow, .ow, .sh, .sh, .sh, .sh, .sh, .no, .no]) (dt_w (dw_and (dt_cmp (opd_eq hr.units) (DE.bo (de_ix (DE.bo (de_var 0)) (DE.bo de_int))) (DE.bo de_str) (nomark _)) (dw_and1 (dt_cmp (opd_eq hr.units) (DE.bo (de_var 9)) (DE.bo (DO.sh (do_lst da_nil))) (nomark _))))) (dss_one (ds_of1 (d1_ret de_non))) dss_nil)
    (dss_cons (M1 := [.sh, .sh, .sh, .ow, .ow, .sh, .sh, .sh, .sh, .sh, .no, .no]) (ds_if (M' := [.sh, .sh, .sh, .ow, .ow, .sh, .sh, .sh, .sh, .sh, .no, .no]) (dt_cmp (opd_ne hr.units) (DE.bo (de_var 9)) (DE.bo (DO.sh (do_lst da_nil))) (nomark _)) (dss_wk (M1 := [.sh, .sh, .sh, .ow, .ow, .sh, .sh, .sh, .sh, .sh, .sh, .no]) (dss_cons (M1 := [.sh, .sh, .sh, .ow, .ow, .sh, .sh, .sh, .sh, .sh, .sh, .no]) (ds_of1 (d1_set 10 nd (ej_call tk later_sh (C__law_key.mono (by omega)) hr (by rfl) (da_cons (de_var 7) (da_cons (de_var 5) (da_cons (de_var 9) da_nil))))))
    (dss_cons (M1 := [.sh, .sh, .sh, .ow, .ow, .sh, .sh, .sh, .sh, .sh, .sh, .no]) (ds_if (M' := [.sh, .sh, .sh, .ow, .ow, .sh, .sh, .sh, .sh, .sh, .sh, .no]) (dt_cmp opd_is (DE.bo (de_var 10)) (DE.bo de_non) (nomark _)) (dss_one (ds_of1 (d1_ret de_non))) dss_nil)
    (dss_cons (M1 := [.sh, .sh, .sh, .ow, .ow, .sh, .sh, .sh, .sh, .sh, .sh, .no]) (ds_of1 (d1_app 4 (de_var 6)))
    (dss_one (ds_of1 (d1_app 3 (de_var 10))))))) (by rfl)) dss_nil)
    (dss_one (ds_of1 (d1_set 5 nd (de_bin opd_add (DE.bo (de_var 5)) (DE.bo (de_var 8))))))))))) (by rfl)))
    (dss_cons (M1 := [.sh, .sh, .sh, .ow, .ow, .sh, .no, .no, .no, .no, .no, .no]) (ds_if (M' := [.sh, .sh, .sh, .ow, .ow, .sh, .no, .no, .no, .no, .no, .no]) (dt_w (dw_and (dt_cmp (opd_eq hr.units) (DE.bo (de_ix (DE.bo (de_var 0)) (DE.bo de_int))) (DE.bo de_str) (nomark _)) (dw_and1 (dt_cmp (opd_ne hr.units) (DE.bo (dj_callB later_sh cj_len (by rfl) bn.len_ (by decide +kernel) (dab_cons (db_own 4) dab_nil))) (DE.bo (de_ix (DE.bo (de_var 0)) (DE.bo de_int))) (nomark _))))) (dss_one (ds_of1 (d1_ret de_non))) dss_nil)
    (dss_pub 4 (dss_one (ds_of1 (d1_ret (de_bin opd_add (DE.bo (DO.sh (do_lst (da_cons (de_var 4) da_nil)))) (db_own 3))))) (by rfl))))))))

abbrev N__law_rising : List Str := ["_law_choice", "_law_size_here", "_law_k"]
theorem sc__law_rising : FnScope ["_law_choice", "_law_size_here", "_law_k"] ["_law_choice", "_law_size_here"] (defScope s__law_rising) := ⟨rfl, rfl, rfl, by decide +kernel, rfl, by decide +kernel, by decide +kernel⟩
theorem ok__law_rising {f : Addr} {fd : FuncData} (F : Fun K.K "_law_rising" "_law_rising" s__law_rising f fd) (hm : K.mg "_law_rising" = some (.ref f)) (hb : Binds K.K fd ["_law_choice", "_law_size_here"] []) (bn : Bn K.mg)   : Cal shR P w K base "_law_rising" 1 2 F__law_rising := by
  have nd := sc__law_rising.nd
  refine cal_of (M' := [.no, .no, .no]) (k := 0) F sc__law_rising hm hb fun cdv A outer s H E hr tk hp => ?_
  show DSs shP _ _ [.sh, .sh, .no] _ _ B__law_rising
  unfold B__law_rising B__law_rising_1
  exact (dss_cons (M1 := [.sh, .sh, .no]) (ds_if (M' := [.sh, .sh, .no]) (dt_not (dt_val (de_isa (by rfl) bn.isinstance_ (by rfl) bn.list_ (DE.bo (de_var 0)) (by decide +kernel)))) (dss_one (ds_of1 (d1_ret de_bl))) dss_nil)
    (dss_cons (M1 := [.sh, .sh, .no]) (ds_for hp rfl (di_range1 (by rfl) bn.range_ (dj_callB later_sh cj_len (by rfl) bn.len_ (by decide +kernel) (dab_cons (DE.bo (de_var 0)) dab_nil))) (dg_name 2 nd) (dss_wk (M1 := [.sh, .sh, .sh]) (dss_cons (M1 := [.sh, .sh, .sh]) (ds_if (M' := [.sh, .sh, .sh]) (dt_w (dw_or (dt_not (dt_val (de_isa (by rfl) bn.isinstance_ (by rfl) bn.int_ (DE.bo (de_ix (DE.bo (de_var 0)) (DE.bo (de_var 2)))) (by decide +kernel)))) (dw_or (dt_val (de_isa (by rfl) bn.isinstance_ (by rfl) bn.bool_ (DE.bo (de_ix (DE.bo (de_var 0)) (DE.bo (de_var 2)))) (by decide +kernel))) (dw_or1 (dt_not (dt_chain opd_le (opd_lt hr.units0) (DE.bo de_int) (DE.bo (de_ix (DE.bo (de_var 0)) (DE.bo (de_var 2)))) (DE.bo (de_var 1)))))))) (dss_one (ds_of1 (d1_ret de_bl))) dss_nil)
    (dss_one (ds_if (M' := [.sh, .sh, .sh]) (dt_w (dw_and (dt_cmp opd_gt (DE.bo (de_var 2)) (DE.bo de_int) (nomark _)) (dw_and1 (dt_cmp opd_ge (DE.bo (de_ix (DE.bo (de_var 0)) (DE.bo (de_bin opd_sub (DE.bo (de_var 2)) (DE.bo de_int))))) (DE.bo (de_ix (DE.bo (de_var 0)) (DE.bo (de_var 2)))) (nomark _))))) (dss_one (ds_of1 (d1_ret de_bl))) dss_nil))) (by rfl)))
    (dss_one (ds_of1 (d1_ret (de_cmp (opd_ne hr.units) (DE.bo (de_var 0)) (DE.bo (DO.sh (do_lst da_nil))) (nomark _)))))))

abbrev N__law_asked : List Str := ["_law_course", "_law_found", "e"]
theorem sc__law_asked : FnScope ["_law_course", "_law_found", "e"] ["_law_course"] (defScope s__law_asked) := ⟨rfl, rfl, rfl, by decide +kernel, rfl, by decide +kernel, by decide +kernel⟩
theorem ok__law_asked {f : Addr} {fd : FuncData} (F : Fun K.K "_law_asked" "_law_asked" s__law_asked f fd) (hm : K.mg "_law_asked" = some (.ref f)) (hb : Binds K.K fd ["_law_course"] []) (bn : Bn K.mg)  (xT : ExcT K) (xm : XIn K ["CourtError", "TooMany"]) (xk : XMs P w K base [("TooMany", "most")]) (C_choices : Cal shR P w K base "choices" 29 1 F_choices) : Cal shR P w K base "_law_asked" 30 1 F__law_asked := by
  have nd := sc__law_asked.nd
  refine cal_of (M' := [.no, .no, .no]) (k := 29) F sc__law_asked hm hb fun cdv A outer s H E hr tk hp => ?_
  show DSs shP _ _ [.sh, .no, .no] _ _ B__law_asked
  unfold B__law_asked
  exact (dss_cons (M1 := [.sh, .sh, .no]) (ds_of1 (d1_set 1 nd de_non))
    (dss_cons (M1 := [.sh, .sh, .no]) (ds_of1 (d1_try rfl rfl tk (fun Wb pn xe tk hp => (d1_set 1 nd (ej_call tk later_sh (C_choices.mono (by omega)) hr (by rfl) (da_cons (de_var 0) da_nil)))) (HdF.nmd nd rfl rfl (by decide) (M2 := [.sh, .sh, .sh]) rfl (tf_1 xT (by rfl) (by decide) (xm "TooMany" (by decide)) (by decide)) (fun a pn => (dss_one (ds_of1 (d1_set 1 nd (de_xf xT (de_var 2)))))) HdF.nil)))
    (dss_one (ds_of1 (d1_ret (de_var 1))))))

abbrev N_law : List Str := ["_law_script", "_law_rule", "_law_found", "_law_many", "_law_before", "_law_choice", "_law_key_here", "_law_kept", "_law_again"]
theorem sc_law : FnScope ["_law_script", "_law_rule", "_law_found", "_law_many", "_law_before", "_law_choice", "_law_key_here", "_law_kept", "_law_again"] ["_law_script"] (defScope s_law) := ⟨rfl, rfl, rfl, by decide +kernel, rfl, by decide +kernel, by decide +kernel⟩
theorem ok_law {f : Addr} {fd : FuncData} (F : Fun K.K "law" "law" s_law f fd) (bn : Bn K.mg)  (C__law_cell_at : Cal shR P w K base "_law_cell_at" 1 2 F__law_cell_at) (C__law_tree : Cal shR P w K base "_law_tree" 3 2 F__law_tree) (C__law_asked : Cal shR P w K base "_law_asked" 30 1 F__law_asked) (C__law_count : Cal shR P w K base "_law_count" 9 1 (F__law_count 8)) (C__law_size : Cal shR P w K base "_law_size" 9 1 (F__law_size 8)) (C__law_rising : Cal shR P w K base "_law_rising" 1 2 F__law_rising) (C__law_key : Cal shR P w K base "_law_key" 18 3 (F__law_key 8)) (C_choices : Cal shR P w K base "choices" 29 1 F_choices) : FnOk P w K.K K.mg base (L2.CX P w) 31 f fd ["_law_script"] (spD shR K 1 F_law) := by
  have nd := sc_law.nd
  refine fnok_of (M' := [.no, .no, .no, .no, .no, .no, .no, .no, .no]) (k := 30) F sc_law fun cdv A outer s H E hr tk hp => ?_
  show DSs shP _ _ [.sh, .no, .no, .no, .no, .no, .no, .no, .no] _ _ B_law
  unfold B_law B_law_1
  exact (dss_cons (M1 := [.sh, .sh, .no, .no, .no, .no, .no, .no, .no]) (ds_of1 (d1_set 1 nd (ej_call tk later_sh (C__law_tree.mono (by omega)) hr (by rfl) (da_cons (de_slice (DE.bo (de_var 0)) (dp_some (DE.bo de_int)) dp_none) (da_cons (ej_call tk later_sh (C__law_cell_at.mono (by omega)) hr (by rfl) (da_cons (de_var 0) (da_cons de_int da_nil))) da_nil)))))
    (dss_cons (M1 := [.sh, .sh, .sh, .no, .no, .no, .no, .no, .no]) (ds_of1 (d1_set 2 nd (ej_call tk later_sh (C__law_asked.mono (by omega)) hr (by rfl) (da_cons (de_tup (da_cons (DO.sh (do_lst da_nil)) (da_cons (de_var 1) da_nil))) da_nil))))
    (dss_cons (M1 := [.sh, .sh, .sh, .sh, .no, .no, .no, .no, .no]) (ds_of1 (d1_set 3 nd (ej_call tk later_sh (C__law_count.mono (by omega)) hr (by rfl) (da_cons (de_var 1) da_nil))))
    (dss_cons (M1 := [.sh, .sh, .sh, .sh, .no, .no, .no, .no, .no]) (ds_if (M' := [.sh, .sh, .sh, .sh, .no, .no, .no, .no, .no]) (dt_cmp opd_gt (DE.bo (de_var 3)) (DE.bo de_int) (nomark _)) (dss_one (ds_of1 (d1_ret (de_and (de_isa (by rfl) bn.isinstance_ (by rfl) bn.int_ (DE.bo (de_var 2)) (by decide +kernel)) (de_one (de_cmp (opd_eq hr.units) (DE.bo (de_var 2)) (DE.bo de_int) (nomark _))))))) dss_nil)
    (dss_cons (M1 := [.sh, .sh, .sh, .sh, .no, .no, .no, .no, .no]) (ds_if (M' := [.sh, .sh, .sh, .sh, .no, .no, .no, .no, .no]) (dt_w (dw_or (dt_not (dt_val (de_isa (by rfl) bn.isinstance_ (by rfl) bn.list_ (DE.bo (de_var 2)) (by decide +kernel)))) (dw_or1 (dt_cmp (opd_ne hr.units) (DE.bo (dj_callB later_sh cj_len (by rfl) bn.len_ (by decide +kernel) (dab_cons (DE.bo (de_var 2)) dab_nil))) (DE.bo (de_var 3)) (nomark _))))) (dss_one (ds_of1 (d1_ret de_bl))) dss_nil)
    (dss_cons (M1 := [.sh, .sh, .sh, .sh, .sh, .no, .no, .no, .no]) (ds_of1 (d1_set 4 nd de_non))
    (dss_cons (M1 := [.sh, .sh, .sh, .sh, .sh, .no, .no, .no, .no]) (ds_for hp rfl (di_list (de_var 2)) (dg_name 5 nd) (dss_wk (M1 := [.sh, .sh, .sh, .sh, .sh, .sh, .sh, .no, .no]) (dss_cons (M1 := [.sh, .sh, .sh, .sh, .sh, .sh, .no, .no, .no]) (ds_if (M' := [.sh, .sh, .sh, .sh, .sh, .sh, .no, .no, .no]) (dt_not (dt_val (ej_call tk later_sh (C__law_rising.mono (by omega)) hr (by rfl) (da_cons (de_var 5) (da_cons (ej_call tk later_sh (C__law_size.mono (by omega)) hr (by rfl) (da_cons (de_var 1) da_nil)) da_nil))))) (dss_one (ds_of1 (d1_ret de_bl))) dss_nil)
    (dss_cons (M1 := [.sh, .sh, .sh, .sh, .sh, .sh, .sh, .no, .no]) (ds_of1 (d1_set 6 nd (ej_call tk later_sh (C__law_key.mono (by omega)) hr (by rfl) (da_cons (de_var 1) (da_cons de_int (da_cons (de_var 5) da_nil))))))
    (dss_cons (M1 := [.sh, .sh, .sh, .sh, .sh, .sh, .sh, .no, .no]) (ds_if (M' := [.sh, .sh, .sh, .sh, .sh, .sh, .sh, .no, .no]) (dt_w (dw_or (dt_cmp opd_is (DE.bo (de_var 6)) (DE.bo de_non) (nomark _)) (dw_or1 (dt_w (dw_and (dt_cmp opd_isNot (DE.bo (de_var 4)) (DE.bo de_non) (nomark _)) (dw_and1 (dt_not (dt_cmp (opd_ltA hr.units) (DE.bo (de_var 4)) (DE.bo (de_var 6)) (nomark _))))))))) (dss_one (ds_of1 (d1_ret de_bl))) dss_nil)
    (dss_one (ds_of1 (d1_set 4 nd (de_var 6))))))) (by rfl)))
    (dss_cons (M1 := [.sh, .sh, .sh, .sh, .sh, .no, .no, .sh, .no]) (ds_sharedEnd 7 (ds_of1 (d1_setLc 7 rfl nd (sw_true rfl rfl rfl (by decide +kernel)) (DI.cmp (di_list (de_var 2))) ([("_law_choice", 5)] : List (Str × Nat)) (blkOk_at (N' := N_law) (sc' := defScope s_law) rfl rfl (by decide +kernel)) (fun _ => (dg_name 5 nd)) (fun _ => dts_nil) (fun _ => (DO.sh (dj_callTy later_ow (cj_list rfl) (by rfl) bn.list_ (by decide +kernel) (dab_cons (DE.bo (de_var 5)) dab_nil)))))) (by rfl))
    (dss_mut 8 nd tk (C_choices.mono (by omega)) hr (by rfl) (da_cons (de_tup (da_cons (DO.sh (do_lst da_nil)) (da_cons (de_var 1) da_nil))) da_nil)
    (dss_one (ds_of1 (d1_ret (de_and (de_cmp (opd_eq hr.units) (DE.bo (de_var 2)) (DE.bo (de_var 7)) (nomark _)) (de_one (de_cmp (opd_eq hr.units) (DE.bo (de_var 1)) (DE.bo (ej_call tk later_sh (C__law_tree.mono (by omega)) hr (by rfl) (da_cons (de_slice (DE.bo (de_var 0)) (dp_some (DE.bo de_int)) dp_none) (da_cons (ej_call tk later_sh (C__law_cell_at.mono (by omega)) hr (by rfl) (da_cons (de_var 0) (da_cons de_int da_nil))) da_nil)))) (nomark _))))))))))))))))

end
theorem all_mk {l : PySem.W.OpenLaw} {w : World} {K : PySem.W.Frag} {h : Heap} {mg : Str → Option Value} {fa f1 f2 f3 f4 f5 f6 f7 f8 f9 f10 f11 f12 f13 f14 f15 f16 f17 f18 f19 f20 K_CourtError K_TooMany : Addr} (X : K.In h) (G : h.Ns mainGlobals mg) (hfa : mg "law" = some (.ref fa))
    {od1 an1 od2 an2 od3 an3 od4 an4 od5 an5 od6 an6 od7 an7 od8 an8 od9 an9 od10 an10 od11 an11 od12 an12 od13 an13 od14 an14 od15 an15 od16 an16 od17 an17 od18 an18 od19 an19 od20 an20 : Option Addr} {sl1 sl2 sl3 sl4 sl5 sl6 sl7 sl8 sl9 sl10 sl11 sl12 sl13 sl14 sl15 sl16 sl17 sl18 sl19 sl20 : Array (Option Value)} {oc1 kV1 dc1 pm1 cd1 ct1 oc2 kV2 dc2 pm2 cd2 ct2 oc3 kV3 dc3 pm3 cd3 ct3 oc4 kV4 dc4 pm4 cd4 ct4 oc5 kV5 dc5 pm5 cd5 ct5 oc6 kV6 dc6 pm6 cd6 ct6 oc7 kV7 dc7 pm7 cd7 ct7 oc8 kV8 dc8 pm8 cd8 ct8 oc9 kV9 dc9 pm9 cd9 ct9 oc10 kV10 dc10 pm10 cd10 ct10 oc11 kV11 dc11 pm11 cd11 ct11 oc12 kV12 dc12 pm12 cd12 ct12 oc13 kV13 dc13 pm13 cd13 ct13 oc14 kV14 dc14 pm14 cd14 ct14 oc15 kV15 dc15 pm15 cd15 ct15 oc16 kV16 dc16 pm16 cd16 ct16 oc17 kV17 dc17 pm17 cd17 ct17 oc18 kV18 dc18 pm18 cd18 ct18 oc19 kV19 dc19 pm19 cd19 ct19 oc20 kV20 dc20 pm20 cd20 ct20 : Value}
    (a1 : PySem.W.nsIn K mainGlobals "is_leaf" = some (some (.ref f1))) (l1 : K.lookup f1 = some ⟨oc1, od1, .func (PySem.W.fnOf "is_leaf" "is_leaf" (defArgs s_is_leaf) (defBody s_is_leaf) (defScope s_is_leaf) .none kV1 dc1 pm1 an1 cd1 ct1), sl1⟩) (c1 : PySem.W.codeIn K cd1 "is_leaf" = true) (k1 : PySem.W.keepIn K (.ref f1) = true)
    (a2 : PySem.W.nsIn K mainGlobals "rules_of" = some (some (.ref f2))) (l2 : K.lookup f2 = some ⟨oc2, od2, .func (PySem.W.fnOf "rules_of" "rules_of" (defArgs s_rules_of) (defBody s_rules_of) (defScope s_rules_of) .none kV2 dc2 pm2 an2 cd2 ct2), sl2⟩) (c2 : PySem.W.codeIn K cd2 "rules_of" = true) (k2 : PySem.W.keepIn K (.ref f2) = true)
    (a3 : PySem.W.nsIn K mainGlobals "count_rule" = some (some (.ref f3))) (l3 : K.lookup f3 = some ⟨oc3, od3, .func (PySem.W.fnOf "count_rule" "count_rule" (defArgs s_count_rule) (defBody s_count_rule) (defScope s_count_rule) .none kV3 dc3 pm3 an3 cd3 ct3), sl3⟩) (c3 : PySem.W.codeIn K cd3 "count_rule" = true) (k3 : PySem.W.keepIn K (.ref f3) = true)
    (a4 : PySem.W.nsIn K mainGlobals "count_choices" = some (some (.ref f4))) (l4 : K.lookup f4 = some ⟨oc4, od4, .func (PySem.W.fnOf "count_choices" "count_choices" (defArgs s_count_choices) (defBody s_count_choices) (defScope s_count_choices) .none kV4 dc4 pm4 an4 cd4 ct4), sl4⟩) (c4 : PySem.W.codeIn K cd4 "count_choices" = true) (k4 : PySem.W.keepIn K (.ref f4) = true)
    (a5 : PySem.W.nsIn K mainGlobals "takes" = some (some (.ref f5))) (l5 : K.lookup f5 = some ⟨oc5, od5, .func (PySem.W.fnOf "takes" "takes" (defArgs s_takes) (defBody s_takes) (defScope s_takes) .none kV5 dc5 pm5 an5 cd5 ct5), sl5⟩) (c5 : PySem.W.codeIn K cd5 "takes" = true) (k5 : PySem.W.keepIn K (.ref f5) = true)
    (a6 : PySem.W.nsIn K mainGlobals "together" = some (some (.ref f6))) (l6 : K.lookup f6 = some ⟨oc6, od6, .func (PySem.W.fnOf "together" "together" (defArgs s_together) (defBody s_together) (defScope s_together) .none kV6 dc6 pm6 an6 cd6 ct6), sl6⟩) (c6 : PySem.W.codeIn K cd6 "together" = true) (k6 : PySem.W.keepIn K (.ref f6) = true)
    (a7 : PySem.W.nsIn K mainGlobals "leaf_count" = some (some (.ref f7))) (l7 : K.lookup f7 = some ⟨oc7, od7, .func (PySem.W.fnOf "leaf_count" "leaf_count" (defArgs s_leaf_count) (defBody s_leaf_count) (defScope s_leaf_count) .none kV7 dc7 pm7 an7 cd7 ct7), sl7⟩) (c7 : PySem.W.codeIn K cd7 "leaf_count" = true) (k7 : PySem.W.keepIn K (.ref f7) = true)
    (a8 : PySem.W.nsIn K mainGlobals "listed" = some (some (.ref f8))) (l8 : K.lookup f8 = some ⟨oc8, od8, .func (PySem.W.fnOf "listed" "listed" (defArgs s_listed) (defBody s_listed) (defScope s_listed) .none kV8 dc8 pm8 an8 cd8 ct8), sl8⟩) (c8 : PySem.W.codeIn K cd8 "listed" = true) (k8 : PySem.W.keepIn K (.ref f8) = true)
    (a9 : PySem.W.nsIn K mainGlobals "choices" = some (some (.ref f9))) (l9 : K.lookup f9 = some ⟨oc9, od9, .func (PySem.W.fnOf "choices" "choices" (defArgs s_choices) (defBody s_choices) (defScope s_choices) .none kV9 dc9 pm9 an9 cd9 ct9), sl9⟩) (c9 : PySem.W.codeIn K cd9 "choices" = true) (k9 : PySem.W.keepIn K (.ref f9) = true)
    (a10 : PySem.W.nsIn K mainGlobals "_law_cell_at" = some (some (.ref f10))) (l10 : K.lookup f10 = some ⟨oc10, od10, .func (PySem.W.fnOf "_law_cell_at" "_law_cell_at" (defArgs s__law_cell_at) (defBody s__law_cell_at) (defScope s__law_cell_at) .none kV10 dc10 pm10 an10 cd10 ct10), sl10⟩) (c10 : PySem.W.codeIn K cd10 "_law_cell_at" = true) (k10 : PySem.W.keepIn K (.ref f10) = true)
    (a11 : PySem.W.nsIn K mainGlobals "_law_mixed" = some (some (.ref f11))) (l11 : K.lookup f11 = some ⟨oc11, od11, .func (PySem.W.fnOf "_law_mixed" "_law_mixed" (defArgs s__law_mixed) (defBody s__law_mixed) (defScope s__law_mixed) .none kV11 dc11 pm11 an11 cd11 ct11), sl11⟩) (c11 : PySem.W.codeIn K cd11 "_law_mixed" = true) (k11 : PySem.W.keepIn K (.ref f11) = true)
    (a12 : PySem.W.nsIn K mainGlobals "_law_leaf" = some (some (.ref f12))) (l12 : K.lookup f12 = some ⟨oc12, od12, .func (PySem.W.fnOf "_law_leaf" "_law_leaf" (defArgs s__law_leaf) (defBody s__law_leaf) (defScope s__law_leaf) .none kV12 dc12 pm12 an12 cd12 ct12), sl12⟩) (c12 : PySem.W.codeIn K cd12 "_law_leaf" = true) (k12 : PySem.W.keepIn K (.ref f12) = true)
    (a13 : PySem.W.nsIn K mainGlobals "_law_group" = some (some (.ref f13))) (l13 : K.lookup f13 = some ⟨oc13, od13, .func (PySem.W.fnOf "_law_group" "_law_group" (defArgs s__law_group) (defBody s__law_group) (defScope s__law_group) .none kV13 dc13 pm13 an13 cd13 ct13), sl13⟩) (c13 : PySem.W.codeIn K cd13 "_law_group" = true) (k13 : PySem.W.keepIn K (.ref f13) = true)
    (a14 : PySem.W.nsIn K mainGlobals "_law_tree" = some (some (.ref f14))) (l14 : K.lookup f14 = some ⟨oc14, od14, .func (PySem.W.fnOf "_law_tree" "_law_tree" (defArgs s__law_tree) (defBody s__law_tree) (defScope s__law_tree) .none kV14 dc14 pm14 an14 cd14 ct14), sl14⟩) (c14 : PySem.W.codeIn K cd14 "_law_tree" = true) (k14 : PySem.W.keepIn K (.ref f14) = true)
    (a15 : PySem.W.nsIn K mainGlobals "_law_count" = some (some (.ref f15))) (l15 : K.lookup f15 = some ⟨oc15, od15, .func (PySem.W.fnOf "_law_count" "_law_count" (defArgs s__law_count) (defBody s__law_count) (defScope s__law_count) .none kV15 dc15 pm15 an15 cd15 ct15), sl15⟩) (c15 : PySem.W.codeIn K cd15 "_law_count" = true) (k15 : PySem.W.keepIn K (.ref f15) = true)
    (a16 : PySem.W.nsIn K mainGlobals "_law_size" = some (some (.ref f16))) (l16 : K.lookup f16 = some ⟨oc16, od16, .func (PySem.W.fnOf "_law_size" "_law_size" (defArgs s__law_size) (defBody s__law_size) (defScope s__law_size) .none kV16 dc16 pm16 an16 cd16 ct16), sl16⟩) (c16 : PySem.W.codeIn K cd16 "_law_size" = true) (k16 : PySem.W.keepIn K (.ref f16) = true)
    (a17 : PySem.W.nsIn K mainGlobals "_law_key" = some (some (.ref f17))) (l17 : K.lookup f17 = some ⟨oc17, od17, .func (PySem.W.fnOf "_law_key" "_law_key" (defArgs s__law_key) (defBody s__law_key) (defScope s__law_key) .none kV17 dc17 pm17 an17 cd17 ct17), sl17⟩) (c17 : PySem.W.codeIn K cd17 "_law_key" = true) (k17 : PySem.W.keepIn K (.ref f17) = true)
    (a18 : PySem.W.nsIn K mainGlobals "_law_rising" = some (some (.ref f18))) (l18 : K.lookup f18 = some ⟨oc18, od18, .func (PySem.W.fnOf "_law_rising" "_law_rising" (defArgs s__law_rising) (defBody s__law_rising) (defScope s__law_rising) .none kV18 dc18 pm18 an18 cd18 ct18), sl18⟩) (c18 : PySem.W.codeIn K cd18 "_law_rising" = true) (k18 : PySem.W.keepIn K (.ref f18) = true)
    (a19 : PySem.W.nsIn K mainGlobals "_law_asked" = some (some (.ref f19))) (l19 : K.lookup f19 = some ⟨oc19, od19, .func (PySem.W.fnOf "_law_asked" "_law_asked" (defArgs s__law_asked) (defBody s__law_asked) (defScope s__law_asked) .none kV19 dc19 pm19 an19 cd19 ct19), sl19⟩) (c19 : PySem.W.codeIn K cd19 "_law_asked" = true) (k19 : PySem.W.keepIn K (.ref f19) = true)
    (a20 : PySem.W.nsIn K mainGlobals "law" = some (some (.ref f20))) (l20 : K.lookup f20 = some ⟨oc20, od20, .func (PySem.W.fnOf "law" "law" (defArgs s_law) (defBody s_law) (defScope s_law) .none kV20 dc20 pm20 an20 cd20 ct20), sl20⟩) (c20 : PySem.W.codeIn K cd20 "law" = true) (k20 : PySem.W.keepIn K (.ref f20) = true)
    (aC_CourtError : PySem.W.nsIn K mainGlobals "CourtError" = some (some (.ref K_CourtError)))    (aC_TooMany : PySem.W.nsIn K mainGlobals "TooMany" = some (some (.ref K_TooMany)))    (eb_TooMany : excB K K_TooMany "most" [(.ref K_CourtError, true), (.ref K_TooMany, true), (.type "ValueError", true)] = true)
    {xq1_TooMany xq2_TooMany : Str} {xN_TooMany : Addr} {xbs_TooMany : List Value} {xsn_TooMany : List Str} {xsu_TooMany : List Value} {xab_TooMany : Bool} {xco_TooMany : Option Bool} {xdd_TooMany : Option Addr} {xm0_TooMany xm1_TooMany xm2_TooMany xm3_TooMany xm5_TooMany : Option Value} {xf_TooMany : Addr} {xod_TooMany xan_TooMany : Option Addr} {xsl_TooMany : Array (Option Value)} {xoc_TooMany xkV_TooMany xdc_TooMany xpm_TooMany xcd_TooMany xct_TooMany : Value}
    (xL_TooMany : K.lookup K_TooMany = some (excClassObj xq1_TooMany xq2_TooMany K_TooMany xN_TooMany xbs_TooMany [.ref K_CourtError, .type "ValueError", .type "Exception", .type "BaseException", .type "object"] true xsn_TooMany xsu_TooMany xab_TooMany xco_TooMany xdd_TooMany xm0_TooMany xm1_TooMany xm2_TooMany xm3_TooMany xm5_TooMany "ValueError.__new__"))
    (xsa_TooMany : PySem.W.findIn K (.ref K_TooMany) "__setattr__" = some (some (.builtin "object.__setattr__"))) (xex_TooMany : PySem.W.subIn K (.ref K_TooMany) (.type "BaseException") = some true) (xty_TooMany : PySem.W.typeIn K (.ref K_TooMany) = some (.type "type")) (xkc_TooMany : PySem.W.keepIn K (.ref K_TooMany) = true) (xno_TooMany : PySem.W.findIn K (.ref K_TooMany) "most" = some none)
    (xa_TooMany : PySem.W.findIn K (.ref K_TooMany) "__init__" = some (some (.ref xf_TooMany))) (xt_TooMany : PySem.W.typeIn K (.ref xf_TooMany) = some (.type "function")) (xl_TooMany : K.lookup xf_TooMany = some ⟨xoc_TooMany, xod_TooMany, .func (PySem.W.fnOf "__init__" "TooMany.__init__" (defArgs s_TooMany_init) (defBody s_TooMany_init) (defScope s_TooMany_init) .none xkV_TooMany xdc_TooMany xpm_TooMany xan_TooMany xcd_TooMany xct_TooMany), xsl_TooMany⟩) (xc_TooMany : PySem.W.codeIn K xcd_TooMany "TooMany.__init__" = true) (xkf_TooMany : PySem.W.keepIn K (.ref xf_TooMany) = true)
    (zx_NoText : PySem.W.nsIn K mainGlobals "NoText" = some none)    (zx_NoPlan : PySem.W.nsIn K mainGlobals "NoPlan" = some none)    (zx_NoName : PySem.W.nsIn K mainGlobals "NoName" = some none)    (zx_NoRow : PySem.W.nsIn K mainGlobals "NoRow" = some none)    (zVE : PySem.W.nsIn K mainGlobals "ValueError" = some none) (xs0 : PySem.W.specialIn K (.builtin "object.__class__") "__get__" = some (some (.builtin "getset_descriptor.__get__"))) (xs1 : PySem.W.takesIn K (.builtin "object.__class__") = some true)
    (z0 : PySem.W.nsIn K mainGlobals "len" = some none)    (z1 : PySem.W.nsIn K mainGlobals "range" = some none)    (z2 : PySem.W.nsIn K mainGlobals "isinstance" = some none)    (z3 : PySem.W.nsIn K mainGlobals "int" = some none)    (z4 : PySem.W.nsIn K mainGlobals "bool" = some none)    (z5 : PySem.W.nsIn K mainGlobals "str" = some none)    (z6 : PySem.W.nsIn K mainGlobals "list" = some none)    (z7 : PySem.W.nsIn K mainGlobals "tuple" = some none)    (z8 : PySem.W.nsIn K mainGlobals "min" = some none)    (z9 : PySem.W.nsIn K mainGlobals "max" = some none)    (z10 : PySem.W.nsIn K mainGlobals "sum" = some none)    (z11 : PySem.W.nsIn K mainGlobals "sorted" = some none)    (z12 : PySem.W.nsIn K mainGlobals "set" = some none)    (z13 : PySem.W.nsIn K mainGlobals "all" = some none)    (z14 : PySem.W.nsIn K mainGlobals "dict" = some none)    (z15 : PySem.W.nsIn K mainGlobals "enumerate" = some none)    (z16 : PySem.W.nsIn K mainGlobals "reversed" = some none)
    {gt0 : Tok} (u0 : PySem.W.nsIn K mainGlobals "MOST_CHOICES" = some (some (.int 32 gt0))) :
    ∃ fd : FuncData, (∀ (s : Shared) (v : Value), BindsTo s fd ⟨[v], []⟩ [("_law_script", v)]) ∧ ∀ base : Heap, K.In base → base.Ns mainGlobals mg → FnOk l.prog w K mg base (L2.CX l.prog w) 31 fa fd ["_law_script"] (spD shR ⟨K, mg⟩ 1 F_law) := by
  have e := hfa.symm.trans (PySem.W.mg_of X G a20)
  cases e
  have X1 := fun_mk (st := s_is_leaf) l1 c1 k1
  have b1 := X1.binds (ps := ["rule"]) fun _ _ _ _ _ _ us hl => match us, hl with | [_], _ => rfl
  have X2 := fun_mk (st := s_rules_of) l2 c2 k2
  have b2 := X2.binds (ps := ["group"]) fun _ _ _ _ _ _ us hl => match us, hl with | [_], _ => rfl
  have X3 := fun_mk (st := s_count_rule) l3 c3 k3
  have b3 := X3.binds (ps := ["rule"]) fun _ _ _ _ _ _ us hl => match us, hl with | [_], _ => rfl
  have X4 := fun_mk (st := s_count_choices) l4 c4 k4
  have b4 := X4.binds (ps := ["course"]) fun _ _ _ _ _ _ us hl => match us, hl with | [_], _ => rfl
  have X5 := fun_mk (st := s_takes) l5 c5 k5
  have b5 := X5.binds (ps := ["many", "first", "count"]) fun _ _ _ _ _ _ us hl => match us, hl with | [_, _, _], _ => rfl
  have X6 := fun_mk (st := s_together) l6 c6 k6
  have b6 := X6.binds (ps := ["some"]) fun _ _ _ _ _ _ us hl => match us, hl with | [_], _ => rfl
  have X7 := fun_mk (st := s_leaf_count) l7 c7 k7
  have b7 := X7.binds (ps := ["rule"]) fun _ _ _ _ _ _ us hl => match us, hl with | [_], _ => rfl
  have X8 := fun_mk (st := s_listed) l8 c8 k8
  have b8 := X8.binds (ps := ["rule", "first"]) fun _ _ _ _ _ _ us hl => match us, hl with | [_, _], _ => rfl
  have X9 := fun_mk (st := s_choices) l9 c9 k9
  have b9 := X9.binds (ps := ["course"]) fun _ _ _ _ _ _ us hl => match us, hl with | [_], _ => rfl
  have X10 := fun_mk (st := s__law_cell_at) l10 c10 k10
  have b10 := X10.binds (ps := ["_law_script", "_law_k"]) fun _ _ _ _ _ _ us hl => match us, hl with | [_, _], _ => rfl
  have X11 := fun_mk (st := s__law_mixed) l11 c11 k11
  have b11 := X11.binds (ps := ["_law_cell", "_law_k"]) fun _ _ _ _ _ _ us hl => match us, hl with | [_, _], _ => rfl
  have X12 := fun_mk (st := s__law_leaf) l12 c12 k12
  have b12 := X12.binds (ps := ["_law_cell"]) fun _ _ _ _ _ _ us hl => match us, hl with | [_], _ => rfl
  have X13 := fun_mk (st := s__law_group) l13 c13 k13
  have b13 := X13.binds (ps := ["_law_cell", "_law_rules"]) fun _ _ _ _ _ _ us hl => match us, hl with | [_, _], _ => rfl
  have X14 := fun_mk (st := s__law_tree) l14 c14 k14
  have b14 := X14.binds (ps := ["_law_cells", "_law_last"]) fun _ _ _ _ _ _ us hl => match us, hl with | [_, _], _ => rfl
  have X15 := fun_mk (st := s__law_count) l15 c15 k15
  have b15 := X15.binds (ps := ["_law_rule"]) fun _ _ _ _ _ _ us hl => match us, hl with | [_], _ => rfl
  have X16 := fun_mk (st := s__law_size) l16 c16 k16
  have b16 := X16.binds (ps := ["_law_rule"]) fun _ _ _ _ _ _ us hl => match us, hl with | [_], _ => rfl
  have X17 := fun_mk (st := s__law_key) l17 c17 k17
  have b17 := X17.binds (ps := ["_law_rule", "_law_first", "_law_chosen"]) fun _ _ _ _ _ _ us hl => match us, hl with | [_, _, _], _ => rfl
  have X18 := fun_mk (st := s__law_rising) l18 c18 k18
  have b18 := X18.binds (ps := ["_law_choice", "_law_size_here"]) fun _ _ _ _ _ _ us hl => match us, hl with | [_, _], _ => rfl
  have X19 := fun_mk (st := s__law_asked) l19 c19 k19
  have b19 := X19.binds (ps := ["_law_course"]) fun _ _ _ _ _ _ us hl => match us, hl with | [_], _ => rfl
  have X20 := fun_mk (st := s_law) l20 c20 k20
  have bn : Bn mg := ⟨PySem.W.mg_none_of X G z0, PySem.W.mg_none_of X G z1, PySem.W.mg_none_of X G z2, PySem.W.mg_none_of X G z3, PySem.W.mg_none_of X G z4, PySem.W.mg_none_of X G z5, PySem.W.mg_none_of X G z6, PySem.W.mg_none_of X G z7, PySem.W.mg_none_of X G z8, PySem.W.mg_none_of X G z9, PySem.W.mg_none_of X G z10, PySem.W.mg_none_of X G z11, PySem.W.mg_none_of X G z12, PySem.W.mg_none_of X G z13, PySem.W.mg_none_of X G z14, PySem.W.mg_none_of X G z15, PySem.W.mg_none_of X G z16⟩
  have gl : Gls (⟨K, mg⟩ : Tx) := ⟨⟨_, PySem.W.mg_of X G u0⟩⟩
  have xT : ExcT (⟨K, mg⟩ : Tx) := excT_of (c0 := "TooMany") (C0 := K_TooMany) (PySem.W.mg_none_of X G zVE) xs0 xs1 (fun c h C hC => by
    simp only [xnames, List.mem_cons, List.not_mem_nil, or_false] at h
    rcases h with rfl | rfl | rfl | rfl | rfl
    · cases (hC.symm.trans (cl_no (PySem.W.mg_none_of X G zx_NoText) ⟨by decide, by decide⟩))
    · cases (hC.symm.trans (cl_of (PySem.W.mg_of X G aC_TooMany)))
      exact ⟨"most", _, eb_TooMany, fun g h => FL.xf_TooMany h, fun x v n => by
      rcases n with ⟨hx, hm⟩ | ⟨rfl, rfl⟩
      · simp only [xnames, List.mem_cons, List.not_mem_nil, or_false] at hx
        rcases hx with rfl | rfl | rfl | rfl | rfl | rfl
        · cases (hm.symm.trans (PySem.W.mg_of X G aC_CourtError)); exact mem_b 0 (b := true) (by decide +kernel) rfl
        · cases (hm.symm.trans (PySem.W.mg_none_of X G zx_NoText))
        · cases (hm.symm.trans (PySem.W.mg_of X G aC_TooMany)); exact mem_b 1 (b := true) (by decide +kernel) rfl
        · cases (hm.symm.trans (PySem.W.mg_none_of X G zx_NoPlan))
        · cases (hm.symm.trans (PySem.W.mg_none_of X G zx_NoName))
        · cases (hm.symm.trans (PySem.W.mg_none_of X G zx_NoRow))
      · exact mem_b 2 (b := true) (by decide +kernel) rfl⟩
    · cases (hC.symm.trans (cl_no (PySem.W.mg_none_of X G zx_NoPlan) ⟨by decide, by decide⟩))
    · cases (hC.symm.trans (cl_no (PySem.W.mg_none_of X G zx_NoName) ⟨by decide, by decide⟩))
    · cases (hC.symm.trans (cl_no (PySem.W.mg_none_of X G zx_NoRow) ⟨by decide, by decide⟩))) (by decide) (cl_of (PySem.W.mg_of X G aC_TooMany))
  have xm : XIn (⟨K, mg⟩ : Tx) ["CourtError", "TooMany"] := (xin_cons (PySem.W.mg_of X G aC_CourtError) (xin_cons (PySem.W.mg_of X G aC_TooMany) xin_nil))
  refine ⟨PySem.W.fnOf "law" "law" (defArgs s_law) (defBody s_law) (defScope s_law) .none kV20 dc20 pm20 an20 cd20 ct20, fun s v => .of_eq rfl, fun base _ _ => ?_⟩
  have xX_TooMany := fun_mk (K := K) (st := s_TooMany_init) xl_TooMany xc_TooMany xkf_TooMany
  have xo_TooMany : OexC K K_TooMany := ⟨⟨_, _, _, _, _, _, _, _, _, _, _, _, _, _, _, xL_TooMany, by rfl⟩, xsa_TooMany, xex_TooMany, xty_TooMany, xkc_TooMany⟩
  have xk : XMs l.prog w (⟨K, mg⟩ : Tx) base [("TooMany", "most")] := (xms_cons ⟨K_TooMany, xf_TooMany, _, ["self", "most"], xo_TooMany, xa_TooMany, xt_TooMany, fn_xinit (P := l.prog) (w := w) (base := base) xX_TooMany sc_TooMany_init rfl (by decide) (by decide) (Or.inl rfl) (Or.inl rfl) xo_TooMany xno_TooMany (fun _ => rfl), xX_TooMany.binds (ps := ["self", "most"]) fun _ _ _ _ _ _ us hl => match us, hl with | [_, _], _ => rfl, PySem.W.mg_of X G aC_TooMany, cl_of (PySem.W.mg_of X G aC_TooMany)⟩ xms_nil)
  have C_is_leaf := ok_is_leaf (P := l.prog) (w := w) (K := ⟨K, mg⟩) (base := base) X1 (PySem.W.mg_of X G a1) b1 bn
  have C_rules_of := ok_rules_of (P := l.prog) (w := w) (K := ⟨K, mg⟩) (base := base) X2 (PySem.W.mg_of X G a2) b2 bn
  have C_count_rule := ok_count_rule (P := l.prog) (w := w) (K := ⟨K, mg⟩) (base := base) X3 (PySem.W.mg_of X G a3) b3 bn C_is_leaf C_rules_of 8
  have C_count_choices := ok_count_choices (P := l.prog) (w := w) (K := ⟨K, mg⟩) (base := base) X4 (PySem.W.mg_of X G a4) b4 bn C_count_rule
  have C_takes := ok_takes (P := l.prog) (w := w) (K := ⟨K, mg⟩) (base := base) X5 (PySem.W.mg_of X G a5) b5 bn 18
  have C_together := ok_together (P := l.prog) (w := w) (K := ⟨K, mg⟩) (base := base) X6 (PySem.W.mg_of X G a6) b6 bn
  have C_leaf_count := ok_leaf_count (P := l.prog) (w := w) (K := ⟨K, mg⟩) (base := base) X7 (PySem.W.mg_of X G a7) b7 bn C_is_leaf C_rules_of 8
  have C_listed := ok_listed (P := l.prog) (w := w) (K := ⟨K, mg⟩) (base := base) X8 (PySem.W.mg_of X G a8) b8 bn C_is_leaf C_rules_of C_leaf_count C_together C_takes 8
  have C_choices := ok_choices (P := l.prog) (w := w) (K := ⟨K, mg⟩) (base := base) X9 (PySem.W.mg_of X G a9) b9 bn gl xT xm xk C_count_choices C_listed
  have C__law_cell_at := ok__law_cell_at (P := l.prog) (w := w) (K := ⟨K, mg⟩) (base := base) X10 (PySem.W.mg_of X G a10) b10 bn
  have C__law_mixed := ok__law_mixed (P := l.prog) (w := w) (K := ⟨K, mg⟩) (base := base) X11 (PySem.W.mg_of X G a11) b11 bn
  have C__law_leaf := ok__law_leaf (P := l.prog) (w := w) (K := ⟨K, mg⟩) (base := base) X12 (PySem.W.mg_of X G a12) b12 bn C__law_mixed
  have C__law_group := ok__law_group (P := l.prog) (w := w) (K := ⟨K, mg⟩) (base := base) X13 (PySem.W.mg_of X G a13) b13 bn
  have C__law_tree := ok__law_tree (P := l.prog) (w := w) (K := ⟨K, mg⟩) (base := base) X14 (PySem.W.mg_of X G a14) b14 bn C__law_mixed C__law_group C__law_leaf
  have C__law_count := ok__law_count (P := l.prog) (w := w) (K := ⟨K, mg⟩) (base := base) X15 (PySem.W.mg_of X G a15) b15 bn 8
  have C__law_size := ok__law_size (P := l.prog) (w := w) (K := ⟨K, mg⟩) (base := base) X16 (PySem.W.mg_of X G a16) b16 bn 8
  have C__law_key := ok__law_key (P := l.prog) (w := w) (K := ⟨K, mg⟩) (base := base) X17 (PySem.W.mg_of X G a17) b17 bn C__law_size 8
  have C__law_rising := ok__law_rising (P := l.prog) (w := w) (K := ⟨K, mg⟩) (base := base) X18 (PySem.W.mg_of X G a18) b18 bn
  have C__law_asked := ok__law_asked (P := l.prog) (w := w) (K := ⟨K, mg⟩) (base := base) X19 (PySem.W.mg_of X G a19) b19 bn xT xm xk C_choices
  exact ok_law (P := l.prog) (w := w) (K := ⟨K, mg⟩) (base := base) X20 bn C__law_cell_at C__law_tree C__law_asked C__law_count C__law_size C__law_rising C__law_key C_choices

end Ck42
open PySem PySem.W PyProof.Rows in
set_option maxRecDepth 100000 in
set_option maxHeartbeats 0 in
theorem PySem.Challenge.cw_court_k42_whole_choices_listed_holds : PySem.Challenge.rw_court_k42_whole_choices_listed.Holds := by
  w_on; o_law; k_head; (case hw => w_witness2)
  k_fill
  refine FL.walk (l := PySem.Challenge.rw_court_k42_whole_choices_listed) (k := 31) (F := Ck42.F_law) rfl rfl ⟨rfl, by decide, by decide⟩ (fun w h Y => PySem.W.kIn_of Y) Ck42.pure_law ?C
  case C =>
    intro w mg fa h KX G hmg
    refine' Ck42.all_mk KX G hmg ?a1 ?l1 ?c1 ?k1 ?a2 ?l2 ?c2 ?k2 ?a3 ?l3 ?c3 ?k3 ?a4 ?l4 ?c4 ?k4 ?a5 ?l5 ?c5 ?k5 ?a6 ?l6 ?c6 ?k6 ?a7 ?l7 ?c7 ?k7 ?a8 ?l8 ?c8 ?k8 ?a9 ?l9 ?c9 ?k9 ?a10 ?l10 ?c10 ?k10 ?a11 ?l11 ?c11 ?k11 ?a12 ?l12 ?c12 ?k12 ?a13 ?l13 ?c13 ?k13 ?a14 ?l14 ?c14 ?k14 ?a15 ?l15 ?c15 ?k15 ?a16 ?l16 ?c16 ?k16 ?a17 ?l17 ?c17 ?k17 ?a18 ?l18 ?c18 ?k18 ?a19 ?l19 ?c19 ?k19 ?a20 ?l20 ?c20 ?k20 ?aC_CourtError ?aC_TooMany ?eb_TooMany ?xL_TooMany ?xsa_TooMany ?xex_TooMany ?xty_TooMany ?xkc_TooMany ?xno_TooMany ?xa_TooMany ?xt_TooMany ?xl_TooMany ?xc_TooMany ?xkf_TooMany ?zx_NoText ?zx_NoPlan ?zx_NoName ?zx_NoRow ?zVE ?xs0 ?xs1 ?z0 ?z1 ?z2 ?z3 ?z4 ?z5 ?z6 ?z7 ?z8 ?z9 ?z10 ?z11 ?z12 ?z13 ?z14 ?z15 ?z16 ?u0
    (case aC_CourtError => k_is)
    (case aC_TooMany => k_is)
    (case a1 => k_is)
    (case l1 => k_is)
    (case c1 => k_is)
    (case k1 => k_is)
    (case a2 => k_is)
    (case l2 => k_is)
    (case c2 => k_is)
    (case k2 => k_is)
    (case a3 => k_is)
    (case l3 => k_is)
    (case c3 => k_is)
    (case k3 => k_is)
    (case a4 => k_is)
    (case l4 => k_is)
    (case c4 => k_is)
    (case k4 => k_is)
    (case a5 => k_is)
    (case l5 => k_is)
    (case c5 => k_is)
    (case k5 => k_is)
    (case a6 => k_is)
    (case l6 => k_is)
    (case c6 => k_is)
    (case k6 => k_is)
    (case a7 => k_is)
    (case l7 => k_is)
    (case c7 => k_is)
    (case k7 => k_is)
    (case a8 => k_is)
    (case l8 => k_is)
    (case c8 => k_is)
    (case k8 => k_is)
    (case a9 => k_is)
    (case l9 => k_is)
    (case c9 => k_is)
    (case k9 => k_is)
    (case a10 => k_is)
    (case l10 => k_is)
    (case c10 => k_is)
    (case k10 => k_is)
    (case a11 => k_is)
    (case l11 => k_is)
    (case c11 => k_is)
    (case k11 => k_is)
    (case a12 => k_is)
    (case l12 => k_is)
    (case c12 => k_is)
    (case k12 => k_is)
    (case a13 => k_is)
    (case l13 => k_is)
    (case c13 => k_is)
    (case k13 => k_is)
    (case a14 => k_is)
    (case l14 => k_is)
    (case c14 => k_is)
    (case k14 => k_is)
    (case a15 => k_is)
    (case l15 => k_is)
    (case c15 => k_is)
    (case k15 => k_is)
    (case a16 => k_is)
    (case l16 => k_is)
    (case c16 => k_is)
    (case k16 => k_is)
    (case a17 => k_is)
    (case l17 => k_is)
    (case c17 => k_is)
    (case k17 => k_is)
    (case a18 => k_is)
    (case l18 => k_is)
    (case c18 => k_is)
    (case k18 => k_is)
    (case a19 => k_is)
    (case l19 => k_is)
    (case c19 => k_is)
    (case k19 => k_is)
    (case a20 => k_is)
    (case l20 => k_is)
    (case c20 => k_is)
    (case k20 => k_is)
    (case eb_TooMany => first | kernel_rfl | decide +kernel | rfl)
    (case xL_TooMany => k_is)
    (case xsa_TooMany => k_is)
    (case xex_TooMany => k_is)
    (case xty_TooMany => k_is)
    (case xkc_TooMany => k_is)
    (case xno_TooMany => k_is)
    (case xa_TooMany => k_is)
    (case xt_TooMany => k_is)
    (case xl_TooMany => k_is)
    (case xc_TooMany => k_is)
    (case xkf_TooMany => k_is)
    (case zx_NoText => k_is)
    (case zx_NoPlan => k_is)
    (case zx_NoName => k_is)
    (case zx_NoRow => k_is)
    (case zVE => k_is)
    (case xs0 => k_is)
    (case xs1 => k_is)
    (case z0 => k_is)
    (case z1 => k_is)
    (case z2 => k_is)
    (case z3 => k_is)
    (case z4 => k_is)
    (case z5 => k_is)
    (case z6 => k_is)
    (case z7 => k_is)
    (case z8 => k_is)
    (case z9 => k_is)
    (case z10 => k_is)
    (case z11 => k_is)
    (case z12 => k_is)
    (case z13 => k_is)
    (case z14 => k_is)
    (case z15 => k_is)
    (case z16 => k_is)
    (case u0 => k_is)
#print axioms PySem.Challenge.cw_court_k42_whole_choices_listed_holds

end
